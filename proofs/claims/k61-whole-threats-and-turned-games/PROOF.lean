import PyProof.Rows.All
import Wide.All
import OpenK.AllK
import Wide.FinOn
import HandS.ForMost
import HandS.TupAny
import HandS.TupMul
import HandS.Style
import HandS.Deep
import HandS.IsInst
import HandS.Conv
import HandS.TupLe
import HandS.Zip
import HandS.NoneIn
import KE.SortData
import KE.DataCmp
import PyProof.Rows.StrCase
import PyProof.Rows.StrCountLaw
import PyProof.Rows.RegReprOcc
import PyProof.ListStr
import KE.DataMinMax
import PyProof.Rows.StrRev
import KE.GoesEnum
import KE.GoesMore
import KE.GoesZip
import PyProof.EnumMake
import PySem.Challenge.RW_fewtoys_k61_whole_threats_and_turned_gam
set_option Elab.async false
set_option linter.all false
set_option maxRecDepth 100000
/-! MP: a small evaluator of the Python subset that the laws use: values D, a store of mutable objects, compiled trees ME / MS. -/
namespace MP
open PySem (Str)

inductive D where
  | non | bl (b : Bool) | int (i : Int) | str (s : List Nat)
  | tup (xs : List D) | lst (xs : List D) | dct (kvs : List (D × D))
  | ref (l : Nat) | fn (f : Nat) | scr (ns : List Int)
  deriving Inhabited

inductive MObj where
  | lst (xs : List D) | dct (kvs : List (D × D))

abbrev Store := List MObj
abbrev MEnv := List (Option D)

/-- how an expression ends -/
inductive R (α : Type) where
  | ok (a : α) (st : Store) | exc (c : Nat) (p : Option D) (st : Store) | bad
/-- how a statement ends -/
inductive RS where
  | nx (env : MEnv) (st : Store) | rt (d : D) (st : Store) | bk (env : MEnv) (st : Store) | ex (c : Nat) (p : Option D) (env : MEnv) (st : Store) | bad

def R.bind {α β : Type} (r : R α) (f : α → Store → R β) : R β := match r with
  | .ok a st => f a st
  | .exc c p st => .exc c p st
  | .bad => .bad
def R.toS (r : R α) (env : MEnv) (f : α → Store → RS) : RS := match r with
  | .ok a st => f a st
  | .exc c p st => .ex c p env st
  | .bad => .bad
def ofO {α : Type} (o : Option α) (st : Store) : R α := match o with
  | some a => .ok a st
  | none => .bad

def SZ : Nat := 16777216

/-! ### data: same, ==, <, depth -/
mutual
def D.same : D → D → Bool
  | .non, .non => true
  | .bl a, .bl b => a == b
  | .int a, .int b => a == b
  | .str a, .str b => a == b
  | .tup a, .tup b => D.sames a b
  | .lst a, .lst b => D.sames a b
  | .dct a, .dct b => D.samek a b
  | .ref a, .ref b => a == b
  | .fn a, .fn b => a == b
  | .scr a, .scr b => a == b
  | _, _ => false
def D.sames : List D → List D → Bool
  | [], [] => true
  | a :: as, b :: bs => D.same a b && D.sames as bs
  | _, _ => false
def D.samek : List (D × D) → List (D × D) → Bool
  | [], [] => true
  | (a, c) :: as, (b, d) :: bs => D.same a b && (D.same c d && D.samek as bs)
  | _, _ => false
end
def MObj.same : MObj → MObj → Bool
  | .lst a, .lst b => D.sames a b
  | .dct a, .dct b => D.samek a b
  | _, _ => false

def b2i (b : Bool) : Int := if b then 1 else 0
mutual
/-- Python's == of plain data -/
def eqD : D → D → Bool
  | .non, .non => true
  | .bl a, .bl b => a == b
  | .bl a, .int j => b2i a == j
  | .int i, .bl b => i == b2i b
  | .int a, .int b => a == b
  | .str a, .str b => a == b
  | .tup a, .tup b => eqDs a b
  | .lst a, .lst b => eqDs a b
  | _, _ => false
def eqDs : List D → List D → Bool
  | [], [] => true
  | a :: as, b :: bs => eqD a b && eqDs as bs
  | _, _ => false
end
mutual
/-- none, boolsOf, intsOf, texts, tuples, lists: at any depth -/
def plain : D → Bool
  | .non => true | .bl _ => true | .int _ => true | .str _ => true
  | .tup xs => plains xs | .lst xs => plains xs
  | _ => false
def plains : List D → Bool
  | [] => true
  | x :: xs => plain x && plains xs
end
mutual
def depth : D → Nat
  | .tup xs => depths xs + 1 | .lst xs => depths xs + 1
  | _ => 0
def depths : List D → Nat
  | [] => 0
  | x :: xs => max (depth x) (depths xs)
end
/-- the two may be compared by == -/
def cmpOk (a b : D) : Bool := plain a && (plain b && decide (min (depth a) (depth b) ≤ 64))
mutual
/-- the two may be compared by < -/
def alikeD : D → D → Bool
  | .bl _, .bl _ => true
  | .non, .non => true
  | .int _, .int _ => true
  | .str _, .str _ => true
  | .tup a, .tup b => alikeDs a b
  | .lst a, .lst b => alikeDs a b
  | _, _ => false
def alikeDs : List D → List D → Bool
  | x :: xs, y :: ys => alikeD x y && alikeDs xs ys
  | [], _ => true
  | _ :: _, [] => true
end
mutual
/-- Python's < of alike data -/
def ltD : D → D → Bool
  | .bl a, .bl b => decide (b2i a < b2i b)
  | .int a, .int b => decide (a < b)
  | .str a, .str b => decide (a < b)
  | .tup a, .tup b => ltDs a b
  | .lst a, .lst b => ltDs a b
  | _, _ => false
def ltDs : List D → List D → Bool
  | [], [] => false
  | [], _ :: _ => true
  | _ :: _, [] => false
  | x :: xs, y :: ys => if eqD x y then ltDs xs ys else ltD x y
end

/-! ### reading the store -/
/-- an object's content, where a value names a mutable one -/
def view (st : Store) (d : D) : Option D := match d with
  | .ref l => match st[l]? with
    | some (.lst xs) => some (.lst xs)
    | some (.dct kvs) => some (.dct kvs)
    | none => none
  | d => some d
def views (st : Store) : List D → Option (List D)
  | [] => some []
  | d :: ds => (view st d).bind fun x => (views st ds).bind fun xs => some (x :: xs)

/-! ### operators -/
inductive Bop where | add | sub | mul | fdiv | mod | pow
  deriving DecidableEq
def mulOk (i j : Int) : Bool := (decide (-(2 ^ 64) < i) && decide (i < 2 ^ 64)) || (decide (-(2 ^ 64) < j) && decide (j < 2 ^ 64))
def rep (xs : List α) (k : Int) : List α := (List.replicate k.toNat xs).flatten
def smallI (k : Int) : Bool := decide (-(2 ^ 62) ≤ k) && decide (k < 2 ^ 62)
def evBin : Bop → D → D → Option D
  | .add, .int a, .int b => some (.int (a + b))
  | .add, .str a, .str b => if a.length + b.length ≤ SZ then some (.str (a ++ b)) else none
  | .add, .tup a, .tup b => if a.length + b.length ≤ SZ then some (.tup (a ++ b)) else none
  | .add, .lst a, .lst b => if a.length + b.length ≤ SZ then some (.lst (a ++ b)) else none
  | .sub, .int a, .int b => some (.int (a - b))
  | .mul, .int a, .int b => if mulOk a b then some (.int (a * b)) else none
  | .mul, .str a, .int k => if smallI k && decide (a.length * k.toNat ≤ SZ) then some (.str (rep a k)) else none
  | .fdiv, .int a, .int b => if 0 < b ∧ b < 1073741824 then some (.int (a / b)) else none
  | .mod, .int a, .int b => if 0 < b then some (.int (a % b)) else none
  | .pow, .int a, .int b => if 0 ≤ b ∧ b ≤ 1000000 ∧ a.natAbs < 2 ^ 64 then some (.int (a ^ b.toNat)) else none
  | _, _, _ => none

/-! ### comparisons -/
inductive Cop where | eq | ne | lt | le | gt | ge | is | isnot | isin | notin
  deriving DecidableEq
/-- whether a text stands within another one -/
def subAt (x : List Nat) : List Nat → Bool
  | [] => x.isEmpty
  | c :: r => x.isPrefixOf (c :: r) || subAt x r
def isOk : D → D → Option Bool
  | .bl a, .bl b => some (a == b)
  | .non, .non => some true
  | _, .non => some false
  | _, _ => none
def inD (x : D) : D → Option Bool
  | .str s => match x with
    | .str [c] => some (s.contains c)
    | _ => none
  | .tup xs => if plains xs && (plain x && decide (min (depths xs) (depth x) ≤ 64)) then some (xs.any fun y => eqD y x) else none
  | .lst xs => if plains xs && (plain x && decide (min (depths xs) (depth x) ≤ 64)) then some (xs.any fun y => eqD y x) else none
  | _ => none
def isNon : D → Bool
  | .non => true
  | _ => false
def ordOk (a b : D) : Bool := alikeD a b && (plain a && (plain b && (!isNon a && decide (min (depth a) (depth b) ≤ 64))))
def evCmp : Cop → D → D → Option Bool
  | .eq, a, b => if cmpOk a b then some (eqD a b) else none
  | .ne, a, b => if cmpOk a b then some (!eqD a b) else none
  | .lt, .int a, .int b => some (decide (a < b))
  | .le, .int a, .int b => some (decide (a ≤ b))
  | .gt, .int a, .int b => some (decide (b < a))
  | .ge, .int a, .int b => some (decide (b ≤ a))
  | .lt, a, b => if ordOk a b then some (ltD a b) else none
  | .le, a, b => if ordOk a b then some (!ltD b a) else none
  | .gt, a, b => if ordOk a b then some (ltD b a) else none
  | .ge, a, b => if ordOk a b then some (!ltD a b) else none
  | .is, a, b => isOk a b
  | .isnot, a, b => (isOk a b).map (!·)
  | .isin, a, b => inD a b
  | .notin, a, b => (inD a b).map (!·)

/-! ### truth -/
def truth : D → Option Bool
  | .bl b => some b
  | _ => none

/-! ### subscripts, slices -/
def atL {α : Type} (xs : List α) (i : Int) : Option α := if 0 ≤ i then xs[i.toNat]? else if -(xs.length : Int) ≤ i then xs[(i + xs.length).toNat]? else none
def dget (kvs : List (D × D)) (k : D) : Option D := (kvs.find? fun p => eqD p.1 k).map (·.2)
def evIx : D → D → Option D
  | .lst xs, .int i => atL xs i
  | .tup xs, .int i => atL xs i
  | .str s, .int i => (atL s i).map fun c => .str [c]

  | _, _ => none
def clip (n d : Nat) : Option Int → Nat
  | none => d
  | some v => if v < 0 then (max (v + (n : Int)) 0).toNat else (min v (n : Int)).toNat
def cut {α : Type} (xs : List α) (lo hi : Option Int) : List α := (xs.drop (clip xs.length 0 lo)).take (clip xs.length xs.length hi - clip xs.length 0 lo)
def evSl : D → Option Int → Option Int → Option D
  | .lst xs, lo, hi => some (.lst (cut xs lo hi))
  | .tup xs, lo, hi => some (.tup (cut xs lo hi))
  | .str s, lo, hi => some (.str (cut s lo hi))
  | .scr ns, lo, hi => some (.lst ((cut ns lo hi).map D.int))
  | _, _, _ => none
def evRev : D → Option D
  | .lst xs => some (.lst xs.reverse)
  | .str s => some (.str s.reverse)
  | _ => none

/-! ### built-ins on values -/
inductive Bf where
  | len | abs | int | str | min1 | max1 | min2 | max2 | sum1 | sum2 | any | all | sorted | list | tuple
  | isStr | isInt | isBool | isTuple | isList | isDict | isListTuple
  | lenset | sortedset | repr | range | enum | zip | dict | items
  | count | index | join | split | upper | get1 | get2
  deriving DecidableEq
def intsOf : List D → Option (List Int)
  | [] => some []
  | .int i :: r => (intsOf r).bind fun q => some (i :: q)
  | _ :: _ => none
def boolsOf : List D → Option (List Bool)
  | [] => some []
  | .bl i :: r => (boolsOf r).bind fun q => some (i :: q)
  | _ :: _ => none
def strsOf : List D → Option (List (List Nat))
  | [] => some []
  | .str i :: r => (strsOf r).bind fun q => some (i :: q)
  | _ :: _ => none
/-- all the items may be compared with one another -/
def allAlike (xs : List D) : Bool := xs.all fun a => plain a && decide (depth a ≤ 64) && xs.all fun b => alikeD a b
def leD (a b : D) : Bool := !ltD b a
def sortD (xs : List D) : List D := xs.mergeSort leD
/-- the first least one -/
def minD : D → List D → D
  | m, [] => m
  | m, x :: xs => minD (if ltD x m then x else m) xs
def maxD : D → List D → D
  | m, [] => m
  | m, x :: xs => maxD (if ltD m x then x else m) xs
def seqOf : D → Option (List D)
  | .lst xs => some xs
  | .tup xs => some xs
  | .str s => some (s.map fun c => .str [c])
  | .dct kvs => some (kvs.map (·.1))
  | _ => none
def firsts : List D → List D → List D
  | acc, [] => acc
  | acc, x :: xs => firsts (if acc.any (fun y => eqD y x) then acc else acc ++ [x]) xs
def joinN (sep : List Nat) : List (List Nat) → List Nat
  | [] => []
  | [x] => x
  | x :: y :: r => x ++ sep ++ joinN sep (y :: r)
def countN (s x : List Nat) : Nat := match x with
  | [c] => s.count c
  | _ => 0
def enumN : Nat → List D → List D
  | _, [] => []
  | i, x :: xs => .tup [.int i, x] :: enumN (i + 1) xs
def zipN : List D → List D → List D
  | x :: xs, y :: ys => .tup [x, y] :: zipN xs ys
  | _, _ => []
def rangeN (lo : Int) (n : Nat) : List D := (List.range n).map fun (i : Nat) => D.int (lo + (i : Int))
def digitsN (n : Nat) : List Nat := (Nat.toDigits 10 n).map Char.toNat
def strI (i : Int) : List Nat := if i < 0 then 45 :: digitsN i.natAbs else digitsN i.natAbs
def isStrD : D → Bool | .str _ => true | _ => false
def isIntD : D → Bool | .int _ => true | .bl _ => true | _ => false
def isBoolD : D → Bool | .bl _ => true | _ => false
def isTupD : D → Bool | .tup _ => true | _ => false
def isLstD : D → Bool | .lst _ => true | _ => false
def isDctD : D → Bool | .dct _ => true | _ => false
/-- a value whose kind is known -/
def kindOk : D → Bool
  | .fn _ => false | .scr _ => false | .ref _ => false | _ => true
def bLen : List D → Option D
  | [.str s] => some (.int s.length)
  | [.lst xs] => some (.int xs.length)
  | [.tup xs] => some (.int xs.length)
  | _ => none
def bAbs : List D → Option D
  | [.int i] => some (.int (if i < 0 then -i else i))
  | _ => none
def bInt : List D → Option D
  | [.int i] => some (.int i)
  | [.bl b] => some (.int (b2i b))
  | _ => none
def bAny : List D → Option D
  | [.lst xs] => (boolsOf xs).map fun q => .bl (q.any id)
  | _ => none
def bAll : List D → Option D
  | [.lst xs] => (boolsOf xs).map fun q => .bl (q.all id)
  | _ => none
def bSum : List D → Option D
  | [.lst xs] => (intsOf xs).map fun q => .int q.sum
  | _ => none
def bList : List D → Option D
  | [.lst xs] => some (.lst xs)
  | [.tup xs] => some (.lst xs)
  | [.str s] => some (.lst (s.map fun c => .str [c]))
  | _ => none
def bTuple : List D → Option D
  | [.lst xs] => some (.tup xs)
  | [.tup xs] => some (.tup xs)
  | _ => none
def bIs (f : D → Bool) : List D → Option D
  | [d] => if kindOk d then some (.bl (f d)) else none
  | _ => none
def bCount : List D → Option D
  | [.str s, .str [c]] => some (.int (s.count c))
  | _ => none
def joinOk (s : List Nat) (q : List (List Nat)) : Bool := decide ((q.map List.length).sum + q.length * s.length ≤ SZ)
def bJoin : List D → Option D
  | [.str s, .lst xs] => (strsOf xs).bind fun q => if joinOk s q then some (.str (joinN s q)) else none
  | [.str s, .tup xs] => (strsOf xs).bind fun q => if joinOk s q then some (.str (joinN s q)) else none
  | _ => none
def up1 (c : Nat) : Nat := if 97 ≤ c ∧ c ≤ 122 then c - 32 else c
def bUpper : List D → Option D
  | [.str s] => if s.all (fun c => decide (c < 128)) && decide (s.length ≤ 1000) then some (.str (s.map up1)) else none
  | _ => none
/-- alike, none of them none, not too deep -/
def minOk (xs : List D) : Bool := plains xs && ((xs.all fun a => !isNon a && xs.all fun b => alikeD a b) && decide (depths xs ≤ 64))
def bMin : List D → Option D
  | [.lst (x :: xs)] => if minOk (x :: xs) then some (minD x xs) else none
  | [.tup (x :: xs)] => if minOk (x :: xs) then some (minD x xs) else none
  | _ => none
def bMax : List D → Option D
  | [.lst (x :: xs)] => if minOk (x :: xs) then some (maxD x xs) else none
  | [.tup (x :: xs)] => if minOk (x :: xs) then some (maxD x xs) else none
  | _ => none
def evB (f : Bf) (xs : List D) : Option D := match f with
  | .min1 => bMin xs
  | .max1 => bMax xs
  | .len => bLen xs
  | .abs => bAbs xs
  | .int => bInt xs
  | .any => bAny xs
  | .all => bAll xs
  | .sum1 => bSum xs
  | .list => bList xs
  | .tuple => bTuple xs
  | .isStr => bIs isStrD xs
  | .isInt => bIs isIntD xs
  | .isBool => bIs isBoolD xs
  | .isTuple => bIs isTupD xs
  | .isList => bIs isLstD xs
  | .isDict => bIs isDctD xs
  | .isListTuple => bIs (fun d => isLstD d || isTupD d) xs
  | .count => bCount xs
  | .join => bJoin xs
  | .upper => bUpper xs
  | _ => none

/-! ### the compiled trees -/
/-- what a for or a comprehension walks: a list, tuple or text, or a mutable list; a range; enumerate; zip -/
inductive IK where | seq | rng | enum | zip
  deriving DecidableEq
inductive Tgt where | nm (i : Nat) | tp (is : List Nat)
inductive ME where
  | con (d : D)
  | var (i : Nat)
  | bin (op : Bop) (a b : ME)
  | neg (a : ME)
  | nt (a : ME)
  | and (a b : ME) | or (a b : ME)
  | ite (c a b : ME)
  | cmp (op : Cop) (a b : ME)
  | chain (op op2 : Cop) (a b c : ME)
  | call (f : Nat) (args : List ME)
  | blt (f : Bf) (args : List ME)
  | tup (es : List ME)
  | lst (mu : Bool) (es : List ME)
  | dct (mu : Bool) (kvs : List (ME × ME))
  | ix (a i : ME)
  | slice (a : ME) (lo hi : Option ME)
  | rev (a : ME)
  | comp (mu : Bool) (elt : ME) (tg : Tgt) (own : List Nat) (k : IK) (args : List ME) (cond : Option ME)
  | mutl (a : ME)
  | app (o e : ME) | ext (o e : ME) | pop (o : ME) | popAt (o i : ME)
inductive MS where
  | asg (i : Nat) (e : ME)
  | asgT (is : List Nat) (e : ME)
  | setIx (o i e : ME)
  | exp (e : ME)
  | ret (e : ME)
  | ife (c : ME) (a b : List MS)
  | forr (tg : Tgt) (k : IK) (args : List ME) (body : List MS)
  | whl (c : ME) (body : List MS)
  | brk
  | pas
  | rse (c : Nat)

/-! ### helpers of the evaluator -/
def setV (env : MEnv) (i : Nat) (d : D) : MEnv := env.set i (some d)
def setVs : MEnv → List Nat → List D → Option MEnv
  | env, [], [] => some env
  | env, i :: is, d :: ds => setVs (setV env i d) is ds
  | _, _, _ => none
def asgTgt (env : MEnv) : Tgt → D → Option MEnv
  | .nm i, d => some (setV env i d)
  | .tp is, .tup ds => setVs env is ds
  | _, _ => none
def wipeE (env : MEnv) : List Nat → MEnv
  | [] => env
  | v :: vs => (wipeE env vs).set v none
/-- the things that stand still while they are walked -/
abbrev Guard := List (Nat × MObj)
def gok (g : Guard) (st : Store) : Bool := g.all fun p => match st[p.1]? with
  | some o => MObj.same o p.2
  | none => false
def guardOf (st : Store) : D → Guard
  | .ref l => match st[l]? with
    | some o => [(l, o)]
    | none => []
  | _ => []
def seqItems (st : Store) (d : D) : Option (List D × Guard) := (view st d).bind fun x => match x with
  | .lst xs => some (xs, guardOf st d)
  | .tup xs => some (xs, [])
  | .str s => some (s.map fun c => .str [c], [])
  | _ => none
/-- a value that is walked: no mutable one -/
def seqV : D → Option (List D)
  | .lst xs => some xs
  | .tup xs => some xs
  | .str s => some (s.map fun c => .str [c])
  | _ => none
def itemsOf (st : Store) : IK → List D → Option (List D × Guard)
  | .seq, [d] => seqItems st d
  | .rng, [.int j] => if smallI j then some (rangeN 0 j.toNat, []) else none
  | .rng, [.int i, .int j] => if smallI i && smallI j then some (rangeN i (j - i).toNat, []) else none
  | .enum, [d] => (seqV d).map fun p => (enumN 0 p, [])
  | .zip, [a, b] => (seqV a).bind fun p => (seqV b).map fun q => (zipN p q, [])
  | _, _ => none
/-- a comprehension's turns -/
def compL (f : D → Store → R (Option D)) (g : Guard) : List D → List D → Store → R (List D)
  | [], acc, st => .ok acc st
  | x :: xs, acc, st => match f x st with
    | .ok o st' => if gok g st' then match o with
        | some d => if acc.length < SZ then compL f g xs (acc ++ [d]) st' else .bad
        | none => compL f g xs acc st'
      else .bad
    | _ => .bad
/-- a for's turns -/
def forL (f : D → MEnv → Store → RS) (g : Guard) : List D → MEnv → Store → RS
  | [], env, st => .nx env st
  | x :: xs, env, st => match f x env st with
    | .nx env' st' => if gok g st' then forL f g xs env' st' else .bad
    | .bk env' st' => .nx env' st'
    | r => r
def WF : Nat := 1000000
def whlL (c : MEnv → Store → R Bool) (b : MEnv → Store → RS) : Nat → MEnv → Store → RS
  | 0, _, _ => .bad
  | n + 1, env, st => (c env st).toS env fun k st1 => if k = true then match b env st1 with
      | .nx env' st' => whlL c b n env' st'
      | .bk env' st' => .nx env' st'
      | r => r
    else .nx env st1
mutual
/-- names no mutable object from n on, no def -/
def below (n : Nat) : D → Bool
  | .ref l => decide (l < n)
  | .tup xs => belows n xs
  | .lst xs => belows n xs
  | .dct kvs => belowk n kvs
  | _ => true
def belows (n : Nat) : List D → Bool
  | [] => true
  | x :: xs => below n x && belows n xs
def belowk (n : Nat) : List (D × D) → Bool
  | [] => true
  | (a, b) :: xs => below n a && (below n b && belowk n xs)
end
/-- a value as a def hands it back: what it made and changed is now a value -/
def fz (st : Store) (n : Nat) : Nat → D → Option D
  | _, .ref l => if l < n then some (.ref l) else match st[l]? with
    | some (.lst xs) => if belows n xs then some (.lst xs) else none
    | some (.dct kvs) => if belowk n kvs then some (.dct kvs) else none
    | none => none
  | 0, d => if below n d then some d else none
  | k + 1, .tup xs => if belows n xs then some (.tup xs) else (xs.mapM (fz st n k)).map .tup
  | k + 1, d => if below n d then some d else none
def mutList (st : Store) (d : D) : Option (Nat × List D) := match d with
  | .ref l => match st[l]? with
    | some (.lst xs) => some (l, xs)
    | _ => none
  | _ => none
def alloc (mu : Bool) (d : D) (st : Store) : R D := if mu then match d with
    | .lst xs => .ok (.ref st.length) (st ++ [.lst xs])
    | .dct kvs => .ok (.ref st.length) (st ++ [.dct kvs])
    | _ => .bad
  else .ok d st
def setObj (st : Store) (d i v : D) : R D := match d, i with
  | .ref l, .int k => match st[l]? with
    | some (.lst xs) => match (if 0 ≤ k then (if k < xs.length then some k.toNat else none) else if -(xs.length : Int) ≤ k then some (k + xs.length).toNat else none) with
      | some j => if below l v then .ok .non (st.set l (.lst (xs.set j v))) else .bad
      | none => .bad
    | _ => .bad
  | _, _ => .bad
def intO : D → Option Int
  | .int i => some i
  | _ => none

/-- a written dict: empty, or of one pair whose key is a number or a text; not to be changed -/
def dctOk (mu : Bool) : List (D × D) → Bool
  | [] => !mu
  | [(.int _, _)] => !mu
  | [(.str _, _)] => !mu
  | _ => false
/-! ### the evaluator -/
section
variable (C : Nat → List D → Store → R D)
mutual
def evE : ME → MEnv → Store → R D
  | .con d, _, st => .ok d st
  | .var i, env, st => match env[i]? with
    | some (some d) => .ok d st
    | _ => .bad
  | .bin op a b, env, st => (evE a env st).bind fun x st1 => (evE b env st1).bind fun y st2 =>
      ofO ((view st2 x).bind fun x' => (view st2 y).bind fun y' => evBin op x' y') st2
  | .neg a, env, st => (evE a env st).bind fun x st1 => match x with
    | .int i => .ok (.int (-i)) st1
    | _ => .bad
  | .nt a, env, st => (evE a env st).bind fun x st1 => ofO ((truth x).map fun b => .bl (!b)) st1
  | .and a b, env, st => (evE a env st).bind fun x st1 => match truth x with
    | some true => evE b env st1
    | some false => .ok x st1
    | none => .bad
  | .or a b, env, st => (evE a env st).bind fun x st1 => match truth x with
    | some true => .ok x st1
    | some false => evE b env st1
    | none => .bad
  | .ite c a b, env, st => (evE c env st).bind fun x st1 => match truth x with
    | some true => evE a env st1
    | some false => evE b env st1
    | none => .bad
  | .cmp op a b, env, st => (evE a env st).bind fun x st1 => (evE b env st1).bind fun y st2 =>
      ofO ((view st2 x).bind fun x' => (view st2 y).bind fun y' => (evCmp op x' y').map .bl) st2
  | .chain op op2 a b c, env, st => (evE a env st).bind fun x st1 => (evE b env st1).bind fun y st2 =>
      (ofO ((view st2 x).bind fun x' => (view st2 y).bind fun y' => evCmp op x' y') st2).bind fun k st3 => if k = true then
        (evE c env st3).bind fun z st4 => ofO ((view st4 y).bind fun y' => (view st4 z).bind fun z' => (evCmp op2 y' z').map .bl) st4
      else .ok (.bl false) st3
  | .call f args, env, st => (evEs args env st).bind fun ds st1 => C f ds st1
  | .blt f args, env, st => (evEs args env st).bind fun ds st1 => ofO ((views st1 ds).bind fun xs => evB f xs) st1
  | .tup es, env, st => (evEs es env st).bind fun ds st1 => .ok (.tup ds) st1
  | .lst mu es, env, st => (evEs es env st).bind fun ds st1 => alloc mu (.lst ds) st1
  | .dct mu kvs, env, st => (evK kvs env st).bind fun ds st1 => if dctOk mu ds then .ok (.dct ds) st1 else .bad
  | .ix a i, env, st => (evE a env st).bind fun x st1 => (evE i env st1).bind fun y st2 =>
      ofO ((view st2 x).bind fun x' => evIx x' y) st2
  | .slice a lo hi, env, st => (evE a env st).bind fun x st1 => (evO lo env st1).bind fun l st2 => (evO hi env st2).bind fun h st3 =>
      ofO ((view st3 x).bind fun x' => evSl x' l h) st3
  | .rev a, env, st => (evE a env st).bind fun x st1 => ofO ((view st1 x).bind fun x' => evRev x') st1
  | .comp mu elt tg own k args cond, env, st => (evEs args env st).bind fun ds st1 => match itemsOf st1 k ds with
    | none => .bad
    | some (items, g) => (compL (fun x st => match asgTgt (wipeE env own) tg x with
        | none => .bad
        | some env1 => match cond with
          | none => (evE elt env1 st).bind fun d st2 => .ok (some d) st2
          | some c => (evE c env1 st).bind fun x st1 => match truth x with
            | some true => (evE elt env1 st1).bind fun d st2 => .ok (some d) st2
            | some false => .ok none st1
            | none => .bad) g items [] st1).bind fun ds st2 => alloc mu (.lst ds) st2
  | .mutl a, env, st => (evE a env st).bind fun x st1 => alloc true x st1
  | .app o e, env, st => (evE o env st).bind fun x st1 => if (mutList st1 x).isSome then (evE e env st1).bind fun y st2 => match mutList st2 x with
      | some (l, xs) => if below l y && decide (xs.length < SZ) then .ok .non (st2.set l (.lst (xs ++ [y]))) else .bad
      | none => .bad
    else .bad
  | .ext o e, env, st => (evE o env st).bind fun x st1 => if (mutList st1 x).isSome then (evE e env st1).bind fun y st2 => match mutList st2 x, view st2 y with
      | some (l, xs), some (.lst ys) => if belows l ys && decide (xs.length + ys.length ≤ SZ) then .ok .non (st2.set l (.lst (xs ++ ys))) else .bad
      | _, _ => .bad
    else .bad
  | .pop o, env, st => (evE o env st).bind fun x st1 => match mutList st1 x with
    | some (l, xs) => match xs[xs.length - 1]? with
      | some y => .ok y (st1.set l (.lst xs.dropLast))
      | none => .bad
    | none => .bad
  | .popAt o i, env, st => (evE o env st).bind fun x st1 => if (mutList st1 x).isSome then (evE i env st1).bind fun y st2 => match mutList st2 x, y with
      | some (l, xs), .int k => if 0 ≤ k ∧ k < 2 ^ 62 then match xs[k.toNat]? with
          | some z => .ok z (st2.set l (.lst (xs.eraseIdx k.toNat)))
          | none => .bad
        else .bad
      | _, _ => .bad
    else .bad
def evEs : List ME → MEnv → Store → R (List D)
  | [], _, st => .ok [] st
  | e :: es, env, st => (evE e env st).bind fun d st1 => (evEs es env st1).bind fun ds st2 => .ok (d :: ds) st2
def evK : List (ME × ME) → MEnv → Store → R (List (D × D))
  | [], _, st => .ok [] st
  | (k, v) :: r, env, st => (evE k env st).bind fun a st1 => (evE v env st1).bind fun b st2 => (evK r env st2).bind fun ds st3 => .ok ((a, b) :: ds) st3
def evO : Option ME → MEnv → Store → R (Option Int)
  | none, _, st => .ok none st
  | some e, env, st => (evE e env st).bind fun d st1 => ofO ((intO d).map some) st1
end
mutual
def exS : MS → MEnv → Store → RS
  | .asg i e, env, st => (evE C e env st).toS env fun d st1 => .nx (setV env i d) st1
  | .asgT is e, env, st => (evE C e env st).toS env fun d st1 => match view st1 d with
    | some (.tup ds) => match setVs env is ds with
      | some env' => .nx env' st1
      | none => .bad
    | some (.lst ds) => match setVs env is ds with
      | some env' => .nx env' st1
      | none => .bad
    | _ => .bad
  | .setIx o i e, env, st => (evE C e env st).toS env fun v st1 => (evE C o env st1).toS env fun d st2 => (evE C i env st2).toS env fun k st3 =>
      (setObj st3 d k v).toS env fun _ st4 => .nx env st4
  | .exp e, env, st => (evE C e env st).toS env fun _ st1 => .nx env st1
  | .ret e, env, st => (evE C e env st).toS env fun d st1 => .rt d st1
  | .ife c a b, env, st => (evE C c env st).toS env fun x st1 => match truth x with
    | some true => exSs a env st1
    | some false => exSs b env st1
    | none => .bad
  | .forr tg k args body, env, st => (evEs C args env st).toS env fun ds st1 => match itemsOf st1 k ds with
    | none => .bad
    | some (items, g) => forL (fun x env st => match asgTgt env tg x with
        | none => .bad
        | some env1 => exSs body env1 st) g items env st1
  | .whl c body, env, st => whlL (fun env st => (evE C c env st).bind fun x st1 => ofO (truth x) st1) (fun env st => exSs body env st) WF env st
  | .brk, env, st => .bk env st
  | .pas, env, st => .nx env st
  | .rse c, env, st => .ex c none env st
def exSs : List MS → MEnv → Store → RS
  | [], env, st => .nx env st
  | s :: ss, env, st => match exS s env st with
    | .nx env' st' => exSs ss env' st'
    | r => r
end
end

/-- a def of the text, compiled: how many names, its body; whether its made objects stay mutable behind it -/
structure MDef where
  ps : Nat
  n : Nat
  body : List MS
  keep : Bool
def finish (keep : Bool) (n0 : Nat) (d : D) (st : Store) : R D :=
  if keep then .ok d st else match fz st n0 3 d with
  | some d' => .ok d' (st.take n0)
  | none => .bad
def runDef (C : Nat → List D → Store → R D) (m : MDef) (ds : List D) (st : Store) : R D :=
  if ds.length = m.ps then match exSs C m.body (ds.map some ++ List.replicate (m.n - ds.length) none) st with
    | .rt d st' => finish m.keep st.length d st'
    | .nx _ st' => finish m.keep st.length .non st'
    | .ex c p _ st' => .exc c p (st'.take st.length)
    | _ => .bad
  else .bad
/-- the calls, k levels deep -/
def callK (defs : Nat → Option MDef) : Nat → Nat → List D → Store → R D
  | 0, _, _, _ => .bad
  | k + 1, f, ds, st => match defs f with
    | some m => runDef (callK defs k) m ds st
    | none => .bad

end MP

set_option Elab.async false
set_option linter.all false
set_option maxRecDepth 100000
/-! MP: from the text's own tree to the compiled tree -/
namespace MP
open PySem (Str NameKind Scope Pos)

/-- what a name of the module stands for -/
inductive GV where | fn (i : Nat) | con (d : D) | cls (c : Nat)
structure CT where
  glob : List (Str × GV)
  /-- where a list or dict is made that will be changed -/
  mus : List (Nat × Nat)
def CT.mu (T : CT) (p : Pos) : Bool := T.mus.contains (p.line, p.col)

abbrev Sc := List (Str × NameKind)
def ixOf (N : List Str) (x : Str) : Option Nat := N.findIdx? (fun y => decide (y = x))
def isVis (sc : Sc) (x : Str) : Bool := match sc.lookup x with
  | some .local => true | some .cell => true | some .free => true | _ => false
def isLoc (sc : Sc) (x : Str) : Bool := match sc.lookup x with
  | some .local => true | some .cell => true | _ => false
def isGlo (sc : Sc) (x : Str) : Bool := match sc.lookup x with
  | some .globalImplicit => true | _ => false
def varOf (N : List Str) (sc : Sc) (x : Str) : Option Nat := if isVis sc x && !(x == ("__debug__" : Str)) && !(x == ("__classdict__" : Str)) then ixOf N x else none
def locOf (N : List Str) (sc : Sc) (x : Str) : Option Nat := if isLoc sc x then ixOf N x else none
/-- a built-in name -/
def bltOf (T : CT) (sc : Sc) (x : Str) : Bool := isGlo sc x && (T.glob.lookup x).isNone
def strOk (s : List Nat) : Bool := s.all (fun c => decide (c < 1114112)) && decide (s.length ≤ SZ)
def cConst : PySem.Const → Option D
  | .none => some .non
  | .bool b => some (.bl b)
  | .int i => some (.int i)
  | .str s => if strOk s.cps.toList then some (.str s.cps.toList) else none
  | _ => none
def cBop : PySem.Operator → Option Bop
  | .Add => some .add | .Sub => some .sub | .Mult => some .mul | .FloorDiv => some .fdiv | .Mod => some .mod | .Pow => some .pow
  | _ => none
def cCop : PySem.CmpOp → Option Cop
  | .Eq => some .eq | .NotEq => some .ne | .Lt => some .lt | .LtE => some .le | .Gt => some .gt | .GtE => some .ge
  | .Is => some .is | .IsNot => some .isnot | .In => some .isin | .NotIn => some .notin
/-- the free names of a block that runs within a def -/
def relN (names : Sc) (sc : Sc) : Sc := names.map fun (n, k) => if (k == .free && sc.lookup n == some .cell) then (n, .cell) else (n, k)
def bfOf (x : Str) (n : Nat) : Option Bf :=
  if x = ("len" : Str) ∧ n = 1 then some .len else if x = ("abs" : Str) ∧ n = 1 then some .abs else if x = ("int" : Str) ∧ n = 1 then some .int
  else if x = ("any" : Str) ∧ n = 1 then some .any else if x = ("all" : Str) ∧ n = 1 then some .all else if x = ("sum" : Str) ∧ n = 1 then some .sum1
  else if x = ("min" : Str) ∧ n = 1 then some .min1 else if x = ("max" : Str) ∧ n = 1 then some .max1
  else if x = ("min" : Str) ∧ n = 2 then some .min2 else if x = ("max" : Str) ∧ n = 2 then some .max2
  else if x = ("list" : Str) ∧ n = 1 then some .list else if x = ("tuple" : Str) ∧ n = 1 then some .tuple else if x = ("sorted" : Str) ∧ n = 1 then some .sorted
  else if x = ("str" : Str) ∧ n = 1 then some .str else if x = ("repr" : Str) ∧ n = 1 then some .repr else if x = ("sum" : Str) ∧ n = 2 then some .sum2
  else if x = ("dict" : Str) ∧ n = 1 then some .dict
  else none
def isiOf (x : Str) : Option Bf :=
  if x = ("str" : Str) then some .isStr else if x = ("int" : Str) then some .isInt else if x = ("bool" : Str) then some .isBool
  else if x = ("tuple" : Str) then some .isTuple else if x = ("list" : Str) then some .isList else if x = ("dict" : Str) then some .isDict else none
def wrapM (mu : Bool) (m : ME) : ME := if mu then .mutl m else m

end MP

set_option Elab.async false
set_option linter.all false
set_option maxRecDepth 100000
/-! MP: how a value, a frame, a store of the evaluator lie over the hand layer's heap -/
namespace MP
open PySem PySem.Spec PyProof.Rows L2

structure Tb where
  K : PySem.W.Frag
  fa : Nat → Addr

def keyD : Key → D
  | .inl i => .int i
  | .inr x => .str x.cps.toList

mutual
inductive RD (T : Tb) (H : Hp) (M : List Addr) (B : Addr → Prop) (n : Nat) : D → V → Prop
  | non : RD T H M B n .non .non
  | bl (b : Bool) : RD T H M B n (.bl b) (.bl b)
  | int (i : Int) : RD T H M B n (.int i) (.int i)
  | str {s : List Nat} : strOk s = true → RD T H M B n (.str s) (.str ⟨s.toArray⟩)
  | tup {a : Addr} {vs : List V} {ds : List D} : SqT T.K H a vs → RDs T H M B n ds vs → RD T H M B n (.tup ds) (.ref a)
  | lst {a : Addr} {vs : List V} {ds : List D} : H a = some (.lst vs) → a ∉ M → ¬ B a → RDs T H M B n ds vs → RD T H M B n (.lst ds) (.ref a)
  | dct {a : Addr} {ks : List (Key × V)} {ds : List (D × D)} : H a = some (.dK ks) → a ∉ M → ¬ B a → RDk T H M B n ds ks → RD T H M B n (.dct ds) (.ref a)
  | ref {l : Nat} {a : Addr} : l < n → M[l]? = some a → RD T H M B n (.ref l) (.ref a)
  | fn (f : Nat) : RD T H M B n (.fn f) (.ref (T.fa f))
  | scr {a : Addr} {ns : List Int} : ((∃ o, H a = some (.frz o (.lst (ns.map V.int)))) ∨
      ∃ (o : PySem.Obj) (its : Array Value) (n : Nat), T.K.lookup a = some o ∧ o.cls = .type "list" ∧ o.dict = none ∧ o.data = .seq its n ∧ its.size ≤ sizeLine ∧ Vals (ns.map V.int) its.toList) → RD T H M B n (.scr ns) (.ref a)
inductive RDs (T : Tb) (H : Hp) (M : List Addr) (B : Addr → Prop) (n : Nat) : List D → List V → Prop
  | nil : RDs T H M B n [] []
  | cons {d : D} {ds : List D} {v : V} {vs : List V} : RD T H M B n d v → RDs T H M B n ds vs → RDs T H M B n (d :: ds) (v :: vs)
inductive RDk (T : Tb) (H : Hp) (M : List Addr) (B : Addr → Prop) (n : Nat) : List (D × D) → List (Key × V) → Prop
  | nil : RDk T H M B n [] []
  | cons {k : Key} {d : D} {ds : List (D × D)} {v : V} {vs : List (Key × V)} : RD T H M B n d v → RDk T H M B n ds vs → RDk T H M B n ((keyD k, d) :: ds) ((k, v) :: vs)
end

/-- the heap goes on: what stood and may not be changed stands; the mutable ones are more -/
structure Evo (H : Hp) (M : List Addr) (H' : Hp) (M' : List Addr) : Prop where
  keep : ∀ a o, H a = some o → a ∉ M → H' a = some o
  tups : ∀ a xs, H a = some (.tup xs) → H' a = some (.tup xs)
  frzs : ∀ a o u, H a = some (.frz o u) → H' a = some (.frz o u)
  pre : ∀ (l : Nat) a, M[l]? = some a → M'[l]? = some a
  new : ∀ a, a ∈ M' → a ∉ M → H a = none

section
variable {T : Tb} {H H' H1 H2 : Hp} {M M' M1 M2 : List Addr} {B B' : Addr → Prop} {n n' : Nat}
theorem Evo.refl : Evo H M H M := ⟨fun _ _ h _ => h, fun _ _ h => h, fun _ _ _ h => h, fun _ _ h => h, fun _ h h' => absurd h h'⟩
theorem Evo.sub (e : Evo H M H' M') {a : Addr} (h : a ∈ M) : a ∈ M' := by
  obtain ⟨l, hl, e1⟩ := List.mem_iff_getElem.mp h
  have := e.pre l a (by rw [List.getElem?_eq_getElem hl, e1])
  exact List.mem_of_getElem? this
theorem Evo.out (e : Evo H M H' M') {a : Addr} {o : HO} (h : H a = some o) (hm : a ∉ M) : a ∉ M' := fun h' => by
  have := e.new a h' hm
  rw [h] at this; cases this
theorem Evo.trans (e : Evo H M H1 M1) (f : Evo H1 M1 H2 M2) : Evo H M H2 M2 where
  keep := fun a o h hm => f.keep a o (e.keep a o h hm) (e.out h hm)
  tups := fun a xs h => f.tups a xs (e.tups a xs h)
  frzs := fun a o u h => f.frzs a o u (e.frzs a o u h)
  pre := fun l a h => f.pre l a (e.pre l a h)
  new := fun a h hm => by
    by_cases h1 : a ∈ M1
    · exact e.new a h1 hm
    · have q := f.new a h h1
      cases r : H a with
      | none => rfl
      | some o => rw [e.keep a o r hm] at q; cases q
theorem Evo.len (e : Evo H M H' M') : M.length ≤ M'.length := by
  cases h : M.length with
  | zero => exact Nat.zero_le _
  | succ k =>
    have hk : k < M.length := by omega
    have := e.pre k M[k] (List.getElem?_eq_getElem hk)
    have := (List.getElem?_eq_some_iff.mp this).1
    omega
/-- a new object -/
theorem Evo.laid {p : Addr} {o : HO} (h : H p = none) : Evo H M (upd H p o) M := by
  have ne : ∀ {a : Addr} {u : HO}, H a = some u → a ≠ p := fun {a u} e => ne_of_none e h
  exact ⟨fun a u e _ => by rw [upd_ne (ne e)]; exact e, fun a xs e => by rw [upd_ne (ne e)]; exact e, fun a u v e => by rw [upd_ne (ne e)]; exact e, fun _ _ e => e, fun _ e e' => absurd e e'⟩

theorem SqT.evo {K : PySem.W.Frag} {a : Addr} {vs : List V} (e : Evo H M H' M') (h : SqT K H a vs) : SqT K H' a vs := by
  rcases h with (h | ⟨o, h⟩) | h
  · exact .inl (.inl (e.tups _ _ h))
  · exact .inl (.inr ⟨o, e.frzs _ _ _ h⟩)
  · exact .inr h
mutual
theorem RD.evo (e : Evo H M H' M') (hn : n ≤ n') : ∀ {d : D} {v : V}, RD T H M B n d v → RD T H' M' B n' d v
  | _, _, .non => .non
  | _, _, .bl b => .bl b
  | _, _, .int i => .int i
  | _, _, .str h => .str h
  | _, _, .tup h r => .tup (SqT.evo e h) (RDs.evo e hn r)
  | _, _, .lst h hm hb r => .lst (e.keep _ _ h hm) (e.out h hm) hb (RDs.evo e hn r)
  | _, _, .dct h hm hb r => .dct (e.keep _ _ h hm) (e.out h hm) hb (RDk.evo e hn r)
  | _, _, .ref h hm => .ref (Nat.lt_of_lt_of_le h hn) (e.pre _ _ hm)
  | _, _, .fn f => .fn f
  | _, _, .scr h => .scr (h.imp (fun ⟨o, h⟩ => ⟨o, e.frzs _ _ _ h⟩) id)
theorem RDs.evo (e : Evo H M H' M') (hn : n ≤ n') : ∀ {d : List D} {v : List V}, RDs T H M B n d v → RDs T H' M' B n' d v
  | _, _, .nil => .nil
  | _, _, .cons h r => .cons (RD.evo e hn h) (RDs.evo e hn r)
theorem RDk.evo (e : Evo H M H' M') (hn : n ≤ n') : ∀ {d : List (D × D)} {v : List (Key × V)}, RDk T H M B n d v → RDk T H' M' B n' d v
  | _, _, .nil => .nil
  | _, _, .cons h r => .cons (RD.evo e hn h) (RDk.evo e hn r)
end
mutual
/-- other barred places: none that is named -/
theorem RD.bar (hB : ∀ a o, H a = some o → B' a → B a) : ∀ {d : D} {v : V}, RD T H M B n d v → RD T H M B' n d v
  | _, _, .non => .non
  | _, _, .bl b => .bl b
  | _, _, .int i => .int i
  | _, _, .str h => .str h
  | _, _, .tup h r => .tup h (RDs.bar hB r)
  | _, _, .lst h hm hb r => .lst h hm (fun q => hb (hB _ _ h q)) (RDs.bar hB r)
  | _, _, .dct h hm hb r => .dct h hm (fun q => hb (hB _ _ h q)) (RDk.bar hB r)
  | _, _, .ref h hm => .ref h hm
  | _, _, .fn f => .fn f
  | _, _, .scr h => .scr h
theorem RDs.bar (hB : ∀ a o, H a = some o → B' a → B a) : ∀ {d : List D} {v : List V}, RDs T H M B n d v → RDs T H M B' n d v
  | _, _, .nil => .nil
  | _, _, .cons h r => .cons (RD.bar hB h) (RDs.bar hB r)
theorem RDk.bar (hB : ∀ a o, H a = some o → B' a → B a) : ∀ {d : List (D × D)} {v : List (Key × V)}, RDk T H M B n d v → RDk T H M B' n d v
  | _, _, .nil => .nil
  | _, _, .cons h r => .cons (RD.bar hB h) (RDk.bar hB r)
end
theorem RDs.length : ∀ {ds : List D} {vs : List V}, RDs T H M B n ds vs → ds.length = vs.length
  | _, _, .nil => rfl
  | _, _, .cons _ r => congrArg (· + 1) (RDs.length r)
theorem RDs.append : ∀ {ds es : List D} {vs ws : List V}, RDs T H M B n ds vs → RDs T H M B n es ws → RDs T H M B n (ds ++ es) (vs ++ ws)
  | _, _, _, _, .nil, q => q
  | _, _, _, _, .cons h r, q => .cons h (RDs.append r q)
theorem RDs.get : ∀ {ds : List D} {vs : List V} {i : Nat} {d : D}, RDs T H M B n ds vs → ds[i]? = some d → ∃ v, vs[i]? = some v ∧ RD T H M B n d v
  | _, _, _, _, .nil, e => by simp at e
  | _, _, 0, _, .cons h _, e => by simp at e; subst e; exact ⟨_, rfl, h⟩
  | _, _, i + 1, _, .cons _ r, e => by
    obtain ⟨v, h1, h2⟩ := RDs.get (i := i) r (by simpa using e)
    exact ⟨v, by simpa using h1, h2⟩
theorem RDs.set {d : D} {v : V} (h : RD T H M B n d v) : ∀ {ds : List D} {vs : List V} (i : Nat), RDs T H M B n ds vs → RDs T H M B n (ds.set i d) (vs.set i v)
  | _, _, _, .nil => .nil
  | _, _, 0, .cons _ r => .cons h r
  | _, _, i + 1, .cons q r => .cons q (RDs.set h i r)
theorem RDs.take : ∀ {ds : List D} {vs : List V} (k : Nat), RDs T H M B n ds vs → RDs T H M B n (ds.take k) (vs.take k)
  | _, _, 0, _ => .nil
  | _, _, _ + 1, .nil => .nil
  | _, _, k + 1, .cons h r => .cons h (RDs.take k r)
theorem RDs.drop : ∀ {ds : List D} {vs : List V} (k : Nat), RDs T H M B n ds vs → RDs T H M B n (ds.drop k) (vs.drop k)
  | _, _, 0, r => r
  | _, _, _ + 1, .nil => .nil
  | _, _, k + 1, .cons _ r => RDs.drop k r
theorem RDs.reverse : ∀ {ds : List D} {vs : List V}, RDs T H M B n ds vs → RDs T H M B n ds.reverse vs.reverse
  | _, _, .nil => .nil
  | _, _, .cons h r => by rw [List.reverse_cons, List.reverse_cons]; exact RDs.append (RDs.reverse r) (.cons h .nil)
theorem RDs.eraseIdx : ∀ {ds : List D} {vs : List V} (i : Nat), RDs T H M B n ds vs → RDs T H M B n (ds.eraseIdx i) (vs.eraseIdx i)
  | _, _, _, .nil => .nil
  | _, _, 0, .cons _ r => r
  | _, _, i + 1, .cons h r => .cons h (RDs.eraseIdx i r)
theorem RDs.dropLast : ∀ {ds : List D} {vs : List V}, RDs T H M B n ds vs → RDs T H M B n ds.dropLast vs.dropLast
  | _, _, .nil => .nil
  | _, _, .cons h .nil => .nil
  | _, _, .cons h (.cons h' r) => .cons h (RDs.dropLast (.cons h' r))
theorem RDs.ints : ∀ (is : List Int), RDs T H M B n (is.map .int) (is.map .int)
  | [] => .nil
  | i :: is => .cons (.int i) (RDs.ints is)

/-! ### the store -/
def RO (T : Tb) (H : Hp) (M : List Addr) (B : Addr → Prop) (l : Nat) (o : MObj) (a : Addr) : Prop := match o with
  | .lst ds => ∃ vs, H a = some (.lst vs) ∧ RDs T H M B l ds vs
  | .dct ds => ∃ ks, H a = some (.dK ks) ∧ RDk T H M B l ds ks
structure RSt (T : Tb) (H : Hp) (M : List Addr) (B : Addr → Prop) (st : Store) : Prop where
  len : M.length = st.length
  nd : M.Nodup
  at_ : ∀ (l : Nat) a o, M[l]? = some a → st[l]? = some o → RO T H M B l o a
  bar : ∀ b, B b → H b ≠ none ∧ b ∉ M
theorem RO.mut {l : Nat} {o : MObj} {a : Addr} (h : RO T H M B l o a) : ∃ u, H a = some u ∧ Mut (some u) ∧ ∀ xs, u ≠ .tup xs := by
  cases o with
  | lst ds => obtain ⟨vs, h, _⟩ := h; exact ⟨_, h, trivial, fun _ e => nomatch e⟩
  | dct ds => obtain ⟨vs, h, _⟩ := h; exact ⟨_, h, trivial, fun _ e => nomatch e⟩
variable {st st' : Store}
theorem RSt.tracked (h : RSt T H M B st) {a : Addr} (ha : a ∈ M) : ∃ u, H a = some u ∧ Mut (some u) := by
  obtain ⟨l, hl, e1⟩ := List.mem_iff_getElem.mp ha
  have hs : l < st.length := by rw [← h.len]; exact hl
  obtain ⟨u, e, m, _⟩ := (h.at_ l a st[l] (by rw [List.getElem?_eq_getElem hl, e1]) (List.getElem?_eq_getElem hs)).mut
  exact ⟨u, e, m⟩
theorem RSt.fresh (h : RSt T H M B st) {p : Addr} (hp : H p = none) : p ∉ M ∧ ¬ B p := by
  refine ⟨fun q => ?_, fun q => (h.bar p q).1 hp⟩
  obtain ⟨u, e, _⟩ := h.tracked q
  rw [hp] at e; cases e
theorem RO.evo {l : Nat} {o : MObj} {a : Addr} (e : Evo H M H' M') (ha : H' a = H a) (h : RO T H M B l o a) : RO T H' M' B l o a := by
  cases o with
  | lst ds => obtain ⟨vs, h, r⟩ := h; exact ⟨vs, ha.trans h, r.evo e (Nat.le_refl _)⟩
  | dct ds => obtain ⟨vs, h, r⟩ := h; exact ⟨vs, ha.trans h, r.evo e (Nat.le_refl _)⟩
/-- a new object that is no mutable one of ours -/
theorem RSt.laid (h : RSt T H M B st) {p : Addr} {o : HO} (hp : H p = none) : RSt T (upd H p o) M B st where
  len := h.len
  nd := h.nd
  at_ := fun l a ob e1 e2 => by
    have r := h.at_ l a ob e1 e2
    refine r.evo (Evo.laid hp) (upd_ne ?_)
    obtain ⟨u, e, _⟩ := r.mut
    exact ne_of_none e hp
  bar := fun b hb => ⟨by
    by_cases e : b = p
    · rw [e, upd_same]; simp
    · rw [upd_ne e]; exact (h.bar b hb).1, (h.bar b hb).2⟩
theorem Evo.grow {p : Addr} (h : H p = none) : Evo H M H (M ++ [p]) := by
  refine ⟨fun _ _ e _ => e, fun _ _ e => e, fun _ _ _ e => e, fun l a e => ?_, fun a e e' => ?_⟩
  · rw [List.getElem?_append_left (List.getElem?_eq_some_iff.mp e).1]; exact e
  · rcases List.mem_append.mp e with q | q
    · exact absurd q e'
    · rw [List.mem_singleton.mp q]; exact h
/-- a new object that is a mutable one of ours -/
theorem RSt.grow (h : RSt T H M B st) {p : Addr} {u : HO} {o : MObj} (hp : H p = none) (r : RO T (upd H p u) (M ++ [p]) B M.length o p) : RSt T (upd H p u) (M ++ [p]) B (st ++ [o]) where
  len := by rw [List.length_append, List.length_append, h.len]; rfl
  nd := List.nodup_append.mpr ⟨h.nd, List.nodup_cons.mpr ⟨by simp, List.nodup_nil⟩, fun a ha b hb e => by
    rw [List.mem_singleton.mp hb] at e
    exact (h.fresh hp).1 (e ▸ ha)⟩
  at_ := fun l a ob e1 e2 => by
    by_cases hl : l < M.length
    · rw [List.getElem?_append_left hl] at e1
      rw [List.getElem?_append_left (by rw [← h.len]; exact hl)] at e2
      have q := h.at_ l a ob e1 e2
      have e : Evo H M (upd H p u) (M ++ [p]) := by
        have e0 : Evo H M (upd H p u) M := Evo.laid hp
        refine ⟨e0.keep, e0.tups, e0.frzs, (Evo.grow hp).pre, (Evo.grow hp).new⟩
      obtain ⟨v, ev, _⟩ := q.mut
      exact q.evo e (upd_ne (ne_of_none ev hp))
    · have hl' : l < (M ++ [p]).length := (List.getElem?_eq_some_iff.mp e1).1
      have : l = M.length := by simp at hl'; omega
      subst this
      rw [List.getElem?_append_right (Nat.le_refl _), Nat.sub_self] at e1
      rw [h.len, List.getElem?_append_right (Nat.le_refl _), Nat.sub_self] at e2
      have e1' : p = a := by simpa using e1
      have e2' : o = ob := by simpa using e2
      rw [← e1', ← e2']
      exact r
  bar := fun b hb => ⟨by
    by_cases e : b = p
    · rw [e, upd_same]; simp
    · rw [upd_ne e]; exact (h.bar b hb).1, fun q => by
    rcases List.mem_append.mp q with q | q
    · exact (h.bar b hb).2 q
    · exact (h.fresh hp).2 (List.mem_singleton.mp q ▸ hb)⟩
theorem Evo.laidGrow {p : Addr} {u : HO} (hp : H p = none) : Evo H M (upd H p u) (M ++ [p]) :=
  let e0 : Evo H M (upd H p u) M := Evo.laid hp
  ⟨e0.keep, e0.tups, e0.frzs, (Evo.grow hp).pre, (Evo.grow hp).new⟩
/-- a mutable one of ours is changed -/
theorem Evo.write (h : RSt T H M B st) {l : Nat} {a : Addr} {u : HO} (hl : M[l]? = some a) : Evo H M (upd H a u) M := by
  have ha : a ∈ M := List.mem_of_getElem? hl
  obtain ⟨v, ev, mv⟩ := h.tracked ha
  refine ⟨fun b o e hb => ?_, fun b xs e => ?_, fun b o w e => ?_, fun _ _ e => e, fun _ e e' => absurd e e'⟩
  · rw [upd_ne (fun (q : b = a) => hb (by rw [q]; exact ha))]; exact e
  · rw [upd_ne]; exact e
    rintro rfl
    rw [e] at ev; cases ev; exact mv
  · rw [upd_ne]; exact e
    rintro rfl
    rw [e] at ev; cases ev; exact mv
theorem nodup_get {l l' : Nat} {a : Addr} (hN : M.Nodup) (h1 : M[l]? = some a) (h2 : M[l']? = some a) : l = l' := by
  obtain ⟨p1, e1⟩ := List.getElem?_eq_some_iff.mp h1
  obtain ⟨p2, e2⟩ := List.getElem?_eq_some_iff.mp h2
  exact (List.getElem_inj hN).mp (e1.trans e2.symm)
theorem RSt.write (h : RSt T H M B st) {l : Nat} {a : Addr} {u : HO} {o : MObj} (hl : M[l]? = some a) (r : RO T (upd H a u) M B l o a) : RSt T (upd H a u) M B (st.set l o) where
  len := by rw [List.length_set]; exact h.len
  nd := h.nd
  at_ := fun k b ob e1 e2 => by
    by_cases hk : k = l
    · subst hk
      rw [hl] at e1; cases e1
      have hs : k < st.length := by rw [← h.len]; exact (List.getElem?_eq_some_iff.mp hl).1
      rw [List.getElem?_set_self hs] at e2
      cases e2
      exact r
    · rw [List.getElem?_set_ne (Ne.symm hk)] at e2
      refine (h.at_ k b ob e1 e2).evo (Evo.write h hl) (upd_ne fun q => hk ?_)
      exact nodup_get h.nd e1 (q ▸ hl)
  bar := fun b hb => ⟨by
    by_cases e : b = a
    · rw [e, upd_same]; simp
    · rw [upd_ne e]; exact (h.bar b hb).1, (h.bar b hb).2⟩

/-! ### the frame -/
structure RE (T : Tb) (H : Hp) (M : List Addr) (B : Addr → Prop) (env : MEnv) (σ : L2.St) : Prop where
  len : env.length = σ.length
  at_ : ∀ (i : Nat) d, env[i]? = some (some d) → ∃ v, σ[i]? = some (some v) ∧ RD T H M B M.length d v
variable {env env' : MEnv} {σ σ' : L2.St}
theorem RE.evo (e : Evo H M H' M') (h : RE T H M B env σ) : RE T H' M' B env σ := ⟨h.len, fun i d q => let ⟨v, a, b⟩ := h.at_ i d q; ⟨v, a, b.evo e e.len⟩⟩
theorem RE.set (h : RE T H M B env σ) {d : D} {v : V} (i : Nat) (r : RD T H M B M.length d v) : RE T H M B (setV env i d) (σ.set i (some v)) := by
  refine ⟨by unfold setV; rw [List.length_set, List.length_set, h.len], fun k d' q => ?_⟩
  unfold setV at q
  by_cases hk : k = i
  · subst hk
    have hl : k < env.length := by
      have := (List.getElem?_eq_some_iff.mp q).1
      rwa [List.length_set] at this
    rw [List.getElem?_set_self hl] at q
    cases q
    exact ⟨v, List.getElem?_set_self (by rw [← h.len]; exact hl), r⟩
  · rw [List.getElem?_set_ne (Ne.symm hk)] at q
    rw [List.getElem?_set_ne (Ne.symm hk)]
    exact h.at_ k d' q
theorem wipeE_length (env : MEnv) : ∀ vs : List Nat, (wipeE env vs).length = env.length
  | [] => rfl
  | v :: vs => by unfold wipeE; rw [List.length_set, wipeE_length env vs]
theorem RE.wipe (h : RE T H M B env σ) : ∀ vs : List Nat, RE T H M B (wipeE env vs) (L2.wipe σ vs)
  | [] => h
  | v :: vs => by
    have ih := RE.wipe h vs
    refine ⟨by rw [wipeE_length, L2.wipe_length]; exact h.len, fun k d q => ?_⟩
    unfold wipeE at q
    unfold L2.wipe
    by_cases hk : k = v
    · subst hk
      have hl : k < (wipeE env vs).length := by
        have := (List.getElem?_eq_some_iff.mp q).1
        rwa [List.length_set] at this
      rw [List.getElem?_set_self hl] at q
      cases q
    · rw [List.getElem?_set_ne (Ne.symm hk)] at q
      rw [List.getElem?_set_ne (Ne.symm hk)]
      exact ih.at_ k d q
end
end MP

set_option Elab.async false
set_option linter.all false
set_option maxRecDepth 100000
set_option maxHeartbeats 1000000
/-! MP: the operators -/
namespace MP
open PySem PySem.Spec PyProof.Rows L2 TL

section
variable {T : Tb} {H H' : Hp} {M M' : List Addr} {B : Addr → Prop} {st st' : Store}
theorem SZ_eq : SZ = sizeLine := by rw [sizeLine_eq]; rfl
/-- a viewed value: a mutable object's content stands at its place -/
def RW' (T : Tb) (H : Hp) (M : List Addr) (B : Addr → Prop) (e : D) (v : V) : Prop := match e with
  | .lst xs => ∃ a vs, v = .ref a ∧ H a = some (.lst vs) ∧ RDs T H M B M.length xs vs
  | .dct ks => ∃ a vs, v = .ref a ∧ H a = some (.dK vs) ∧ RDk T H M B M.length ks vs
  | .ref _ => False
  | d => RD T H M B M.length d v
theorem view_rel (hs : RSt T H M B st) {d e : D} {v : V} (r : RD T H M B M.length d v) (h : view st d = some e) : RW' T H M B e v := by
  cases r with
  | ref hl hm =>
    rename_i l a
    unfold view at h
    simp only at h
    cases q : st[l]? with
    | none => rw [q] at h; cases h
    | some o =>
      rw [q] at h
      have ro := hs.at_ l a o hm q
      cases o with
      | lst xs =>
        obtain ⟨vs, e1, e2⟩ := ro
        have : e = .lst xs := (Option.some.inj h).symm
        subst this
        exact ⟨a, vs, rfl, e1, e2.evo Evo.refl (Nat.le_of_lt hl)⟩
      | dct xs =>
        obtain ⟨vs, e1, e2⟩ := ro
        have : e = .dct xs := (Option.some.inj h).symm
        subst this
        exact ⟨a, vs, rfl, e1, e2.evo Evo.refl (Nat.le_of_lt hl)⟩
  | lst h1 h2 h3 h4 =>
    have : e = _ := (Option.some.inj h).symm
    subst this
    exact ⟨_, _, rfl, h1, h4⟩
  | dct h1 h2 h3 h4 =>
    have : e = _ := (Option.some.inj h).symm
    subst this
    exact ⟨_, _, rfl, h1, h4⟩
  | non => have : e = _ := (Option.some.inj h).symm; subst this; exact .non
  | bl b => have : e = _ := (Option.some.inj h).symm; subst this; exact .bl b
  | int i => have : e = _ := (Option.some.inj h).symm; subst this; exact .int i
  | str q => have : e = _ := (Option.some.inj h).symm; subst this; exact .str q
  | tup q r => have : e = _ := (Option.some.inj h).symm; subst this; exact .tup q r
  | fn f => have : e = _ := (Option.some.inj h).symm; subst this; exact .fn f
  | scr q => have : e = _ := (Option.some.inj h).symm; subst this; exact .scr q
theorem RD.int_inv {n : Nat} {i : Int} {v : V} (r : RD T H M B n (.int i) v) : v = .int i := by cases r; rfl
theorem RD.bl_inv {n : Nat} {i : Bool} {v : V} (r : RD T H M B n (.bl i) v) : v = .bl i := by cases r; rfl
theorem RD.non_inv {n : Nat} {v : V} (r : RD T H M B n .non v) : v = .non := by cases r; rfl
theorem RD.str_inv {n : Nat} {s : List Nat} {v : V} (r : RD T H M B n (.str s) v) : v = .str ⟨s.toArray⟩ ∧ strOk s = true := by cases r; exact ⟨rfl, by assumption⟩
theorem RD.tup_inv {n : Nat} {s : List D} {v : V} (r : RD T H M B n (.tup s) v) : ∃ a vs, v = .ref a ∧ SqT T.K H a vs ∧ RDs T H M B n s vs := by cases r; exact ⟨_, _, rfl, by assumption, by assumption⟩

/-- what is wanted of a value d, the store as it stands -/
abbrev Want (T : Tb) (B : Addr → Prop) (H : Hp) (M : List Addr) (st : Store) (d : D) (Q : VK) : Prop := ∀ v H' M', Evo H M H' M' → RSt T H' M' B st → RD T H' M' B M'.length d v → Q v H'
theorem Want.here {d : D} {v : V} {Q : VK} (hs : RSt T H M B st) (w : Want T B H M st d Q) (r : RD T H M B M.length d v) : Q v H := w v H M Evo.refl hs r
theorem Want.newT {ds : List D} {vs : List V} {Q : VK} {p : Addr} (hs : RSt T H M B st) (w : Want T B H M st (.tup ds) Q) (r : RDs T H M B M.length ds vs) (hp : H p = none) : Q (.ref p) (upd H p (.tup vs)) :=
  w _ _ _ (Evo.laid hp) (hs.laid hp) (.tup (.inl (.inl upd_same)) (r.evo (Evo.laid hp) (Nat.le_refl _)))
theorem Want.newL {ds : List D} {vs : List V} {Q : VK} {p : Addr} (hs : RSt T H M B st) (w : Want T B H M st (.lst ds) Q) (r : RDs T H M B M.length ds vs) (hp : H p = none) : Q (.ref p) (upd H p (.lst vs)) :=
  w _ _ _ (Evo.laid hp) (hs.laid hp) (.lst upd_same (hs.fresh hp).1 (hs.fresh hp).2 (r.evo (Evo.laid hp) (Nat.le_refl _)))
/-- .. that becomes a mutable one -/
theorem Want.newM {ds : List D} {vs : List V} {Q : VK} {p : Addr} (hs : RSt T H M B st) (w : ∀ v H' M', Evo H M H' M' → RSt T H' M' B (st ++ [.lst ds]) → RD T H' M' B M'.length (.ref st.length) v → Q v H') (r : RDs T H M B M.length ds vs) (hp : H p = none) : Q (.ref p) (upd H p (.lst vs)) := by
  refine w _ _ (M ++ [p]) (Evo.laidGrow hp) (hs.grow hp ⟨vs, upd_same, r.evo (Evo.laidGrow hp) (Nat.le_refl _)⟩) (.ref ?_ ?_)
  · rw [List.length_append, ← hs.len]; exact Nat.lt_succ_self _
  · rw [← hs.len, List.getElem?_append_right (Nat.le_refl _), Nat.sub_self]; rfl

def opOf : Bop → Operator
  | .add => .Add | .sub => .Sub | .mul => .Mult | .fdiv => .FloorDiv | .mod => .Mod | .pow => .Pow
theorem str_app (a b : List Nat) : (⟨a.toArray⟩ : Str) ++ (⟨b.toArray⟩ : Str) = ⟨(a ++ b).toArray⟩ := ext_tl (by rw [tl_append])
theorem str_len (a : List Nat) : Str.length (⟨a.toArray⟩ : Str) = a.length := by rw [len_tl]
theorem strOk_len {a : List Nat} (h : strOk a = true) : a.length ≤ SZ := by
  unfold strOk at h
  exact of_decide_eq_true (Bool.and_eq_true_iff.mp h).2
theorem strOk_mem {a : List Nat} (h : strOk a = true) : ∀ c ∈ a, c < 1114112 := fun c hc => by
  unfold strOk at h
  have := List.all_eq_true.mp (Bool.and_eq_true_iff.mp h).1 c hc
  exact of_decide_eq_true this
theorem strOk_of {a : List Nat} (h : ∀ c ∈ a, c < 1114112) (hl : a.length ≤ SZ) : strOk a = true := by
  unfold strOk
  exact Bool.and_eq_true_iff.mpr ⟨List.all_eq_true.mpr fun c hc => decide_eq_true (h c hc), decide_eq_true hl⟩
theorem strOk_app {a b : List Nat} (ha : strOk a = true) (hb : strOk b = true) (h : a.length + b.length ≤ SZ) : strOk (a ++ b) = true :=
  strOk_of (fun c hc => (List.mem_append.mp hc).elim (strOk_mem ha c) (strOk_mem hb c)) (by rw [List.length_append]; exact h)
theorem rep_mem {α : Type} {xs : List α} {k : Int} {c : α} (h : c ∈ rep xs k) : c ∈ xs := by
  unfold rep at h
  obtain ⟨l, hl, hc⟩ := List.mem_flatten.mp h
  rw [(List.mem_replicate.mp hl).2] at hc
  exact hc
theorem rep_len {α : Type} (xs : List α) (k : Int) : (rep xs k).length = xs.length * k.toNat := by
  unfold rep
  rw [List.length_flatten, List.map_replicate, List.sum_replicate_nat, Nat.mul_comm]

/-! ### binary operators -/
def rBin (T : Tb) (op : Bop) : R2 := fun x y H Q => ∃ M B st dx dy ex ey d, RD T H M B M.length dx x ∧ RD T H M B M.length dy y ∧ RSt T H M B st ∧ view st dx = some ex ∧ view st dy = some ey ∧ evBin op ex ey = some d ∧ Want T B H M st d Q
theorem mul_ok {i j : Int} (h : mulOk i j = true) : CMul i j := by
  unfold mulOk at h
  simp only [Bool.or_eq_true, Bool.and_eq_true, decide_eq_true_eq] at h
  exact h
theorem small_ok {k : Int} (h : smallI k = true) : -(2 ^ 62) ≤ k ∧ k < 2 ^ 62 := by
  unfold smallI at h
  simp only [Bool.and_eq_true, decide_eq_true_eq] at h
  exact h
theorem fold_rep (a : Array Nat) : ∀ (n : Nat) (acc : Array Nat), ((List.replicate n a).foldl (· ++ ·) acc).toList = acc.toList ++ (List.replicate n a.toList).flatten
  | 0, acc => by simp
  | n + 1, acc => by
    rw [List.replicate_succ, List.foldl_cons, fold_rep a n, List.replicate_succ, List.flatten_cons, Array.toList_append, List.append_assoc]
theorem txt_mul (a : List Nat) (k : Int) : Txt.mul (⟨a.toArray⟩ : Str) k = ⟨(rep a k).toArray⟩ := by
  unfold Txt.mul
  by_cases h1 : k < 1
  · rw [if_pos h1]
    have : k.toNat = 0 := by omega
    unfold rep
    rw [this]
    rfl
  · rw [if_neg h1]
    by_cases h2 : (k == 1 || Str.length (⟨a.toArray⟩ : Str) == 0) = true
    · rw [if_pos h2]
      simp only [Bool.or_eq_true, beq_iff_eq] at h2
      rcases h2 with h2 | h2
      · subst h2
        unfold rep
        show _ = (⟨(List.replicate 1 a).flatten.toArray⟩ : Str)
        simp
      · rw [str_len] at h2
        have : a = [] := List.eq_nil_of_length_eq_zero h2
        subst this
        unfold rep
        have e : (List.replicate k.toNat ([] : List Nat)).flatten = [] := by
          induction k.toNat with
          | zero => rfl
          | succ n ih => rw [List.replicate_succ, List.flatten_cons, ih]; rfl
        rw [e]
    · rw [if_neg h2]
      refine ext_tl ?_
      show ((List.replicate k.toNat a.toArray).foldl (· ++ ·) #[]).toList = _
      rw [fold_rep]
      rfl
theorem op_mul_str {X : Cx} {a : List Nat} {k : Int} {pins : List (Addr × PySem.Obj)} {s : Shared} {σ : L2.St} {u : Tok} {t : Tok} {Q : VK} (I : Inv X pins σ H s) (hk : smallI k = true) (hl : a.length * k.toNat ≤ SZ) (q : Q (.str ⟨(rep a k).toArray⟩) H) :
    wpAny (model X.prog X.w) X.A (binaryOp .Mult (.str ⟨a.toArray⟩ t) (.int k u)) (EP X pins σ Q) X.xe s := by
  obtain ⟨k1, k2⟩ := small_ok hk
  have fit : ¬ k < 1 → Builtin.Str.tooLong (a.length * k.toNat) = false := fun _ => by
    unfold Builtin.Str.tooLong
    rw [← SZ_eq]
    exact decide_eq_false (Nat.not_lt.mpr hl)
  refine SB.mul ⟨?_, fun h1 h2 => ?_, fun h1 h2 => ?_⟩ fun t' tk => ?_
  · have e1 : ¬ k < -(2 ^ 63) := by omega
    have e2 : ¬ k ≥ 2 ^ 63 := by omega
    rw [decide_eq_false e1, decide_eq_false e2]
    rfl
  · rw [str_len]
    intro h3
    have kp : 0 < k := by omega
    have h4 : (a.length : Int) * k ≤ 16777216 := by
      have e : (k.toNat : Int) = k := Int.toNat_of_nonneg (by omega)
      have : ((a.length * k.toNat : Nat) : Int) ≤ ((16777216 : Nat) : Int) := Int.ofNat_le.mpr hl
      rw [Int.natCast_mul, e] at this
      exact this
    have h5 : (a.length : Int) ≤ (2 ^ 63 - 1) / k := (Int.le_ediv_iff_mul_le kp).mpr (by omega)
    omega
  · rw [str_len]
    exact fit h1
  · rw [txt_mul]
    exact ⟨.str ⟨(rep a k).toArray⟩, H, I.tok _, ⟨_, rfl⟩, q⟩
theorem op_bin {X : Cx} (hK : X.K = T.K) (op : Bop) : OpR X (binaryOp (opOf op)) (rBin T op) := by
  intro pins s σ H x y v u Q I rx ry h
  obtain ⟨M, B, st, dx, dy, ex, ey, d, r1, r2, hs, e1, e2, ev, w⟩ := h
  have w1 := view_rel hs r1 e1
  have w2 := view_rel hs r2 e2
  unfold evBin at ev
  split at ev
  · -- ints added
    cases ev
    obtain rfl := RD.int_inv w1
    obtain rfl := RD.int_inv w2
    exact op_add pins s σ H _ _ v u Q I rx ry ⟨_, _, rfl, rfl, w.here hs (.int _)⟩
  · split at ev
    · cases ev
      rename_i a b hl
      obtain ⟨rfl, k1⟩ := RD.str_inv w1
      obtain ⟨rfl, k2⟩ := RD.str_inv w2
      refine op_add_str pins s σ H _ _ v u Q I rx ry ⟨_, _, rfl, rfl, by rw [str_len, str_len, ← SZ_eq]; exact hl, ?_⟩
      rw [str_app]
      exact w.here hs (.str (strOk_app k1 k2 hl))
    · cases ev
  · split at ev
    · cases ev
      rename_i a b hl
      obtain ⟨p1, vs1, rfl, t1, q1⟩ := RD.tup_inv w1
      obtain ⟨p2, vs2, rfl, t2, q2⟩ := RD.tup_inv w2
      refine op_catA pins s σ H _ _ v u Q I rx ry ⟨_, _, _, _, rfl, rfl, hK ▸ t1, hK ▸ t2, by rw [← q1.length, ← q2.length, ← SZ_eq]; exact hl, fun e => ?_, fun _ e => ?_, fun _ _ p hp => ?_⟩
      · subst e
        cases q1
        exact w.here hs (.tup t2 q2)
      · subst e
        cases q2
        rw [List.append_nil] at w
        exact w.here hs (.tup t1 q1)
      · exact w.newT hs (q1.append q2) hp
    · cases ev
  · split at ev
    · cases ev
      rename_i a b hl
      obtain ⟨p1, vs1, rfl, t1, q1⟩ := w1
      obtain ⟨p2, vs2, rfl, t2, q2⟩ := w2
      refine op_cat pins s σ H _ _ v u Q I rx ry ⟨_, _, _, _, rfl, rfl, t1, t2, by rw [← q1.length, ← q2.length, ← SZ_eq]; exact hl, fun p hp => ?_⟩
      exact w.newL hs (q1.append q2) hp
    · cases ev
  · cases ev
    obtain rfl := RD.int_inv w1
    obtain rfl := RD.int_inv w2
    exact op_sub pins s σ H _ _ v u Q I rx ry ⟨_, _, rfl, rfl, w.here hs (.int _)⟩
  · split at ev
    · cases ev
      rename_i hm
      obtain rfl := RD.int_inv w1
      obtain rfl := RD.int_inv w2
      exact op_mul pins s σ H _ _ v u Q I rx ry ⟨_, _, rfl, rfl, mul_ok hm, w.here hs (.int _)⟩
    · cases ev
  · split at ev
    · cases ev
      rename_i a k hm
      simp only [Bool.and_eq_true, decide_eq_true_eq] at hm
      obtain ⟨rfl, k1⟩ := RD.str_inv w1
      obtain rfl := RD.int_inv w2
      obtain ⟨t, rfl⟩ := rx
      obtain ⟨t', rfl⟩ := ry
      refine op_mul_str I hm.1 hm.2 (w.here hs (.str (strOk_of (fun c hc => strOk_mem k1 c (rep_mem hc)) ?_)))
      rw [rep_len]; exact hm.2
    · cases ev
  · split at ev
    · cases ev
      rename_i hm
      obtain rfl := RD.int_inv w1
      obtain rfl := RD.int_inv w2
      exact op_fdiv pins s σ H _ _ v u Q I rx ry ⟨_, _, rfl, rfl, hm, w.here hs (.int _)⟩
    · cases ev
  · split at ev
    · cases ev
      rename_i hm
      obtain rfl := RD.int_inv w1
      obtain rfl := RD.int_inv w2
      exact op_mod pins s σ H _ _ v u Q I rx ry ⟨_, _, rfl, rfl, hm, w.here hs (.int _)⟩
    · cases ev
  · split at ev
    · cases ev
      rename_i hm
      obtain rfl := RD.int_inv w1
      obtain rfl := RD.int_inv w2
      exact op_pow pins s σ H _ _ v u Q I rx ry ⟨_, _, rfl, rfl, hm, w.here hs (.int _)⟩
    · cases ev
  · cases ev
end
end MP

set_option Elab.async false
set_option linter.all false
set_option maxRecDepth 100000
set_option maxHeartbeats 1000000
/-! MP: comparisons -/
namespace MP
open PySem PySem.Spec PyProof.Rows L2 TL

/-! ### plain data as the library's data -/
mutual
def toPD : D → PyData
  | .non => .none | .bl b => .bool b | .int i => .int i | .str s => .str ⟨s.toArray⟩
  | .tup xs => .tuple (toPDs xs) | .lst xs => .list (toPDs xs)
  | _ => .none
def toPDs : List D → List PyData
  | [] => []
  | x :: xs => toPD x :: toPDs xs
end
mutual
theorem depth_toPD : ∀ d : D, (toPD d).depth = depth d
  | .non => rfl | .bl _ => rfl | .int _ => rfl | .str _ => rfl
  | .tup xs => by simp only [toPD, PyData.depth, depth, depths_toPD xs]
  | .lst xs => by simp only [toPD, PyData.depth, depth, depths_toPD xs]
  | .dct _ => rfl | .ref _ => rfl | .fn _ => rfl | .scr _ => rfl
theorem depths_toPD : ∀ ds : List D, PyData.depthAll (toPDs ds) = depths ds
  | [] => rfl
  | d :: ds => by simp only [toPDs, PyData.depthAll, depths, depth_toPD d, depths_toPD ds]
end
theorem str_beq (a b : List Nat) : ((⟨a.toArray⟩ : Str) == ⟨b.toArray⟩) = (a == b) := by
  by_cases h : a = b
  · subst h; simp
  · have h1 : ¬ (⟨a.toArray⟩ : Str) = ⟨b.toArray⟩ := fun e => h (by
      have := congrArg (fun s : Str => s.cps.toList) e
      simpa using this)
    rw [beq_eq_false_iff_ne.mpr h, beq_eq_false_iff_ne.mpr h1]
mutual
theorem eqv_toPD : ∀ a b : D, plain a = true → plain b = true → PyData.eqv (toPD a) (toPD b) = eqD a b
  | .tup a, .tup b, ha, hb => by simp only [toPD, PyData.eqv, eqD]; exact eqvs_toPD a b ha hb
  | .lst a, .lst b, ha, hb => by simp only [toPD, PyData.eqv, eqD]; exact eqvs_toPD a b ha hb
  | .str a, .str b, _, _ => by simp only [toPD, PyData.eqv, eqD]; exact str_beq a b
  | .non, .non, _, _ => by simp only [toPD, PyData.eqv, eqD]
  | .bl a, .bl b, _, _ => by simp only [toPD, PyData.eqv, eqD]
  | .bl a, .int b, _, _ => by simp only [toPD, PyData.eqv, eqD]; rfl
  | .int a, .bl b, _, _ => by simp only [toPD, PyData.eqv, eqD]; rfl
  | .int a, .int b, _, _ => by simp only [toPD, PyData.eqv, eqD]
  | .non, .bl _, _, _ | .non, .int _, _, _ | .non, .str _, _, _ | .non, .tup _, _, _ | .non, .lst _, _, _ => by simp only [toPD, PyData.eqv, eqD]
  | .bl _, .non, _, _ | .bl _, .str _, _, _ | .bl _, .tup _, _, _ | .bl _, .lst _, _, _ => by simp only [toPD, PyData.eqv, eqD]
  | .int _, .non, _, _ | .int _, .str _, _, _ | .int _, .tup _, _, _ | .int _, .lst _, _, _ => by simp only [toPD, PyData.eqv, eqD]
  | .str _, .non, _, _ | .str _, .bl _, _, _ | .str _, .int _, _, _ | .str _, .tup _, _, _ | .str _, .lst _, _, _ => by simp only [toPD, PyData.eqv, eqD]
  | .tup _, .non, _, _ | .tup _, .bl _, _, _ | .tup _, .int _, _, _ | .tup _, .str _, _, _ | .tup _, .lst _, _, _ => by simp only [toPD, PyData.eqv, eqD]
  | .lst _, .non, _, _ | .lst _, .bl _, _, _ | .lst _, .int _, _, _ | .lst _, .str _, _, _ | .lst _, .tup _, _, _ => by simp only [toPD, PyData.eqv, eqD]
  | .dct _, _, h, _ => by simp [plain] at h
  | .ref _, _, h, _ => by simp [plain] at h
  | .fn _, _, h, _ => by simp [plain] at h
  | .scr _, _, h, _ => by simp [plain] at h
  | _, .dct _, _, h => by simp [plain] at h
  | _, .ref _, _, h => by simp [plain] at h
  | _, .fn _, _, h => by simp [plain] at h
  | _, .scr _, _, h => by simp [plain] at h
theorem eqvs_toPD : ∀ a b : List D, plains a = true → plains b = true → PyData.eqvAll (toPDs a) (toPDs b) = eqDs a b
  | [], [], _, _ => by simp only [toPDs, PyData.eqvAll, eqDs]
  | [], _ :: _, _, _ => by simp only [toPDs, PyData.eqvAll, eqDs]
  | _ :: _, [], _, _ => by simp only [toPDs, PyData.eqvAll, eqDs]
  | a :: as, b :: bs, ha, hb => by
    simp only [plains, Bool.and_eq_true] at ha hb
    simp only [toPDs, PyData.eqvAll, eqDs, eqv_toPD a b ha.1 hb.1, eqvs_toPD as bs ha.2 hb.2]
end
mutual
theorem alike_toPD : ∀ a b : D, alikeD a b = true → PySem.W.alike (toPD a) (toPD b) = true
  | .tup a, .tup b, h => by simp only [toPD, PySem.W.alike]; exact alikes_toPD a b (by simpa [alikeD] using h)
  | .lst a, .lst b, h => by simp only [toPD, PySem.W.alike]; exact alikes_toPD a b (by simpa [alikeD] using h)
  | .str a, .str b, _ => rfl
  | .non, .non, _ => rfl
  | .bl a, .bl b, _ => rfl
  | .int a, .int b, _ => rfl
  | .non, .bl _, h | .non, .int _, h | .non, .str _, h | .non, .tup _, h | .non, .lst _, h | .non, .dct _, h | .non, .ref _, h | .non, .fn _, h | .non, .scr _, h => by simp [alikeD] at h
  | .bl _, .non, h | .bl _, .int _, h | .bl _, .str _, h | .bl _, .tup _, h | .bl _, .lst _, h | .bl _, .dct _, h | .bl _, .ref _, h | .bl _, .fn _, h | .bl _, .scr _, h => by simp [alikeD] at h
  | .int _, .non, h | .int _, .bl _, h | .int _, .str _, h | .int _, .tup _, h | .int _, .lst _, h | .int _, .dct _, h | .int _, .ref _, h | .int _, .fn _, h | .int _, .scr _, h => by simp [alikeD] at h
  | .str _, .non, h | .str _, .bl _, h | .str _, .int _, h | .str _, .tup _, h | .str _, .lst _, h | .str _, .dct _, h | .str _, .ref _, h | .str _, .fn _, h | .str _, .scr _, h => by simp [alikeD] at h
  | .tup _, .non, h | .tup _, .bl _, h | .tup _, .int _, h | .tup _, .str _, h | .tup _, .lst _, h | .tup _, .dct _, h | .tup _, .ref _, h | .tup _, .fn _, h | .tup _, .scr _, h => by simp [alikeD] at h
  | .lst _, .non, h | .lst _, .bl _, h | .lst _, .int _, h | .lst _, .str _, h | .lst _, .tup _, h | .lst _, .dct _, h | .lst _, .ref _, h | .lst _, .fn _, h | .lst _, .scr _, h => by simp [alikeD] at h
  | .dct _, _, h => by simp [alikeD] at h
  | .ref _, _, h => by simp [alikeD] at h
  | .fn _, _, h => by simp [alikeD] at h
  | .scr _, _, h => by simp [alikeD] at h
theorem alikes_toPD : ∀ a b : List D, alikeDs a b = true → PySem.W.alikeAll (toPDs a) (toPDs b) = true
  | [], _, _ => by simp only [toPDs, PySem.W.alikeAll]
  | _ :: _, [], _ => by simp only [toPDs, PySem.W.alikeAll]
  | a :: as, b :: bs, h => by
    simp only [alikeDs, Bool.and_eq_true] at h
    simp only [toPDs, PySem.W.alikeAll, alike_toPD a b h.1, alikes_toPD as bs h.2, Bool.and_self]
end
mutual
theorem lt_toPD : ∀ a b : D, plain a = true → plain b = true → alikeD a b = true → PySem.W.dataLt (toPD a) (toPD b) = ltD a b
  | .tup a, .tup b, ha, hb, h => by
    simp only [toPD, ltD, PySem.W.dataLt_tuple]; exact lts_toPD a b ha hb (by simpa [alikeD] using h)
  | .lst a, .lst b, ha, hb, h => by
    simp only [toPD, ltD, PySem.W.dataLt_list]; exact lts_toPD a b ha hb (by simpa [alikeD] using h)
  | .str a, .str b, _, _, _ => by simp only [toPD, ltD, PySem.W.dataLt_str]
  | .non, .non, _, _, _ => by simp only [toPD, ltD]; rfl
  | .bl a, .bl b, _, _, _ => by simp only [toPD, ltD, PySem.W.dataLt_bool]; rfl
  | .int a, .int b, _, _, _ => by simp only [toPD, ltD, PySem.W.dataLt_int]
  | .non, .bl _, _, _, h | .non, .int _, _, _, h | .non, .str _, _, _, h | .non, .tup _, _, _, h | .non, .lst _, _, _, h | .non, .dct _, _, _, h | .non, .ref _, _, _, h | .non, .fn _, _, _, h | .non, .scr _, _, _, h => by simp [alikeD] at h
  | .bl _, .non, _, _, h | .bl _, .int _, _, _, h | .bl _, .str _, _, _, h | .bl _, .tup _, _, _, h | .bl _, .lst _, _, _, h | .bl _, .dct _, _, _, h | .bl _, .ref _, _, _, h | .bl _, .fn _, _, _, h | .bl _, .scr _, _, _, h => by simp [alikeD] at h
  | .int _, .non, _, _, h | .int _, .bl _, _, _, h | .int _, .str _, _, _, h | .int _, .tup _, _, _, h | .int _, .lst _, _, _, h | .int _, .dct _, _, _, h | .int _, .ref _, _, _, h | .int _, .fn _, _, _, h | .int _, .scr _, _, _, h => by simp [alikeD] at h
  | .str _, .non, _, _, h | .str _, .bl _, _, _, h | .str _, .int _, _, _, h | .str _, .tup _, _, _, h | .str _, .lst _, _, _, h | .str _, .dct _, _, _, h | .str _, .ref _, _, _, h | .str _, .fn _, _, _, h | .str _, .scr _, _, _, h => by simp [alikeD] at h
  | .tup _, .non, _, _, h | .tup _, .bl _, _, _, h | .tup _, .int _, _, _, h | .tup _, .str _, _, _, h | .tup _, .lst _, _, _, h | .tup _, .dct _, _, _, h | .tup _, .ref _, _, _, h | .tup _, .fn _, _, _, h | .tup _, .scr _, _, _, h => by simp [alikeD] at h
  | .lst _, .non, _, _, h | .lst _, .bl _, _, _, h | .lst _, .int _, _, _, h | .lst _, .str _, _, _, h | .lst _, .tup _, _, _, h | .lst _, .dct _, _, _, h | .lst _, .ref _, _, _, h | .lst _, .fn _, _, _, h | .lst _, .scr _, _, _, h => by simp [alikeD] at h
  | .dct _, _, h, _, _ => by simp [plain] at h
  | .ref _, _, h, _, _ => by simp [plain] at h
  | .fn _, _, h, _, _ => by simp [plain] at h
  | .scr _, _, h, _, _ => by simp [plain] at h
theorem lts_toPD : ∀ a b : List D, plains a = true → plains b = true → alikeDs a b = true → PyProof.Rows.lexLt itemOrd (PySem.W.keyToksAll (toPDs a)) (PySem.W.keyToksAll (toPDs b)) = ltDs a b
  | [], [], _, _, _ => by simp only [toPDs, ltDs]; decide
  | [], b :: bs, _, _, _ => by simp only [toPDs, ltDs, PySem.W.toks_all_cons]; simp [PySem.W.keyToksAll, PyProof.Rows.lexLt, itemOrd, itemLt]
  | _ :: _, [], _, _, _ => by simp only [toPDs, ltDs, PySem.W.toks_all_cons]; simp [PySem.W.keyToksAll, PyProof.Rows.lexLt, itemOrd, itemLt]
  | a :: as, b :: bs, ha, hb, h => by
    simp only [alikeDs, Bool.and_eq_true] at h
    simp only [plains, Bool.and_eq_true] at ha hb
    simp only [toPDs, ltDs]
    rw [PySem.W.dataLt_cons (alike_toPD a b h.1), eqv_toPD a b ha.1 hb.1, lts_toPD as bs ha.2 hb.2 h.2, lt_toPD a b ha.1 hb.1 h.1]
end
end MP

set_option Elab.async false
set_option linter.all false
set_option maxRecDepth 100000
set_option maxHeartbeats 1000000
namespace MP
open PySem PySem.Spec PyProof.Rows L2 TL
section
variable {T : Tb} {H H' : Hp} {M M' : List Addr} {B : Addr → Prop} {st st' : Store} {n : Nat}
mutual
theorem dp_of : ∀ {d : D} {v : V}, RD T H M B n d v → plain d = true → Dp T.K H v (toPD d)
  | _, _, .non, _ => .non
  | _, _, .bl b, _ => .bl b
  | _, _, .int i, _ => .int i
  | _, _, .str h, _ => .str _
  | _, _, .tup h r, p => .tup h (dps_of r (by simpa [plain] using p))
  | _, _, .lst h _ _ r, p => .lst (SqL.of h) (dps_of r (by simpa [plain] using p))
  | _, _, .dct _ _ _ _, p => by simp [plain] at p
  | _, _, .ref _ _, p => by simp [plain] at p
  | _, _, .fn _, p => by simp [plain] at p
  | _, _, .scr _, p => by simp [plain] at p
theorem dps_of : ∀ {ds : List D} {vs : List V}, RDs T H M B n ds vs → plains ds = true → DpAll T.K H vs (toPDs ds)
  | _, _, .nil, _ => .nil
  | _, _, .cons h r, p => by
    simp only [plains, Bool.and_eq_true] at p
    exact .cons (dp_of h p.1) (dps_of r p.2)
end
mutual
theorem lay_of : ∀ {d : D} {v : V}, RD T H M B n d v → plain d = true → (toPD d).canLay0 = true
  | _, _, .non, _ => by simp only [toPD, PyData.canLay0]
  | _, _, .bl b, _ => by simp only [toPD, PyData.canLay0]
  | _, _, .int i, _ => by simp only [toPD, PyData.canLay0]
  | _, _, .str h, _ => by
    simp only [toPD, PyData.canLay0, PyData.strOk]
    rw [Array.all_eq_true]
    intro i hi
    have := strOk_mem h (_ : Nat) (List.getElem_mem (by simpa using hi : i < _))
    exact decide_eq_true (by simpa using this)
  | _, _, .tup h r, p => by simp only [toPD, PyData.canLay0]; exact lays_of r (by simpa [plain] using p)
  | _, _, .lst h _ _ r, p => by simp only [toPD, PyData.canLay0]; exact lays_of r (by simpa [plain] using p)
  | _, _, .dct _ _ _ _, p => by simp [plain] at p
  | _, _, .ref _ _, p => by simp [plain] at p
  | _, _, .fn _, p => by simp [plain] at p
  | _, _, .scr _, p => by simp [plain] at p
theorem lays_of : ∀ {ds : List D} {vs : List V}, RDs T H M B n ds vs → plains ds = true → PyData.canLayAll0 (toPDs ds) = true
  | _, _, .nil, _ => by simp only [toPDs, PyData.canLayAll0]
  | _, _, .cons h r, p => by
    simp only [plains, Bool.and_eq_true] at p
    simp only [toPDs, PyData.canLayAll0, lay_of h p.1, lays_of r p.2, Bool.and_self]
end
/-- a viewed plain value, as the library reads it -/
theorem RW'.dp {e : D} {v : V} (h : RW' T H M B e v) (p : plain e = true) : Dp T.K H v (toPD e) ∧ (toPD e).canLay0 = true := by
  cases e with
  | lst xs =>
    obtain ⟨a, vs, rfl, h1, r⟩ := h
    have p' : plains xs = true := by simpa [plain] using p
    exact ⟨.lst (SqL.of h1) (dps_of r p'), by simp only [toPD, PyData.canLay0]; exact lays_of r p'⟩
  | dct xs => simp [plain] at p
  | ref l => exact h.elim
  | non => exact ⟨dp_of h p, lay_of h p⟩
  | bl b => exact ⟨dp_of h p, lay_of h p⟩
  | int b => exact ⟨dp_of h p, lay_of h p⟩
  | str b => exact ⟨dp_of h p, lay_of h p⟩
  | tup b => exact ⟨dp_of h p, lay_of h p⟩
  | fn b => exact ⟨dp_of h p, lay_of h p⟩
  | scr b => exact ⟨dp_of h p, lay_of h p⟩
end

mutual
theorem alike_comm : ∀ a b : D, alikeD a b = alikeD b a
  | .tup a, .tup b => by simp only [alikeD]; exact alikes_comm a b
  | .lst a, .lst b => by simp only [alikeD]; exact alikes_comm a b
  | .str a, .str b => by simp only [alikeD]
  | .non, .non => rfl
  | .bl a, .bl b => by simp only [alikeD]
  | .int a, .int b => by simp only [alikeD]
  | .non, .bl _ | .non, .int _ | .non, .str _ | .non, .tup _ | .non, .lst _ | .non, .dct _ | .non, .ref _ | .non, .fn _ | .non, .scr _ => by simp only [alikeD]
  | .bl _, .non | .bl _, .int _ | .bl _, .str _ | .bl _, .tup _ | .bl _, .lst _ | .bl _, .dct _ | .bl _, .ref _ | .bl _, .fn _ | .bl _, .scr _ => by simp only [alikeD]
  | .int _, .non | .int _, .bl _ | .int _, .str _ | .int _, .tup _ | .int _, .lst _ | .int _, .dct _ | .int _, .ref _ | .int _, .fn _ | .int _, .scr _ => by simp only [alikeD]
  | .str _, .non | .str _, .bl _ | .str _, .int _ | .str _, .tup _ | .str _, .lst _ | .str _, .dct _ | .str _, .ref _ | .str _, .fn _ | .str _, .scr _ => by simp only [alikeD]
  | .tup _, .non | .tup _, .bl _ | .tup _, .int _ | .tup _, .str _ | .tup _, .lst _ | .tup _, .dct _ | .tup _, .ref _ | .tup _, .fn _ | .tup _, .scr _ => by simp only [alikeD]
  | .lst _, .non | .lst _, .bl _ | .lst _, .int _ | .lst _, .str _ | .lst _, .tup _ | .lst _, .dct _ | .lst _, .ref _ | .lst _, .fn _ | .lst _, .scr _ => by simp only [alikeD]
  | .dct _, b => by cases b <;> simp only [alikeD]
  | .ref _, b => by cases b <;> simp only [alikeD]
  | .fn _, b => by cases b <;> simp only [alikeD]
  | .scr _, b => by cases b <;> simp only [alikeD]
theorem alikes_comm : ∀ a b : List D, alikeDs a b = alikeDs b a
  | [], [] => rfl
  | [], _ :: _ => by simp only [alikeDs]
  | _ :: _, [] => by simp only [alikeDs]
  | a :: as, b :: bs => by simp only [alikeDs, alike_comm a b, alikes_comm as bs]
end
section
variable {T : Tb} {X : Cx}
def cOf : Cop → CmpOp
  | .eq => .Eq | .ne => .NotEq | .lt => .Lt | .le => .LtE | .gt => .Gt | .ge => .GtE | .is => .Is | .isnot => .IsNot | .isin => .In | .notin => .NotIn
def rCmp (T : Tb) (op : Cop) : R2 := fun x y H Q => ∃ M B st dx dy ex ey b, RD T H M B M.length dx x ∧ RD T H M B M.length dy y ∧ RSt T H M B st ∧ view st dx = some ex ∧ view st dy = some ey ∧ evCmp op ex ey = some b ∧ Q (.bl b) H
theorem cmp_ok {a b : D} (h : cmpOk a b = true) : plain a = true ∧ plain b = true ∧ min (depth a) (depth b) ≤ 64 := by
  unfold cmpOk at h
  simp only [Bool.and_eq_true, decide_eq_true_eq] at h
  exact h
theorem ord_ok {a b : D} (h : ordOk a b = true) : alikeD a b = true ∧ plain a = true ∧ plain b = true ∧ isNon a = false ∧ min (depth a) (depth b) ≤ 64 := by
  unfold ordOk at h
  simp only [Bool.and_eq_true, decide_eq_true_eq, Bool.not_eq_true'] at h
  exact ⟨h.1, h.2.1, h.2.2.1, h.2.2.2.1, h.2.2.2.2⟩
theorem notNone {a : D} (p : plain a = true) (h : isNon a = false) : toPD a ≠ .none := by
  cases a <;> simp [toPD, isNon, plain] at *
theorem in_ok {xs : List D} {x : D} (h : (plains xs && (plain x && decide (min (depths xs) (depth x) ≤ 64))) = true) : plains xs = true ∧ plain x = true ∧ min (depths xs) (depth x) ≤ 64 := by
  simp only [Bool.and_eq_true, decide_eq_true_eq] at h
  exact h
theorem any_toPD {x : D} (hx : plain x = true) : ∀ {xs : List D}, plains xs = true → ((toPDs xs).any fun y => PyData.eqv y (toPD x)) = xs.any fun y => eqD y x
  | [], _ => rfl
  | y :: ys, h => by
    simp only [plains, Bool.and_eq_true] at h
    simp only [toPDs, List.any_cons, eqv_toPD y x h.1 hx, any_toPD hx h.2]
/-- x in c, x not in c, whatever the answer's sense -/
theorem in_rel (hK : X.K = T.K) (hu : X.A.units + 66 < cLine) {neg : Bool} {op : CmpOp} (hop : op = if neg then .NotIn else .In) {pins : List (Addr × PySem.Obj)} {s : Shared} {σ : L2.St} {H : Hp} {x y : V} {v u : Value} {Q : VK} {M : List Addr} {B : Addr → Prop} {ex ey : D} {b : Bool}
    (I : Inv X pins σ H s) (rx : RelV x v) (ry : RelV y u) (w1 : RW' T H M B ex x) (w2 : RW' T H M B ey y) (ev : inD ex ey = some b) (q : Q (.bl (if neg then !b else b)) H) : wpAny (model X.prog X.w) X.A (compareOp op v u) (EP X pins σ Q) X.xe s := by
  unfold inD at ev
  split at ev
  · split at ev
    · rename_i s' _ c
      cases ev
      obtain ⟨rfl, _⟩ := RD.str_inv w1
      obtain ⟨rfl, _⟩ := RD.str_inv w2
      have e : decide (c ∈ (⟨s'.toArray⟩ : Str).cps.toList) = s'.contains c := by
        show decide (c ∈ s') = _
        simp
      subst hop
      cases neg with
      | true => exact op_notIn_sign pins s σ H _ _ v u Q I rx ry ⟨c, _, rfl, rfl, by rw [e]; exact q⟩
      | false => exact op_in_sign pins s σ H _ _ v u Q I rx ry ⟨c, _, rfl, rfl, by rw [e]; exact q⟩
    · cases ev
  · split at ev
    · rename_i xs hh
      obtain ⟨p1, p2, p3⟩ := in_ok hh
      cases ev
      obtain ⟨d1, l1⟩ := w1.dp p2
      obtain ⟨d2, l2⟩ := w2.dp (show plain (.tup xs) = true by simpa [plain] using p1)
      rw [← hK] at d1 d2
      obtain ⟨as, r1⟩ := Dp.reads I _ x v d1 rx
      obtain ⟨bs, r2⟩ := Dp.reads I _ y u d2 ry
      have l2' : PyData.canLayAll0 (toPDs xs) = true := by simpa [toPD, PyData.canLay0] using l2
      have hr : X.A.units + 1 + min (PyData.depthAll (toPDs xs)) (toPD ex).depth < cLine := by rw [depths_toPD, depth_toPD]; omega
      subst hop
      cases neg with
      | true => exact SeqAt.notIn_tuple_reads r2 r1 l2' l1 hr ⟨.bl _, H, I, rfl, by rw [any_toPD p2 p1]; exact q⟩
      | false => exact SeqAt.in_tuple_reads r2 r1 l2' l1 hr ⟨.bl _, H, I, rfl, by rw [any_toPD p2 p1]; exact q⟩
    · cases ev
  · split at ev
    · rename_i xs hh
      obtain ⟨p1, p2, p3⟩ := in_ok hh
      cases ev
      obtain ⟨d1, l1⟩ := w1.dp p2
      obtain ⟨d2, l2⟩ := w2.dp (show plain (.lst xs) = true by simpa [plain] using p1)
      rw [← hK] at d1 d2
      obtain ⟨as, r1⟩ := Dp.reads I _ x v d1 rx
      obtain ⟨bs, r2⟩ := Dp.reads I _ y u d2 ry
      have l2' : PyData.canLayAll0 (toPDs xs) = true := by simpa [toPD, PyData.canLay0] using l2
      have hr : X.A.units + 1 + min (PyData.depthAll (toPDs xs)) (toPD ex).depth < cLine := by rw [depths_toPD, depth_toPD]; omega
      subst hop
      cases neg with
      | true => exact SeqAt.notIn_list_reads r2 r1 l2' l1 hr ⟨.bl _, H, I, rfl, by rw [any_toPD p2 p1]; exact q⟩
      | false => exact SeqAt.in_list_reads r2 r1 l2' l1 hr ⟨.bl _, H, I, rfl, by rw [any_toPD p2 p1]; exact q⟩
    · cases ev
  · cases ev
/-- x is y, x is not y -/
theorem is_rel {neg : Bool} {op : CmpOp} (hop : op = if neg then .IsNot else .Is) {pins : List (Addr × PySem.Obj)} {s : Shared} {σ : L2.St} {H : Hp} {x y : V} {v u : Value} {Q : VK} {M : List Addr} {B : Addr → Prop} {ex ey : D} {b : Bool}
    (I : Inv X pins σ H s) (rx : RelV x v) (ry : RelV y u) (w1 : RW' T H M B ex x) (w2 : RW' T H M B ey y) (ev : isOk ex ey = some b) (q : Q (.bl (if neg then !b else b)) H) : wpAny (model X.prog X.w) X.A (compareOp op v u) (EP X pins σ Q) X.xe s := by
  have none_case : ∀ k : Bool, y = .non → decide (x = .non) = k → Q (.bl (if neg then !k else k)) H → wpAny (model X.prog X.w) X.A (compareOp op v u) (EP X pins σ Q) X.xe s := fun k e1 e2 q => by
    subst e1 e2 hop
    cases neg with
    | true => exact op_notN pins s σ H _ _ v u Q I rx ry ⟨rfl, q⟩
    | false => exact op_isN pins s σ H _ _ v u Q I rx ry ⟨rfl, q⟩
  unfold isOk at ev
  split at ev
  · rename_i a b'
    cases ev
    obtain rfl := RD.bl_inv w1
    obtain rfl := RD.bl_inv w2
    subst hop
    have e : decide (a = b') = (a == b') := by cases a <;> cases b' <;> rfl
    cases neg with
    | true => exact op_isnot_bl pins s σ H _ _ v u Q I rx ry ⟨_, _, rfl, rfl, by rw [e]; exact q⟩
    | false => exact op_is_bl pins s σ H _ _ v u Q I rx ry ⟨_, _, rfl, rfl, by rw [e]; exact q⟩
  · cases ev
    obtain rfl := RD.non_inv w1
    exact none_case true (RD.non_inv w2) rfl q
  · cases ev
    rename_i hne
    refine none_case false (RD.non_inv w2) (decide_eq_false fun e => ?_) q
    subst e
    cases ex with
    | non => exact hne rfl
    | lst xs => obtain ⟨a, vs, e, _⟩ := w1; cases e
    | dct xs => obtain ⟨a, vs, e, _⟩ := w1; cases e
    | ref l => exact w1
    | bl _ => cases w1
    | int _ => cases w1
    | str _ => cases w1
    | tup _ => cases w1
    | fn _ => cases w1
    | scr _ => cases w1
  · cases ev
theorem op_cmp (hK : X.K = T.K) (hu : X.A.units + 66 < cLine) (op : Cop) : OpR X (compareOp (cOf op)) (rCmp T op) := by
  intro pins s σ H x y v u Q I rx ry h
  obtain ⟨M, B, st, dx, dy, ex, ey, b, r1, r2, hs, e1, e2, ev, q⟩ := h
  have w1 := view_rel hs r1 e1
  have w2 := view_rel hs r2 e2
  have rd : plain ex = true → plain ey = true → ∃ as bs, Reads s.heap v (toPD ex) as ∧ Reads s.heap u (toPD ey) bs ∧ (toPD ex).canLay0 = true ∧ (toPD ey).canLay0 = true := fun p1 p2 => by
    obtain ⟨d1, l1⟩ := w1.dp p1
    obtain ⟨d2, l2⟩ := w2.dp p2
    rw [← hK] at d1 d2
    obtain ⟨as, r1⟩ := Dp.reads I _ x v d1 rx
    obtain ⟨bs, r2⟩ := Dp.reads I _ y u d2 ry
    exact ⟨as, bs, r1, r2, l1, l2⟩
  unfold evCmp at ev
  split at ev
  · split at ev
    · rename_i hh
      obtain ⟨p1, p2, p3⟩ := cmp_ok hh
      cases ev
      obtain ⟨as, bs, k1, k2, l1, l2⟩ := rd p1 p2
      exact SeqAt.compareEq_reads k1 k2 l1 l2 (by rw [depth_toPD, depth_toPD]; omega) ⟨.bl _, H, I, rfl, by rw [eqv_toPD _ _ p1 p2]; exact q⟩
    · cases ev
  · split at ev
    · rename_i hh
      obtain ⟨p1, p2, p3⟩ := cmp_ok hh
      cases ev
      obtain ⟨as, bs, k1, k2, l1, l2⟩ := rd p1 p2
      exact SeqAt.compareNe_reads k1 k2 l1 l2 (by rw [depth_toPD, depth_toPD]; omega) ⟨.bl _, H, I, rfl, by rw [eqv_toPD _ _ p1 p2]; exact q⟩
    · cases ev
  · cases ev
    obtain rfl := RD.int_inv w1
    obtain rfl := RD.int_inv w2
    exact op_lt pins s σ H _ _ v u Q I rx ry ⟨_, _, rfl, rfl, q⟩
  · cases ev
    obtain rfl := RD.int_inv w1
    obtain rfl := RD.int_inv w2
    exact op_le pins s σ H _ _ v u Q I rx ry ⟨_, _, rfl, rfl, q⟩
  · cases ev
    obtain rfl := RD.int_inv w1
    obtain rfl := RD.int_inv w2
    exact op_gt pins s σ H _ _ v u Q I rx ry ⟨_, _, rfl, rfl, q⟩
  · cases ev
    obtain rfl := RD.int_inv w1
    obtain rfl := RD.int_inv w2
    exact op_ge pins s σ H _ _ v u Q I rx ry ⟨_, _, rfl, rfl, q⟩
  · split at ev
    · rename_i hh
      obtain ⟨al, p1, p2, nn, p3⟩ := ord_ok hh
      cases ev
      obtain ⟨as, bs, k1, k2, l1, l2⟩ := rd p1 p2
      exact PySem.W.lt_data k1 k2 (alike_toPD _ _ al) (notNone p1 nn) (by rw [depth_toPD, depth_toPD]; omega) ⟨.bl _, H, I, rfl, by rw [lt_toPD _ _ p1 p2 al]; exact q⟩
    · cases ev
  · split at ev
    · rename_i hh
      obtain ⟨al, p1, p2, nn, p3⟩ := ord_ok hh
      cases ev
      obtain ⟨as, bs, k1, k2, l1, l2⟩ := rd p1 p2
      have al' : alikeD ey ex = true := by rw [alike_comm]; exact al
      exact PySem.W.le_data k1 k2 (alike_toPD _ _ al) (notNone p1 nn) (by rw [depth_toPD, depth_toPD]; omega) ⟨.bl _, H, I, rfl, by rw [lt_toPD _ _ p2 p1 al']; exact q⟩
    · cases ev
  · split at ev
    · rename_i hh
      obtain ⟨al, p1, p2, nn, p3⟩ := ord_ok hh
      cases ev
      obtain ⟨as, bs, k1, k2, l1, l2⟩ := rd p1 p2
      have al' : alikeD ey ex = true := by rw [alike_comm]; exact al
      exact PySem.W.gt_data k1 k2 (alike_toPD _ _ al) (notNone p1 nn) (by rw [depth_toPD, depth_toPD]; omega) ⟨.bl _, H, I, rfl, by rw [lt_toPD _ _ p2 p1 al']; exact q⟩
    · cases ev
  · split at ev
    · rename_i hh
      obtain ⟨al, p1, p2, nn, p3⟩ := ord_ok hh
      cases ev
      obtain ⟨as, bs, k1, k2, l1, l2⟩ := rd p1 p2
      exact PySem.W.ge_data k1 k2 (alike_toPD _ _ al) (notNone p1 nn) (by rw [depth_toPD, depth_toPD]; omega) ⟨.bl _, H, I, rfl, by rw [lt_toPD _ _ p1 p2 al]; exact q⟩
    · cases ev
  · exact is_rel (neg := false) rfl I rx ry w1 w2 ev q
  · cases e : isOk ex ey with
    | none => rw [e] at ev; cases ev
    | some k =>
      rw [e] at ev
      cases ev
      exact is_rel (neg := true) rfl I rx ry w1 w2 e q
  · exact in_rel hK hu (neg := false) rfl I rx ry w1 w2 ev q
  · cases e : inD ex ey with
    | none => rw [e] at ev; cases ev
    | some k =>
      rw [e] at ev
      cases ev
      exact in_rel hK hu (neg := true) rfl I rx ry w1 w2 e q
end
end MP

set_option Elab.async false
set_option linter.all false
set_option maxRecDepth 100000
set_option maxHeartbeats 1000000
/-! MP: subscripts, slices, built-ins -/
namespace MP
open PySem PySem.Spec PyProof.Rows L2 TL
section
variable {T : Tb} {H H' : Hp} {M M' : List Addr} {B : Addr → Prop} {st st' : Store} {n : Nat} {X : Cx}

/-! ### subscripts -/
theorem atL_atI {α : Type} (xs : List α) (i : Int) : atI xs i = atL xs i := by
  unfold atI ixN atL
  by_cases h : 0 ≤ i
  · rw [if_pos h, if_pos h]
    by_cases h2 : i < xs.length
    · rw [if_pos h2]; rfl
    · rw [if_neg h2]
      have : xs.length ≤ i.toNat := by omega
      rw [List.getElem?_eq_none this]; rfl
  · rw [if_neg h, if_neg h]
    by_cases h2 : -(xs.length : Int) ≤ i
    · rw [if_pos h2, if_pos h2]; rfl
    · rw [if_neg h2, if_neg h2]; rfl
theorem RDs.atL {xs : List D} {vs : List V} {i : Int} {d : D} (r : RDs T H M B n xs vs) (h : MP.atL xs i = some d) : ∃ v, atI vs i = some v ∧ RD T H M B n d v := by
  rw [atL_atI]
  unfold MP.atL at h ⊢
  rw [← r.length]
  by_cases h0 : 0 ≤ i
  · rw [if_pos h0] at h ⊢
    exact r.get h
  · rw [if_neg h0] at h ⊢
    by_cases h1 : -(xs.length : Int) ≤ i
    · rw [if_pos h1] at h ⊢
      exact r.get h
    · rw [if_neg h1] at h; cases h
theorem atL_mem {α : Type} {xs : List α} {i : Int} {a : α} (h : MP.atL xs i = some a) : a ∈ xs := by
  unfold MP.atL at h
  split at h
  · exact List.mem_of_getElem? h
  · split at h
    · exact List.mem_of_getElem? h
    · cases h
def rIxM (T : Tb) : R2 := fun x y H Q => ∃ M B st dx dy ex d, RD T H M B M.length dx x ∧ RD T H M B M.length dy y ∧ RSt T H M B st ∧ view st dx = some ex ∧ evIx ex dy = some d ∧ Want T B H M st d Q
theorem strOk_one {s : List Nat} {c : Nat} (h : strOk s = true) (hc : c ∈ s) : strOk [c] = true :=
  strOk_of (fun x hx => by rw [List.mem_singleton.mp hx]; exact strOk_mem h c hc) (by show 1 ≤ SZ; decide)
theorem ix_any (hK : X.K = T.K) : IxR X (rIxM T) := by
  intro value slice pins s σ H x y v u Q I rx ry h hsub
  obtain ⟨M, B, st, dx, dy, ex, d, r1, r2, hs, e1, ev, w⟩ := h
  have w1 := view_rel hs r1 e1
  unfold evIx at ev
  split at ev
  · obtain ⟨a, vs, rfl, h1, rs⟩ := w1
    obtain rfl := r2.int_inv
    obtain ⟨v', ha, rd⟩ := rs.atL ev
    exact ix_list value slice pins s σ H _ _ v u Q I rx ry ⟨_, _, _, _, rfl, rfl, SqL.of h1, ha, w.here hs rd⟩ hsub
  · obtain ⟨a, vs, rfl, h1, rs⟩ := RD.tup_inv w1
    obtain rfl := r2.int_inv
    obtain ⟨v', ha, rd⟩ := rs.atL ev
    exact ix_tup value slice pins s σ H _ _ v u Q I rx ry ⟨_, _, _, _, rfl, rfl, hK ▸ h1, ha, w.here hs rd⟩ hsub
  · obtain ⟨rfl, k1⟩ := RD.str_inv w1
    obtain rfl := r2.int_inv
    rename_i s' i
    cases e : MP.atL s' i with
    | none => rw [e] at ev; cases ev
    | some c =>
      rw [e] at ev
      cases ev
      refine ix_str value slice pins s σ H _ _ v u Q I rx ry ⟨_, _, c, rfl, rfl, by rw [str_len, ← SZ_eq]; exact strOk_len k1, by rw [atL_atI]; exact e, ?_⟩ hsub
      exact w.here hs (.str (strOk_one k1 (atL_mem e)))
  · cases ev

/-! ### slices -/
theorem clip_sIx (n d : Nat) (o : Option Int) : clip n d o = HT.sIx n d o := by
  cases o with
  | none => rfl
  | some v =>
    show (if v < 0 then (max (v + (n : Int)) 0).toNat else (min v (n : Int)).toNat) = (if v < 0 then (v + (n : Int)).toNat else min v.toNat n)
    by_cases h : v < 0
    · rw [if_pos h, if_pos h]; omega
    · rw [if_neg h, if_neg h]; omega
theorem cut_cutV (xs : List V) (lo hi : Option Int) : cutV xs lo hi = cut xs lo hi := by
  unfold cutV cut
  rw [clip_sIx, clip_sIx]
theorem RDs.cut {xs : List D} {vs : List V} (r : RDs T H M B n xs vs) (lo hi : Option Int) : RDs T H M B n (MP.cut xs lo hi) (MP.cut vs lo hi) := by
  unfold MP.cut
  rw [← r.length]
  exact (r.drop _).take _
theorem cut_mem {α : Type} {xs : List α} {lo hi : Option Int} {a : α} (h : a ∈ cut xs lo hi) : a ∈ xs := List.mem_of_mem_drop (List.mem_of_mem_take h)
theorem cut_len {α : Type} (xs : List α) (lo hi : Option Int) : (cut xs lo hi).length ≤ xs.length := by
  unfold cut
  rw [List.length_take, List.length_drop]
  omega
theorem cut_map {α β : Type} (f : α → β) (xs : List α) (lo hi : Option Int) : cut (xs.map f) lo hi = (cut xs lo hi).map f := by
  unfold cut
  rw [List.length_map, List.map_take, List.map_drop]
def rSlM (T : Tb) : V → Option Int → Option Int → Hp → VK → Prop := fun x lo hi H Q => ∃ M B st dx ex d, RD T H M B M.length dx x ∧ RSt T H M B st ∧ view st dx = some ex ∧ evSl ex lo hi = some d ∧ Want T B H M st d Q
theorem sl_any (hK : X.K = T.K) : SlR X (rSlM T) := by
  intro pins s σ H x v vl vu lo hi sl Q I rx hsl pl pu h
  obtain ⟨M, B, st, dx, ex, d, r1, hs, e1, ev, w⟩ := h
  have w1 := view_rel hs r1 e1
  unfold evSl at ev
  split at ev
  · cases ev
    obtain ⟨a, vs, rfl, h1, rs⟩ := w1
    exact sl_list pins s σ H _ v vl vu lo hi sl Q I rx hsl pl pu ⟨_, _, rfl, SqL.of h1, fun p hp => by rw [cut_cutV]; exact w.newL hs (rs.cut lo hi) hp⟩
  · cases ev
    obtain ⟨a, vs, rfl, h1, rs⟩ := RD.tup_inv w1
    refine sl_tupA pins s σ H _ v vl vu lo hi sl Q I rx hsl pl pu ⟨_, _, rfl, hK ▸ h1, fun e => ?_, fun e p hp => by rw [cut_cutV]; exact w.newT hs (rs.cut lo hi) hp⟩
    have r' := rs.cut lo hi
    have e' : MP.cut vs lo hi = vs := by
      unfold MP.cut
      rw [clip_sIx, clip_sIx, e.1, e.2, List.drop_zero, Nat.sub_zero, List.take_length]
    rw [e'] at r'
    exact w.here hs (.tup h1 r')
  · cases ev
    obtain ⟨rfl, k1⟩ := RD.str_inv w1
    rename_i s'
    refine sl_str pins s σ H _ v vl vu lo hi sl Q I rx hsl pl pu ⟨_, rfl, by rw [str_len, ← SZ_eq]; exact strOk_len k1, ?_⟩
    have e : cutS (⟨s'.toArray⟩ : Str) lo hi = ⟨(MP.cut s' lo hi).toArray⟩ := by
      unfold cutS MP.cut
      rw [str_len, clip_sIx, clip_sIx]
    rw [e]
    exact w.here hs (.str (strOk_of (fun c hc => strOk_mem k1 c (cut_mem hc)) (Nat.le_trans (cut_len _ _ _) (strOk_len k1))))
  · cases ev
    rename_i ns
    cases w1 with
    | scr h1 =>
      rename_i a
      have hL : SqL X.K H a (ns.map V.int) := by
        rw [hK]
        rcases h1 with ⟨o, h1⟩ | h1
        · exact .inl (.inr ⟨o, h1⟩)
        · exact .inr h1
      refine sl_list pins s σ H _ v vl vu lo hi sl Q I rx hsl pl pu ⟨_, _, rfl, hL, fun p hp => ?_⟩
      rw [cut_cutV, cut_map]
      exact w.newL hs (RDs.ints _) hp
  · cases ev

/-! ### built-ins -/
def rBf (T : Tb) (f : Bf) : List V → Hp → VK → Prop := fun vs H Q => ∃ M B st ds xs d, RDs T H M B M.length ds vs ∧ RSt T H M B st ∧ views st ds = some xs ∧ evB f xs = some d ∧ Want T B H M st d Q
/-- the viewed values of an argument list -/
inductive RWs (T : Tb) (H : Hp) (M : List Addr) (B : Addr → Prop) : List D → List V → Prop
  | nil : RWs T H M B [] []
  | cons {d : D} {ds : List D} {v : V} {vs : List V} : RW' T H M B d v → RWs T H M B ds vs → RWs T H M B (d :: ds) (v :: vs)
theorem views_rel (hs : RSt T H M B st) : ∀ {ds xs : List D} {vs : List V}, RDs T H M B M.length ds vs → views st ds = some xs → RWs T H M B xs vs
  | _, _, _, .nil, h => by cases h; exact .nil
  | _, _, _, .cons r rs, h => by
    unfold views at h
    rename_i d ds v vs
    cases e : view st d with
    | none => rw [e] at h; cases h
    | some x =>
      rw [e] at h
      cases e2 : views st ds with
      | none => rw [e2] at h; cases h
      | some ys =>
        rw [e2] at h
        cases h
        exact .cons (view_rel hs r e) (views_rel hs rs e2)
theorem RWs.one {d : D} {vs : List V} (h : RWs T H M B [d] vs) : ∃ v, vs = [v] ∧ RW' T H M B d v := by
  cases h with
  | cons r rs => cases rs; exact ⟨_, rfl, r⟩
theorem RWs.two {d e : D} {vs : List V} (h : RWs T H M B [d, e] vs) : ∃ v w, vs = [v, w] ∧ RW' T H M B d v ∧ RW' T H M B e w := by
  cases h with
  | cons r rs =>
    cases rs with
    | cons r2 rs => cases rs; exact ⟨_, _, rfl, r, r2⟩
theorem bools_of : ∀ {xs : List D} {bs : List Bool} {vs : List V}, boolsOf xs = some bs → RDs T H M B n xs vs → vs = bs.map V.bl
  | [], _, _, h, .nil => by cases h; rfl
  | d :: xs, bs, _, h, .cons r rs => by
    cases d with
    | bl b =>
      unfold boolsOf at h
      cases e : boolsOf xs with
      | none => rw [e] at h; cases h
      | some q =>
        rw [e] at h
        cases h
        rw [r.bl_inv, bools_of e rs]
        rfl
    | _ => cases h
theorem ints_of : ∀ {xs : List D} {bs : List Int} {vs : List V}, intsOf xs = some bs → RDs T H M B n xs vs → vs = bs.map V.int
  | [], _, _, h, .nil => by cases h; rfl
  | d :: xs, bs, _, h, .cons r rs => by
    cases d with
    | int b =>
      unfold intsOf at h
      cases e : intsOf xs with
      | none => rw [e] at h; cases h
      | some q =>
        rw [e] at h
        cases h
        rw [r.int_inv, ints_of e rs]
        rfl
    | _ => cases h
def toS (l : List Nat) : Str := ⟨l.toArray⟩
theorem strs_of : ∀ {xs : List D} {bs : List (List Nat)} {vs : List V}, strsOf xs = some bs → RDs T H M B n xs vs → vs = (bs.map toS).map V.str ∧ ∀ b ∈ bs, strOk b = true
  | [], _, _, h, .nil => by cases h; exact ⟨rfl, fun _ q => nomatch q⟩
  | d :: xs, bs, _, h, .cons r rs => by
    cases d with
    | str b =>
      unfold strsOf at h
      cases e : strsOf xs with
      | none => rw [e] at h; cases h
      | some q =>
        rw [e] at h
        cases h
        obtain ⟨e1, k1⟩ := r.str_inv
        obtain ⟨e2, k2⟩ := strs_of e rs
        rw [e1, e2]
        refine ⟨rfl, fun b hb => ?_⟩
        rcases List.mem_cons.mp hb with z | z
        · rw [z]; exact k1
        · exact k2 b z
    | _ => cases h
theorem args1 {st : Store} {ds : List D} {x : D} {vs : List V} (hs : RSt T H M B st) (rd : RDs T H M B M.length ds vs) (e : views st ds = some [x]) : ∃ v, vs = [v] ∧ RW' T H M B x v := (views_rel hs rd e).one
theorem cb_len (hK : X.K = T.K) : CallR X (.builtin "len") (rBf T .len) := by
  intro pins s σ H vs us Q I r h
  obtain ⟨M, B, st, ds, xs, d, rd, hs, e1, ev, w⟩ := h
  have ws := views_rel hs rd e1
  replace ev : bLen xs = some d := ev
  unfold bLen at ev
  split at ev
  · cases ev
    obtain ⟨v, rfl, w1⟩ := ws.one
    obtain ⟨rfl, k1⟩ := RD.str_inv w1
    refine call_len_str pins s σ H _ us Q I r ⟨_, rfl, by rw [str_len, ← SZ_eq]; exact strOk_len k1, ?_⟩
    rw [str_len]
    exact w.here hs (.int _)
  · cases ev
    obtain ⟨v, rfl, a, vs, rfl, h1, rs⟩ := ws.one
    refine call_len_seq pins s σ H _ us Q I r ⟨_, _, rfl, .inl (SqL.of h1), ?_⟩
    rw [← rs.length]
    exact w.here hs (.int _)
  · cases ev
    obtain ⟨v, rfl, w1⟩ := ws.one
    obtain ⟨a, vs, rfl, h1, rs⟩ := RD.tup_inv w1
    refine call_len_seq pins s σ H _ us Q I r ⟨_, _, rfl, .inr (hK ▸ h1), ?_⟩
    rw [← rs.length]
    exact w.here hs (.int _)
  · cases ev
theorem cb_abs : CallR X (.builtin "abs") (rBf T .abs) := by
  intro pins s σ H vs us Q I r h
  obtain ⟨M, B, st, ds, xs, d, rd, hs, e1, ev, w⟩ := h
  have ws := views_rel hs rd e1
  replace ev : bAbs xs = some d := ev
  unfold bAbs at ev
  split at ev
  · cases ev
    obtain ⟨v, rfl, w1⟩ := ws.one
    obtain rfl := RD.int_inv w1
    exact call_abs pins s σ H _ us Q I r ⟨_, rfl, w.here hs (.int _)⟩
  · cases ev
theorem cb_int : CallR X (.type "int") (rBf T .int) := by
  intro pins s σ H vs us Q I r h
  obtain ⟨M, B, st, ds, xs, d, rd, hs, e1, ev, w⟩ := h
  have ws := views_rel hs rd e1
  replace ev : bInt xs = some d := ev
  unfold bInt at ev
  split at ev
  · cases ev
    obtain ⟨v, rfl, w1⟩ := ws.one
    obtain rfl := RD.int_inv w1
    exact call_int1 pins s σ H _ us Q I r (.inl ⟨_, rfl, w.here hs (.int _)⟩)
  · cases ev
    obtain ⟨v, rfl, w1⟩ := ws.one
    obtain rfl := RD.bl_inv w1
    exact call_int1 pins s σ H _ us Q I r (.inr ⟨_, rfl, w.here hs (.int _)⟩)
  · cases ev
theorem cb_any (hc : X.calm = true) : CallR X (.builtin "any") (rBf T .any) := by
  intro pins s σ H vs us Q I r h
  obtain ⟨M, B, st, ds, xs, d, rd, hs, e1, ev, w⟩ := h
  have ws := views_rel hs rd e1
  replace ev : bAny xs = some d := ev
  unfold bAny at ev
  split at ev
  · rename_i ys
    cases e : boolsOf ys with
    | none => rw [e] at ev; cases ev
    | some q =>
      rw [e] at ev
      cases ev
      obtain ⟨v, rfl, a, vs, rfl, h1, rs⟩ := ws.one
      exact cr_any hc pins s σ H _ us Q I r ⟨_, _, rfl, by rw [← bools_of e rs]; exact SqL.of h1, w.here hs (.bl _)⟩
  · cases ev
theorem cb_all (hc : X.calm = true) : CallR X (.builtin "all") (rBf T .all) := by
  intro pins s σ H vs us Q I r h
  obtain ⟨M, B, st, ds, xs, d, rd, hs, e1, ev, w⟩ := h
  have ws := views_rel hs rd e1
  replace ev : bAll xs = some d := ev
  unfold bAll at ev
  split at ev
  · rename_i ys
    cases e : boolsOf ys with
    | none => rw [e] at ev; cases ev
    | some q =>
      rw [e] at ev
      cases ev
      obtain ⟨v, rfl, a, vs, rfl, h1, rs⟩ := ws.one
      exact cr_all hc pins s σ H _ us Q I r ⟨_, _, rfl, by rw [← bools_of e rs]; exact SqL.of h1, w.here hs (.bl _)⟩
  · cases ev
theorem cb_sum (hc : X.calm = true) : CallR X (.builtin "sum") (rBf T .sum1) := by
  intro pins s σ H vs us Q I r h
  obtain ⟨M, B, st, ds, xs, d, rd, hs, e1, ev, w⟩ := h
  have ws := views_rel hs rd e1
  replace ev : bSum xs = some d := ev
  unfold bSum at ev
  split at ev
  · rename_i ys
    cases e : intsOf ys with
    | none => rw [e] at ev; cases ev
    | some q =>
      rw [e] at ev
      cases ev
      obtain ⟨v, rfl, a, vs, rfl, h1, rs⟩ := ws.one
      exact cr_sum hc pins s σ H _ us Q I r ⟨_, _, rfl, by rw [← ints_of e rs]; exact SqL.of h1, w.here hs (.int _)⟩
  · cases ev
theorem cb_tuple (hK : X.K = T.K) : CallR X (.type "tuple") (rBf T .tuple) := by
  intro pins s σ H vs us Q I r h
  obtain ⟨M, B, st, ds, xs, d, rd, hs, e1, ev, w⟩ := h
  have ws := views_rel hs rd e1
  replace ev : bTuple xs = some d := ev
  unfold bTuple at ev
  split at ev
  · cases ev
    obtain ⟨v, rfl, a, vs, rfl, h1, rs⟩ := ws.one
    exact call_tuple_of pins s σ H _ us Q I r ⟨_, _, rfl, .inl ⟨SqL.of h1, fun l hl => w.newT hs rs hl⟩⟩
  · cases ev
    obtain ⟨v, rfl, w1⟩ := ws.one
    obtain ⟨a, vs, rfl, h1, rs⟩ := RD.tup_inv w1
    exact call_tuple_of pins s σ H _ us Q I r ⟨_, _, rfl, .inr ⟨hK ▸ h1, w.here hs (.tup h1 rs)⟩⟩
  · cases ev
/-- a new list, wanted as a value or as a mutable one -/
def WantL (T : Tb) (B : Addr → Prop) (H : Hp) (M : List Addr) (st : Store) (xs : List D) (Q : VK) : Prop := ∀ p vs, H p = none → RDs T H M B M.length xs vs → Q (.ref p) (upd H p (.lst vs))
theorem signs_rd : ∀ (s : List Nat), (∀ c ∈ s, c < 1114112) → RDs T H M B n (s.map fun c => .str [c]) (s.map fun c => .str ⟨#[c]⟩)
  | [], _ => .nil
  | c :: r, h => .cons (.str (strOk_of (fun x hx => by rw [List.mem_singleton.mp hx]; exact h c (List.mem_cons_self ..)) (by show 1 ≤ SZ; decide))) (signs_rd r fun x hx => h x (List.mem_cons_of_mem _ hx))
theorem list_str {X : Cx} {pins : List (Addr × PySem.Obj)} {s : Shared} {σ : L2.St} {a : List Nat} {t : Tok} {Q : VK} (hc : X.calm = true) (I : Inv X pins σ H s) (hz : a.length ≤ SZ) (q : ∀ p, H p = none → Q (.ref p) (upd H p (.lst (a.map fun c => .str ⟨#[c]⟩)))) :
    wpAny (model X.prog X.w) X.A (call (.type "list") [.str ⟨a.toArray⟩ t]) (EP X pins σ Q) X.xe s := by
  refine call_list_str (hn := by rw [← SZ_eq]; simpa using hz) (I.ok.hd hc) _ t fun h' tk acc' c' hk hS' hacc => ?_
  have hp : H s.heap.objs.size = none := I.hok.fresh (Nat.le_refl _)
  have hsz : acc'.toList.length = a.length := by simpa using hacc.1
  refine ⟨.ref s.heap.objs.size, _, I.laid (t' := tk) (o := .lst (a.map fun c => .str ⟨#[c]⟩)) (fun b u e => hk b u e) (Nat.le_refl _) ⟨by rw [List.length_map, ← SZ_eq]; exact hz, acc'.toList, c', ?_, by simpa using hS'⟩, rfl, q _ hp⟩
  refine vals_of_at (by rw [List.length_map, hsz]) fun j x u hx hu => ?_
  obtain ⟨c, tk', hc', rfl⟩ := hacc.2 j u (by simpa using hu)
  rw [List.getElem?_map] at hx
  have : a[j]? = some c := by simpa using hc'
  rw [this] at hx
  cases hx
  exact ⟨tk', rfl⟩
/-- list(x), the new list at hand -/
def rListM (T : Tb) : List V → Hp → VK → Prop := fun vs H Q => ∃ M B st ds xs ys, RDs T H M B M.length ds vs ∧ RSt T H M B st ∧ views st ds = some xs ∧ bList xs = some (.lst ys) ∧ WantL T B H M st ys Q
theorem cb_list (hK : X.K = T.K) (hc : X.calm = true) : CallR X (.type "list") (rListM T) := by
  intro pins s σ H vs us Q I r h
  obtain ⟨M, B, st, ds, xs, ys, rd, hs, e1, ev, w⟩ := h
  have ws := views_rel hs rd e1
  unfold bList at ev
  split at ev
  · cases ev
    obtain ⟨v, rfl, a, vs, rfl, h1, rs⟩ := ws.one
    exact call_list_of pins s σ H _ us Q I r ⟨_, _, rfl, .inl (SqL.of h1), fun l hl => w _ _ hl rs⟩
  · cases ev
    obtain ⟨v, rfl, w1⟩ := ws.one
    obtain ⟨a, vs, rfl, h1, rs⟩ := RD.tup_inv w1
    exact call_list_of pins s σ H _ us Q I r ⟨_, _, rfl, .inr (hK ▸ h1), fun l hl => w _ _ hl rs⟩
  · cases ev
    obtain ⟨v, rfl, w1⟩ := ws.one
    obtain ⟨rfl, k1⟩ := RD.str_inv w1
    obtain ⟨u, rfl, hu⟩ := Vals.one r
    obtain ⟨t, rfl⟩ := hu
    exact list_str hc I (strOk_len k1) fun p hp => w _ _ hp (signs_rd _ (strOk_mem k1))
  · cases ev
/-! ### methods of texts -/
theorem cnt_eq (c : Nat) : ∀ l : List Nat, cnt c l = (l.count c : Nat)
  | [] => rfl
  | x :: r => by
    rw [cnt_cons, cnt_eq c r, List.count_cons]
    by_cases h : x = c
    · subst h; simp; omega
    · rw [if_neg h]; simp [h]
/-- a method: the receiver is the first of the values -/
def rMt (T : Tb) (f : Bf) : V → List V → Hp → VK → Prop := fun x vs H Q => rBf T f (x :: vs) H Q
theorem cm_count : MtR X "str.count" (rMt T .count) := by
  intro pins s σ H x vs v us Q I rx r h
  obtain ⟨M, B, st, ds, xs, d, rd, hs, e1, ev, w⟩ := h
  have ws := views_rel hs rd e1
  replace ev : bCount xs = some d := ev
  unfold bCount at ev
  split at ev
  · cases ev
    obtain ⟨v1, v2, e, w1, w2⟩ := ws.two
    cases e
    obtain ⟨rfl, k1⟩ := RD.str_inv w1
    obtain ⟨rfl, k2⟩ := RD.str_inv w2
    refine mt_count pins s σ H _ _ v us Q I rx r ⟨_, _, rfl, rfl, ?_⟩
    rename_i s' c
    have e : Txt.count (⟨s'.toArray⟩ : Str) ⟨[c].toArray⟩ = (s'.count c : Nat) := by
      rw [← cnt_eq]
      exact count_is _ c
    rw [e]
    exact w.here hs (.int _)
  · cases ev
theorem cm_upper : MtR X "str.upper" (rMt T .upper) := by
  intro pins s σ H x vs v us Q I rx r h
  obtain ⟨M, B, st, ds, xs, d, rd, hs, e1, ev, w⟩ := h
  have ws := views_rel hs rd e1
  replace ev : bUpper xs = some d := ev
  unfold bUpper at ev
  split at ev
  · split at ev
    · rename_i s' hh
      cases ev
      simp only [Bool.and_eq_true, List.all_eq_true, decide_eq_true_eq] at hh
      obtain ⟨v1, e, w1⟩ := ws.one
      cases e
      obtain ⟨rfl, k1⟩ := RD.str_inv w1
      refine mt_upper pins s σ H _ _ v us Q I rx r ⟨_, rfl, rfl, by rw [str_len]; omega, ?_⟩
      have e : Txt.upper (⟨s'.toArray⟩ : Str) = ⟨(s'.map MP.up1).toArray⟩ := by
        rw [upper_ascii (x := ⟨s'.toArray⟩) (by simpa using hh.1)]
        refine ext_tl ?_
        show (s'.toArray.map PyProof.Rows.up1).toList = _
        rw [Array.toList_map]
        rfl
      rw [e]
      refine w.here hs (.str (strOk_of (fun c hc => ?_) ?_))
      · obtain ⟨c', hc', rfl⟩ := List.mem_map.mp hc
        have := hh.1 c' hc'
        unfold MP.up1
        split <;> omega
      · rw [List.length_map]; have := hh.2; unfold SZ; omega
    · cases ev
  · cases ev
theorem join_joinL (s : List Nat) : ∀ q : List (List Nat), joinN s q = joinL s q
  | [] => rfl
  | [_] => rfl
  | x :: y :: r => by
    show x ++ s ++ joinN s (y :: r) = x ++ (s ++ joinL s (y :: r))
    rw [join_joinL s (y :: r), List.append_assoc]
theorem joinN_mem {s : List Nat} {c : Nat} : ∀ {q : List (List Nat)}, c ∈ joinN s q → c ∈ s ∨ ∃ x ∈ q, c ∈ x
  | [], h => by cases h
  | [x], h => .inr ⟨x, List.mem_cons_self .., h⟩
  | x :: y :: r, h => by
    rcases List.mem_append.mp (show c ∈ x ++ s ++ joinN s (y :: r) from h) with h | h
    · rcases List.mem_append.mp h with h | h
      · exact .inr ⟨x, List.mem_cons_self .., h⟩
      · exact .inl h
    · rcases joinN_mem h with h | ⟨z, hz, h⟩
      · exact .inl h
      · exact .inr ⟨z, List.mem_cons_of_mem _ hz, h⟩
theorem joinN_len (s : List Nat) : ∀ q : List (List Nat), (joinN s q).length ≤ (q.map List.length).sum + q.length * s.length
  | [] => Nat.zero_le _
  | [x] => by simp [joinN]
  | x :: y :: r => by
    have ih := joinN_len s (y :: r)
    show (x ++ s ++ joinN s (y :: r)).length ≤ _
    rw [List.length_append, List.length_append, List.map_cons, List.sum_cons, List.length_cons, Nat.succ_mul]
    omega
theorem cm_join (hK : X.K = T.K) : MtR X "str.join" (rMt T .join) := by
  intro pins s σ H x vs v us Q I rx r h
  obtain ⟨M, B, st, ds, xs, d, rd, hs, e1, ev, w⟩ := h
  have ws := views_rel hs rd e1
  replace ev : bJoin xs = some d := ev
  have main : ∀ (s' : List Nat) (q : List (List Nat)) (a : Addr), x = .str ⟨s'.toArray⟩ → strOk s' = true → (∀ b ∈ q, strOk b = true) → vs = [.ref a] → (SqL X.K H a ((q.map toS).map V.str) ∨ SqT X.K H a ((q.map toS).map V.str)) → joinOk s' q = true → d = .str (joinN s' q) →
      wpAny (model X.prog X.w) X.A (call (.builtin "str.join") (v :: us)) (EP X pins σ Q) X.xe s := fun s' q a ex k1 k2 evs hh hok ed => by
    subst ex evs ed
    unfold joinOk at hok
    have hok' := of_decide_eq_true hok
    have elen : ((q.map toS).map (·.length)).sum = (q.map List.length).sum := by
      rw [List.map_map]
      rfl
    refine mt_join pins s σ H _ _ v us Q I rx r ⟨_, a, q.map toS, rfl, rfl, hh, ?_, ?_⟩
    · rw [elen, List.length_map, str_len]; exact hok'
    · have e : Txt.join (⟨s'.toArray⟩ : Str) (q.map toS) = ⟨(joinN s' q).toArray⟩ := by
        refine ext_tl ?_
        rw [join_eq, tl_join, join_joinL, List.map_map]
        have e3 : ∀ q : List (List Nat), q.map (tl ∘ toS) = q := fun q => by
          induction q with
          | nil => rfl
          | cons a r ih => rw [List.map_cons, ih]; rfl
        rw [e3]
      rw [e]
      refine w.here hs (.str (strOk_of (fun c hc => ?_) (Nat.le_trans (joinN_len _ _) hok')))
      rcases joinN_mem hc with h | ⟨z, hz, h⟩
      · exact strOk_mem k1 c h
      · exact strOk_mem (k2 z hz) c h
  unfold bJoin at ev
  split at ev
  · rename_i s' ys
    cases e : strsOf ys with
    | none => rw [e] at ev; cases ev
    | some q =>
      rw [e] at ev
      replace ev : (if joinOk s' q = true then some (D.str (joinN s' q)) else none) = some d := ev
      split at ev
      · cases ev
        obtain ⟨v1, v2, e0, w1, a, vs', rfl, h1, rs⟩ := ws.two
        cases e0
        obtain ⟨rfl, k1⟩ := RD.str_inv w1
        obtain ⟨e2, k2⟩ := strs_of e rs
        exact main s' q a rfl k1 k2 rfl (.inl (by rw [← e2]; exact SqL.of h1)) (by assumption) rfl
      · cases ev
  · rename_i s' ys
    cases e : strsOf ys with
    | none => rw [e] at ev; cases ev
    | some q =>
      rw [e] at ev
      replace ev : (if joinOk s' q = true then some (D.str (joinN s' q)) else none) = some d := ev
      split at ev
      · cases ev
        obtain ⟨v1, v2, e0, w1, w2⟩ := ws.two
        cases e0
        obtain ⟨rfl, k1⟩ := RD.str_inv w1
        obtain ⟨a, vs', rfl, h1, rs⟩ := RD.tup_inv w2
        obtain ⟨e2, k2⟩ := strs_of e rs
        exact main s' q a rfl k1 k2 rfl (.inr (by rw [← e2, hK]; exact h1)) (by assumption) rfl
      · cases ev
  · cases ev
/-! ### isinstance -/
def kindN : D → String
  | .non => "NoneType" | .bl _ => "bool" | .int _ => "int" | .str _ => "str" | .tup _ => "tuple" | .lst _ => "list" | _ => "dict"
theorem kind_ty (hK : X.K = T.K) {d : D} {v : V} (k : kindOk d = true) (w : RW' T H M B d v) : ∃ t : String, TyX X.K H v (.type t) ∧ t = kindN d := by
  cases d with
  | non => obtain rfl := RD.non_inv w; exact ⟨_, .base .non, rfl⟩
  | bl b => obtain rfl := RD.bl_inv w; exact ⟨_, .base (.bl b), rfl⟩
  | int b => obtain rfl := RD.int_inv w; exact ⟨_, .base (.int b), rfl⟩
  | str b => obtain ⟨rfl, _⟩ := RD.str_inv w; exact ⟨_, .base (.str _), rfl⟩
  | tup b =>
    obtain ⟨a, vs, rfl, h1, rs⟩ := RD.tup_inv w
    refine ⟨_, ?_, rfl⟩
    rcases h1 with (h | ⟨o, h⟩) | ⟨o, its, n, h, c, _⟩
    · exact .base (.tup h)
    · exact .fTuple h
    · exact .kTuple (hK ▸ h) c
  | lst b => obtain ⟨a, vs, rfl, h1, rs⟩ := w; exact ⟨_, .base (.lst h1), rfl⟩
  | dct b => obtain ⟨a, vs, rfl, h1, rs⟩ := w; exact ⟨_, .base (.dK h1), rfl⟩
  | ref _ => cases k
  | fn _ => cases k
  | scr _ => cases k
/-- isinstance(x, t): the second value is the built-in class t -/
def rIsM (T : Tb) (f : D → Bool) (t : String) : List V → Hp → VK → Prop := fun vs H Q => ∃ M B st dx ex v, vs = [v, .ty t] ∧ RD T H M B M.length dx v ∧ RSt T H M B st ∧ view st dx = some ex ∧ kindOk ex = true ∧ Q (.bl (f ex)) H
theorem cb_is (hK : X.K = T.K) {f : D → Bool} {t : String} (hf : ∀ d, kindOk d = true → kitB (kindN d) t = some (f d)) : CallR X (.builtin "isinstance") (rIsM T f t) := by
  intro pins s σ H vs us Q I r h
  obtain ⟨M, B, st, dx, ex, v, rfl, rd, hs, e1, k, q⟩ := h
  obtain ⟨t', ty, et⟩ := kind_ty hK k (view_rel hs rd e1)
  exact call_isi pins s σ H _ us Q I r ⟨_, _, _, _, _, rfl, .ty t, ty, kit_ty (by rw [et]; exact hf ex k), q⟩
theorem is_str : ∀ d, kindOk d = true → kitB (kindN d) "str" = some (isStrD d) := by
  intro d k; cases d <;> first | (cases k; done) | (simp only [kindN, isStrD]; decide +kernel)
theorem is_int : ∀ d, kindOk d = true → kitB (kindN d) "int" = some (isIntD d) := by
  intro d k; cases d <;> first | (cases k; done) | (simp only [kindN, isIntD]; decide +kernel)
theorem is_bool : ∀ d, kindOk d = true → kitB (kindN d) "bool" = some (isBoolD d) := by
  intro d k; cases d <;> first | (cases k; done) | (simp only [kindN, isBoolD]; decide +kernel)
theorem is_tuple : ∀ d, kindOk d = true → kitB (kindN d) "tuple" = some (isTupD d) := by
  intro d k; cases d <;> first | (cases k; done) | (simp only [kindN, isTupD]; decide +kernel)
theorem is_list : ∀ d, kindOk d = true → kitB (kindN d) "list" = some (isLstD d) := by
  intro d k; cases d <;> first | (cases k; done) | (simp only [kindN, isLstD]; decide +kernel)
theorem is_dict : ∀ d, kindOk d = true → kitB (kindN d) "dict" = some (isDctD d) := by
  intro d k; cases d <;> first | (cases k; done) | (simp only [kindN, isDctD]; decide +kernel)
end
end MP

set_option Elab.async false
set_option linter.all false
set_option maxRecDepth 100000
set_option maxHeartbeats 1000000
/-! MP: a text or a list, turned; the least and the greatest of alike data -/
namespace MP
open PySem PySem.Spec PyProof.Rows L2 TL
section
variable {X : Cx} {pos : Pos}
def tRevX (K : PySem.W.Frag) (te : TE) : TE := fun σ H Q => te σ H fun x H1 => (∃ a xs, x = .ref a ∧ SqL K H1 a xs ∧ ∀ p, H1 p = none → Q (.ref p) (upd H1 p (.lst xs.reverse))) ∨ ∃ z, x = .str z ∧ z.length ≤ sizeLine ∧ Q (.str ⟨z.cps.toList.reverse.toArray⟩) H1
theorem rev_str (x : Str) (u : Tok) : Txt.sliceBy x none none (-1, u) = ⟨x.cps.toList.reverse.toArray⟩ := by
  apply ext_tl
  have h := step_rev_list x u
  show (Txt.sliceBy x none none (-1, u)).cps.toList = _
  rw [h]
  apply List.ext_getElem?
  intro i
  show _ = (x.cps.toList.reverse.toArray.toList)[i]?
  rw [List.toList_toArray]
  by_cases hi : i < x.length
  · have hl : i < x.cps.toList.length := by simpa [Str.length] using hi
    rw [List.getElem?_reverse hl, List.getElem?_map, List.getElem?_range hi]
    have h2 : x.cps.toList.length - 1 - i < x.cps.toList.length := by omega
    rw [List.getElem?_eq_getElem h2]
    show some _ = some _
    have h3 : x.length = x.cps.toList.length := by simp [Str.length]
    rw [h3]
    simp only [Array.getD, Array.length_toList] at h2 ⊢
    rw [dif_pos h2]
    simp
  · rw [List.getElem?_eq_none (by simpa using Nat.le_of_not_lt hi), List.getElem?_eq_none (by simpa [Str.length] using Nat.le_of_not_lt hi)]
theorem pe_revX {e : Expr} {te : TE} {k : Nat} {p1 p2 p3 : Pos} (he : PE X e te) : PE X (.Subscript e (.Slice none none (some (.UnaryOp .USub (.Constant (.int 1) k p1) p2)) p3) pos) (tRevX X.K te) := by
  refine ⟨fun pins s σ H Q I h => ?_⟩
  refine Subscript_ (thn (he.run pins s σ H _ I h) fun v s1 hv => ?_)
  obtain ⟨x, H1, I1, r1, hq⟩ := hv
  have hst : PO X (some (.UnaryOp .USub (.Constant (.int 1) k p1) p2)) (tPart (tUn (rU fun i => .int (-i)) (tC (.int 1)))) := po_some (pe_un un_neg pe_int)
  refine wpAny_Slice (thn (po_none.run pins s1 σ H1 (fun o H2 => o = none ∧ H2 = H1) I1 ⟨rfl, rfl⟩) fun vl s2 h2 => ?_)
  obtain ⟨l, H2, I2, pl, rfl, rfl⟩ := h2
  refine thn (po_none.run pins s2 σ H2 (fun o H3 => o = none ∧ H3 = H2) I2 ⟨rfl, rfl⟩) fun vu s3 h3 => ?_
  obtain ⟨u, H3, I3, pu, rfl, rfl⟩ := h3
  refine thn (hst.run pins s3 σ H3 (fun o H4 => o = some (-1) ∧ H4 = H3) I3 ⟨1, rfl, -1, rfl, rfl, rfl⟩) fun vs s4 h4 => ?_
  obtain ⟨o, H4, I4, ps, rfl, rfl⟩ := h4
  have I5 : Inv X pins σ H4 { s4 with heap := s4.heap.push { cls := .type "slice", data := .fields #[vl, vu, vs] } } := I4.kept (t' := s4.toks) fun b ob q => Heap.get?_push_of_some _ q
  rcases hq with ⟨a, xs, rfl, hx, q⟩ | ⟨z, rfl, hz, q⟩
  · cases r1
    obtain ⟨its, r, ht, hz⟩ := I5.list hx
    have hlen := r.length
    show wpAny (model X.prog X.w) X.A (subscriptTail e (.Slice none none (some (.UnaryOp .USub (.Constant (.int 1) k p1) p2)) p3) (.ref a) (.ref s4.heap.objs.size)) (EP X pins σ Q) X.xe _
    refine tail_any (ops := [.ref a, .ref s4.heap.objs.size]) ht.isList.typeIs (PySem.slot_list_getitem.lookup) ?_ (by with_unfolding_all rfl)
    refine wpAny_getItem_list_slice ht.isList (Heap.IsSliceOf.new _ vl vu vs) pl pu ps (by decide) ?_ (by rw [List.size_toArray]; omega)
    rw [PySem.W.krv_pick]
    exact ⟨.ref _, _, I5.laid (t' := s4.toks) (o := .lst xs.reverse) (fun b ob q => Heap.get?_push_of_some _ q) (Nat.le_refl _) ⟨by rw [List.length_reverse]; exact hz, _, 0, r.reverse, Heap.get?_push_size _ rfl⟩, rfl, q _ (I5.hok.fresh (Nat.le_refl _))⟩
  · obtain ⟨t, rfl⟩ := r1
    obtain ⟨l, rfl, el⟩ := IsPart.raw pl
    obtain ⟨u, rfl, eu⟩ := IsPart.raw pu
    obtain ⟨st, rfl, es⟩ := IsPart.raw ps
    cases l with
    | some _ => cases el
    | none =>
      cases u with
      | some _ => cases eu
      | none =>
        cases st with
        | none => cases es
        | some st =>
          obtain ⟨sv, stk⟩ := st
          have hsv : sv = -1 := Option.some.inj es
          subst hsv
          show wpAny (model X.prog X.w) X.A (subscriptTail e (.Slice none none (some (.UnaryOp .USub (.Constant (.int 1) k p1) p2)) p3) (.str z t) (.ref s4.heap.objs.size)) (EP X pins σ Q) X.xe _
          refine tail_any (ops := [.ref s4.heap.objs.size]) (typeIs_str _ z t) PySem.F.slot_str_getitem.lookup ?_ (by with_unfolding_all rfl)
          refine wpAny_getItem_str_slice (l := none) (u := none) (st := some (-1, stk)) ⟨_, Heap.get?_push_size _ rfl, rfl, rfl⟩ rfl ?_
          have e1 := rev_str z stk
          have hl : (Txt.sliceBy z none none (-1, stk)).length ≤ sizeLine := by rw [step_rev_len]; exact hz
          rw [← e1] at q
          exact post_val_or_str ⟨hl, fun t' c => ⟨.str _, H4, I5.kept (t' := c) (fun b ob q => q), ⟨_, rfl⟩, q⟩⟩
end
/-! ### min, max -/
mutual
theorem toPD_inj : ∀ {a b : D}, plain a = true → plain b = true → toPD a = toPD b → a = b
  | .non, b, _, hb, e => by cases b <;> simp [toPD, plain] at e hb ⊢
  | .bl x, b, _, hb, e => by cases b <;> simp [toPD, plain] at e hb ⊢; exact e
  | .int x, b, _, hb, e => by cases b <;> simp [toPD, plain] at e hb ⊢; exact e
  | .str x, b, _, hb, e => by
    cases b <;> simp [toPD, plain] at e hb ⊢
    simpa using e
  | .tup xs, b, ha, hb, e => by
    cases b <;> simp [toPD, plain] at e ha hb ⊢
    exact toPDs_inj ha hb e
  | .lst xs, b, ha, hb, e => by
    cases b <;> simp [toPD, plain] at e ha hb ⊢
    exact toPDs_inj ha hb e
  | .dct _, _, h, _, _ => by simp [plain] at h
  | .ref _, _, h, _, _ => by simp [plain] at h
  | .fn _, _, h, _, _ => by simp [plain] at h
  | .scr _, _, h, _, _ => by simp [plain] at h
theorem toPDs_inj : ∀ {a b : List D}, plains a = true → plains b = true → toPDs a = toPDs b → a = b
  | [], [], _, _, _ => rfl
  | [], _ :: _, _, _, e => by simp [toPDs] at e
  | _ :: _, [], _, _, e => by simp [toPDs] at e
  | a :: as, b :: bs, ha, hb, e => by
    simp only [plains, Bool.and_eq_true] at ha hb
    simp only [toPDs, List.cons.injEq] at e
    rw [toPD_inj ha.1 hb.1 e.1, toPDs_inj ha.2 hb.2 e.2]
end
theorem plains_mem {xs : List D} (h : plains xs = true) : ∀ x ∈ xs, plain x = true := by
  induction xs with
  | nil => intro x hx; cases hx
  | cons a as ih =>
    simp only [plains, Bool.and_eq_true] at h
    intro x hx
    rcases List.mem_cons.mp hx with rfl | hx
    · exact h.1
    · exact ih h.2 x hx
theorem toPDs_map (xs : List D) : toPDs xs = xs.map toPD := by
  induction xs with
  | nil => rfl
  | cons a as ih => simp only [toPDs, List.map_cons, ih]
theorem minD_mem : ∀ (xs : List D) (x : D), MP.minD x xs ∈ x :: xs
  | [], x => by simp [MP.minD]
  | y :: ys, x => by
    unfold MP.minD
    have := minD_mem ys (if ltD y x then y else x)
    rcases List.mem_cons.mp this with e | h
    · rw [e]
      split
      · exact List.mem_cons_of_mem _ List.mem_cons_self
      · exact List.mem_cons_self
    · exact List.mem_cons_of_mem _ (List.mem_cons_of_mem _ h)
theorem maxD_mem : ∀ (xs : List D) (x : D), MP.maxD x xs ∈ x :: xs
  | [], x => by simp [MP.maxD]
  | y :: ys, x => by
    unfold MP.maxD
    have := maxD_mem ys (if ltD x y then y else x)
    rcases List.mem_cons.mp this with e | h
    · rw [e]
      split
      · exact List.mem_cons_of_mem _ List.mem_cons_self
      · exact List.mem_cons_self
    · exact List.mem_cons_of_mem _ (List.mem_cons_of_mem _ h)
/-- plain and alike, each with each -/
def Ali (xs : List D) : Prop := ∀ a ∈ xs, plain a = true ∧ ∀ b ∈ xs, alikeD a b = true
theorem minD_toPD : ∀ (xs : List D) (x : D), Ali (x :: xs) → toPD (MP.minD x xs) = PySem.W.minD (toPD x) (toPDs xs)
  | [], x, _ => rfl
  | y :: ys, x, h => by
    have hy : y ∈ x :: y :: ys := by simp
    have hx : x ∈ x :: y :: ys := by simp
    have e := lt_toPD y x (h y hy).1 (h x hx).1 ((h y hy).2 x hx)
    have sub : ∀ z, (z = x ∨ z = y) → Ali (z :: ys) := fun z hz a ha => by
      have m : ∀ c, c ∈ z :: ys → c ∈ x :: y :: ys := fun c hc => by
        rcases List.mem_cons.mp hc with rfl | hc
        · rcases hz with rfl | rfl
          · exact hx
          · exact hy
        · exact List.mem_cons_of_mem _ (List.mem_cons_of_mem _ hc)
      exact ⟨(h a (m a ha)).1, fun b hb => (h a (m a ha)).2 b (m b hb)⟩
    show toPD (MP.minD (if ltD y x then y else x) ys) = (toPDs ys).foldl _ (if PySem.W.dataLt (toPD y) (toPD x) then toPD y else toPD x)
    rw [e]
    cases hc : ltD y x with
    | true => exact minD_toPD ys y (sub y (.inr rfl))
    | false => exact minD_toPD ys x (sub x (.inl rfl))
theorem maxD_toPD : ∀ (xs : List D) (x : D), Ali (x :: xs) → toPD (MP.maxD x xs) = PySem.W.maxD (toPD x) (toPDs xs)
  | [], x, _ => rfl
  | y :: ys, x, h => by
    have hy : y ∈ x :: y :: ys := by simp
    have hx : x ∈ x :: y :: ys := by simp
    have e := lt_toPD x y (h x hx).1 (h y hy).1 ((h x hx).2 y hy)
    have sub : ∀ z, (z = x ∨ z = y) → Ali (z :: ys) := fun z hz a ha => by
      have m : ∀ c, c ∈ z :: ys → c ∈ x :: y :: ys := fun c hc => by
        rcases List.mem_cons.mp hc with rfl | hc
        · rcases hz with rfl | rfl
          · exact hx
          · exact hy
        · exact List.mem_cons_of_mem _ (List.mem_cons_of_mem _ hc)
      exact ⟨(h a (m a ha)).1, fun b hb => (h a (m a ha)).2 b (m b hb)⟩
    show toPD (MP.maxD (if ltD x y then y else x) ys) = (toPDs ys).foldl _ (if PySem.W.dataLt (toPD x) (toPD y) then toPD y else toPD x)
    rw [e]
    cases hc : ltD x y with
    | true => exact maxD_toPD ys y (sub y (.inr rfl))
    | false => exact maxD_toPD ys x (sub x (.inl rfl))
theorem minOk_of {xs : List D} (h : minOk xs = true) : Ali xs ∧ plains xs = true ∧ PySem.W.AlikeAll (toPDs xs) ∧ PyData.depthAll (toPDs xs) ≤ 64 := by
  unfold minOk at h
  rw [Bool.and_eq_true, Bool.and_eq_true, decide_eq_true_eq] at h
  obtain ⟨h1, h2, h3⟩ := h
  have hm : ∀ a ∈ xs, isNon a = false ∧ ∀ b ∈ xs, alikeD a b = true := fun a ha => by
    have := List.all_eq_true.mp h2 a ha
    rw [Bool.and_eq_true, Bool.not_eq_true'] at this
    exact ⟨this.1, fun b hb => List.all_eq_true.mp this.2 b hb⟩
  refine ⟨fun a ha => ⟨plains_mem h1 a ha, (hm a ha).2⟩, h1, ⟨fun p hp q hq => ?_, fun p hp => ?_⟩, by rw [depths_toPD]; exact h3⟩
  · rw [toPDs_map] at hp hq
    obtain ⟨a, ha, rfl⟩ := List.mem_map.mp hp
    obtain ⟨b, hb, rfl⟩ := List.mem_map.mp hq
    exact alike_toPD a b ((hm a ha).2 b hb)
  · rw [toPDs_map] at hp
    obtain ⟨a, ha, rfl⟩ := List.mem_map.mp hp
    have q := (hm a ha).1
    have q2 := plains_mem h1 a ha
    cases a <;> simp [toPD, isNon, plain] at q q2 ⊢
section
variable {prog : Program} {w : World} {A : Around} {E : Value → Shared → Prop} {s : Shared}
theorem min_seq {tup : Bool} {l : Addr} {vs : Array Value} {x : PyData} {xs : List PyData} {as : List Addr} {Q : Value → Shared → Prop} (hh : A.handled = none) (hl : if tup then s.heap.IsTuple l vs else s.heap.IsList l vs) (hr : ReadsAll s.heap vs.toList (x :: xs) as) (ha : PySem.W.AlikeAll (x :: xs)) (hu : A.units + 1 + PyData.depthAll (x :: xs) < cLine)
    (h : ∀ (i : Nat) v h' tk, vs[i]? = some v → (x :: xs).getD i .none = PySem.W.minD x xs → (∀ b o, s.heap.get? b = some o → h'.get? b = some o) → Q v { s with heap := h', toks := tk }) :
    wpAny (model prog w) A (call (.builtin "min") [.ref l]) Q E s := by
  have hn : vs.size = xs.length + 1 := PySem.W.readsAll_len hr
  have e1 : vs.size - 1 = xs.length := by omega
  have e2 := (PySem.W.argBest_fold PySem.W.dataLt PyData.none x xs xs.length (Nat.le_refl _)).2
  rw [List.take_length] at e2
  cases tup with
  | false =>
    refine PySem.call_min_walkH (PySem.W.iter_listW (A := A.in1) hh hl fun s₂ e W st hfp hw hk => ⟨_, _, _, _, _, _, _, s.heap, _, rfl, W, st, hfp, by omega, hw, hk, PySem.W.cmpIn_lt (A := A.in1) hr ha (by show A.units + 1 + _ < _; exact hu), fun v s' hP m => ?_⟩)
    obtain ⟨h', tk, rfl, hk'⟩ := PySem.W.moved_old e rfl m
    rw [e1] at hP
    exact h _ v h' tk hP e2 hk'
  | true =>
    refine PySem.call_min_walkH (PySem.W.iter_tupleW (A := A.in1) hh hl fun s₂ e W st hfp hw hk => ⟨_, _, _, _, _, _, _, s.heap, _, rfl, W, st, hfp, by omega, hw, hk, PySem.W.cmpIn_lt (A := A.in1) hr ha (by show A.units + 1 + _ < _; exact hu), fun v s' hP m => ?_⟩)
    obtain ⟨h', tk, rfl, hk'⟩ := PySem.W.moved_old e rfl m
    rw [e1] at hP
    exact h _ v h' tk hP e2 hk'
theorem max_seq {tup : Bool} {l : Addr} {vs : Array Value} {x : PyData} {xs : List PyData} {as : List Addr} {Q : Value → Shared → Prop} (hh : A.handled = none) (hl : if tup then s.heap.IsTuple l vs else s.heap.IsList l vs) (hr : ReadsAll s.heap vs.toList (x :: xs) as) (ha : PySem.W.AlikeAll (x :: xs)) (hu : A.units + 1 + PyData.depthAll (x :: xs) < cLine)
    (h : ∀ (i : Nat) v h' tk, vs[i]? = some v → (x :: xs).getD i .none = PySem.W.maxD x xs → (∀ b o, s.heap.get? b = some o → h'.get? b = some o) → Q v { s with heap := h', toks := tk }) :
    wpAny (model prog w) A (call (.builtin "max") [.ref l]) Q E s := by
  have hn : vs.size = xs.length + 1 := PySem.W.readsAll_len hr
  have e1 : vs.size - 1 = xs.length := by omega
  have e2 := (PySem.W.argBest_fold (fun a b => PySem.W.dataLt b a) PyData.none x xs xs.length (Nat.le_refl _)).2
  rw [List.take_length] at e2
  cases tup with
  | false =>
    refine PySem.call_max_walkH (PySem.W.iter_listW (A := A.in1) hh hl fun s₂ e W st hfp hw hk => ⟨_, _, _, _, _, _, _, s.heap, _, rfl, W, st, hfp, by omega, hw, hk, PySem.W.cmpIn_gt (A := A.in1) hr ha (by show A.units + 1 + _ < _; exact hu), fun v s' hP m => ?_⟩)
    obtain ⟨h', tk, rfl, hk'⟩ := PySem.W.moved_old e rfl m
    rw [e1] at hP
    exact h _ v h' tk hP e2 hk'
  | true =>
    refine PySem.call_max_walkH (PySem.W.iter_tupleW (A := A.in1) hh hl fun s₂ e W st hfp hw hk => ⟨_, _, _, _, _, _, _, s.heap, _, rfl, W, st, hfp, by omega, hw, hk, PySem.W.cmpIn_gt (A := A.in1) hr ha (by show A.units + 1 + _ < _; exact hu), fun v s' hP m => ?_⟩)
    obtain ⟨h', tk, rfl, hk'⟩ := PySem.W.moved_old e rfl m
    rw [e1] at hP
    exact h _ v h' tk hP e2 hk'
end
section
variable {T : Tb} {X : Cx} {M : List Addr} {B : Addr → Prop} {H : Hp}
theorem RDs.getV {T : Tb} {H : Hp} {M : List Addr} {B : Addr → Prop} {n : Nat} {ds : List D} {vs : List V} {i : Nat} {v : V} (r : RDs T H M B n ds vs) {d : D} (e : ds[i]? = some d) (ev : vs[i]? = some v) : RD T H M B n d v := by
  obtain ⟨v', e', r'⟩ := r.get e
  rw [ev] at e'; cases e'
  exact r'
/-- the item found, by its data -/
theorem pick_rd {xs : List D} {vs : List V} {its : List Value} {i : Nat} {v : Value} {m : D} (rs : RDs T H M B M.length xs vs) (rv : Vals vs its) (hp : plains xs = true) (hm : m ∈ xs) (hi : its.toArray[i]? = some v) (he : (toPDs xs).getD i .none = toPD m) : ∃ x, RelV x v ∧ RD T H M B M.length m x := by
  have hi' : its[i]? = some v := by simpa using hi
  have hl : i < its.length := (List.getElem?_eq_some_iff.mp hi').1
  have hv : i < vs.length := by rw [rv.length]; exact hl
  have hx : i < xs.length := by rw [rs.length]; exact hv
  obtain ⟨u, hu, ru⟩ := rv.get (List.getElem?_eq_getElem hv)
  rw [hi'] at hu; cases hu
  have rd := rs.getV (List.getElem?_eq_getElem hx) (List.getElem?_eq_getElem hv)
  have e2 : toPD xs[i] = toPD m := by
    rw [← he, toPDs_map]
    simp [hx]
  have e3 : xs[i] = m := toPD_inj (plains_mem hp _ (List.getElem_mem hx)) (plains_mem hp _ hm) e2
  rw [e3] at rd
  exact ⟨_, ru, rd⟩
theorem cb_min (hK : X.K = T.K) (hc : X.calm = true) (hu : X.A.units + 66 < cLine) : CallR X (.builtin "min") (rBf T .min1) := by
  intro pins s σ H vs us Q I r h
  obtain ⟨M, B, st, ds, xs, d, rd, hs, e1, ev, w⟩ := h
  have ws := views_rel hs rd e1
  replace ev : bMin xs = some d := ev
  unfold bMin at ev
  split at ev
  · rename_i x xs
    split at ev
    · rename_i hok
      cases ev
      obtain ⟨hal, hpl, ha, hd⟩ := minOk_of hok
      have hd : PyData.depthAll (toPD x :: toPDs xs) ≤ 64 := hd
      obtain ⟨v, rfl, a, vs, rfl, h1, rs⟩ := ws.one
      cases r with
      | cons r rr =>
        cases rr
        cases r
        obtain ⟨its, rv, pl, _⟩ := I.list (SqL.of h1)
        obtain ⟨as, hr⟩ := Dp.readsAll I _ vs its (by rw [hK]; exact dps_of rs hpl) rv
        refine min_seq (tup := false) (vs := its.toArray) (I.ok.hd hc) pl.isList (by simpa only [toPDs, List.toList_toArray] using hr) ha (by omega) fun i v h' tk hi hg hk => ?_
        obtain ⟨x', rx, rdx⟩ := pick_rd rs rv hpl (minD_mem xs x) hi (hg.trans (minD_toPD xs x hal).symm)
        exact ⟨x', H, I.kept hk, rx, w.here hs rdx⟩
    · cases ev
  · rename_i x xs
    split at ev
    · rename_i hok
      cases ev
      obtain ⟨hal, hpl, ha, hd⟩ := minOk_of hok
      have hd : PyData.depthAll (toPD x :: toPDs xs) ≤ 64 := hd
      obtain ⟨v, rfl, w1⟩ := ws.one
      obtain ⟨a, vs, rfl, h1, rs⟩ := RD.tup_inv w1
      cases r with
      | cons r rr =>
        cases rr
        cases r
        obtain ⟨its, rv, pl, _⟩ := I.tuple (by rw [hK]; exact h1)
        obtain ⟨as, hr⟩ := Dp.readsAll I _ vs its (by rw [hK]; exact dps_of rs hpl) rv
        refine min_seq (tup := true) (vs := its.toArray) (I.ok.hd hc) (show s.heap.IsTuple a its.toArray from pl) (by simpa only [toPDs, List.toList_toArray] using hr) ha (by omega) fun i v h' tk hi hg hk => ?_
        obtain ⟨x', rx, rdx⟩ := pick_rd rs rv hpl (minD_mem xs x) hi (hg.trans (minD_toPD xs x hal).symm)
        exact ⟨x', H, I.kept hk, rx, w.here hs rdx⟩
    · cases ev
  · cases ev
theorem cb_max (hK : X.K = T.K) (hc : X.calm = true) (hu : X.A.units + 66 < cLine) : CallR X (.builtin "max") (rBf T .max1) := by
  intro pins s σ H vs us Q I r h
  obtain ⟨M, B, st, ds, xs, d, rd, hs, e1, ev, w⟩ := h
  have ws := views_rel hs rd e1
  replace ev : bMax xs = some d := ev
  unfold bMax at ev
  split at ev
  · rename_i x xs
    split at ev
    · rename_i hok
      cases ev
      obtain ⟨hal, hpl, ha, hd⟩ := minOk_of hok
      have hd : PyData.depthAll (toPD x :: toPDs xs) ≤ 64 := hd
      obtain ⟨v, rfl, a, vs, rfl, h1, rs⟩ := ws.one
      cases r with
      | cons r rr =>
        cases rr
        cases r
        obtain ⟨its, rv, pl, _⟩ := I.list (SqL.of h1)
        obtain ⟨as, hr⟩ := Dp.readsAll I _ vs its (by rw [hK]; exact dps_of rs hpl) rv
        refine max_seq (tup := false) (vs := its.toArray) (I.ok.hd hc) pl.isList (by simpa only [toPDs, List.toList_toArray] using hr) ha (by omega) fun i v h' tk hi hg hk => ?_
        obtain ⟨x', rx, rdx⟩ := pick_rd rs rv hpl (maxD_mem xs x) hi (hg.trans (maxD_toPD xs x hal).symm)
        exact ⟨x', H, I.kept hk, rx, w.here hs rdx⟩
    · cases ev
  · rename_i x xs
    split at ev
    · rename_i hok
      cases ev
      obtain ⟨hal, hpl, ha, hd⟩ := minOk_of hok
      have hd : PyData.depthAll (toPD x :: toPDs xs) ≤ 64 := hd
      obtain ⟨v, rfl, w1⟩ := ws.one
      obtain ⟨a, vs, rfl, h1, rs⟩ := RD.tup_inv w1
      cases r with
      | cons r rr =>
        cases rr
        cases r
        obtain ⟨its, rv, pl, _⟩ := I.tuple (by rw [hK]; exact h1)
        obtain ⟨as, hr⟩ := Dp.readsAll I _ vs its (by rw [hK]; exact dps_of rs hpl) rv
        refine max_seq (tup := true) (vs := its.toArray) (I.ok.hd hc) (show s.heap.IsTuple a its.toArray from pl) (by simpa only [toPDs, List.toList_toArray] using hr) ha (by omega) fun i v h' tk hi hg hk => ?_
        obtain ⟨x', rx, rdx⟩ := pick_rd rs rv hpl (maxD_mem xs x) hi (hg.trans (maxD_toPD xs x hal).symm)
        exact ⟨x', H, I.kept hk, rx, w.here hs rdx⟩
    · cases ev
  · cases ev
end
end MP

set_option Elab.async false
set_option linter.all false
set_option maxRecDepth 100000
set_option maxHeartbeats 1000000
/-! MP: expressions, rule by rule -/
namespace MP
open PySem PySem.Spec PyProof.Rows L2 TL

/-- an ended run, its value, its store -/
def Wp {α : Type} (r : R α) (P : α → Store → Prop) : Prop := match r with
  | .ok a st => P a st
  | _ => False
theorem Wp.bind {α β : Type} {r : R α} {f : α → Store → R β} {P : β → Store → Prop} (h : Wp (r.bind f) P) : Wp r fun a st => Wp (f a st) P := by
  cases r with
  | ok a st => exact h
  | exc c p st => exact h
  | bad => exact h
theorem Wp.ofO {α : Type} {o : Option α} {st : Store} {P : α → Store → Prop} (h : Wp (MP.ofO o st) P) : ∃ a, o = some a ∧ P a st := by
  cases o with
  | none => exact h.elim
  | some a => exact ⟨a, rfl, h⟩
theorem Wp.mono {α : Type} {r : R α} {P Q : α → Store → Prop} (h : Wp r P) (w : ∀ a st, P a st → Q a st) : Wp r Q := by
  cases r with
  | ok a st => exact w _ _ h
  | exc c p st => exact h
  | bad => exact h
theorem Wp.ok {α : Type} {r : R α} {P : α → Store → Prop} (h : Wp r P) : ∃ a st, r = .ok a st ∧ P a st := by
  cases r with
  | ok a st => exact ⟨a, st, rfl, h⟩
  | exc c p st => exact h.elim
  | bad => exact h.elim

/-! ### readings -/
abbrev EV := MEnv → Store → R D
def rdE (T : Tb) (f : EV) : TE := fun σ H Q => ∃ B M env st, RE T H M B env σ ∧ RSt T H M B st ∧ Wp (f env st) fun d st' => Want T B H M st' d Q
def rdT (T : Tb) (f : EV) : TT := fun σ H Q => ∃ B M env st, RE T H M B env σ ∧ RSt T H M B st ∧ Wp (f env st) fun d st' => ∃ k, truth d = some k ∧ ∀ H' M', Evo H M H' M' → RSt T H' M' B st' → Q k H'
def rdA (T : Tb) (f : MEnv → Store → R (List D)) : TA := fun σ H Q => ∃ B M env st, RE T H M B env σ ∧ RSt T H M B st ∧ Wp (f env st) fun ds st' => ∀ vs H' M', Evo H M H' M' → RSt T H' M' B st' → RDs T H' M' B M'.length ds vs → Q vs H'
theorem PE.imp {X : Cx} {e : Expr} {t t' : TE} (h : PE X e t) (w : ∀ σ H Q, t' σ H Q → t σ H Q) : PE X e t' := ⟨fun pins s σ H Q I q => h.run pins s σ H Q I (w σ H Q q)⟩
theorem PT.imp {X : Cx} {e : Expr} {t t' : TT} (h : PT X e t) (w : ∀ σ H Q, t' σ H Q → t σ H Q) : PT X e t' := ⟨fun pins s σ H Q I q => h.run pins s σ H Q I (w σ H Q q)⟩
theorem PW.imp {X : Cx} {e : Expr} {t t' : TT} (h : PW X e t) (w : ∀ σ H Q, t' σ H Q → t σ H Q) : PW X e t' := ⟨fun wh pins s σ H Q I q => h.run wh pins s σ H Q I (w σ H Q q)⟩
theorem PA.imp {X : Cx} {e : List Expr} {t t' : TA} (h : PA X e t) (w : ∀ σ H Q, t' σ H Q → t σ H Q) : PA X e t' := ⟨fun pos pins s σ H Q I q => h.run pos pins s σ H Q I (w σ H Q q)⟩
section
variable {T : Tb} {H : Hp} {M : List Addr} {B : Addr → Prop} {st : Store} {env : MEnv} {σ : L2.St}
/-- from a run to the reading, the continuation at hand -/
theorem rd_go {f : EV} (re : RE T H M B env σ) (rs : RSt T H M B st) {P : D → Store → Prop} (h : Wp (f env st) P) {Q : VK}
    (w : ∀ d st1 v H1 M1, f env st = .ok d st1 → P d st1 → Evo H M H1 M1 → RE T H1 M1 B env σ → RSt T H1 M1 B st1 → RD T H1 M1 B M1.length d v → Q v H1) : rdE T f σ H Q := by
  obtain ⟨d, st1, e, p⟩ := h.ok
  refine ⟨B, M, env, st, re, rs, ?_⟩
  rw [e]
  exact fun v H1 M1 ev rs1 r => w d st1 v H1 M1 e p ev (re.evo ev) rs1 r
theorem rd_goT {f : EV} (re : RE T H M B env σ) (rs : RSt T H M B st) {P : D → Store → Prop} (h : Wp (f env st) P) {Q : Bool → Hp → Prop}
    (w : ∀ d st1 H1 M1, f env st = .ok d st1 → P d st1 → Evo H M H1 M1 → RE T H1 M1 B env σ → RSt T H1 M1 B st1 → ∀ k, truth d = some k → Q k H1) (ht : ∀ d st1, P d st1 → ∃ k, truth d = some k) : rdT T f σ H Q := by
  obtain ⟨d, st1, e, p⟩ := h.ok
  refine ⟨B, M, env, st, re, rs, ?_⟩
  rw [e]
  obtain ⟨k, hk⟩ := ht d st1 p
  exact ⟨k, hk, fun H1 M1 ev rs1 => w d st1 H1 M1 e p ev (re.evo ev) rs1 k hk⟩
theorem rd_goA {f : MEnv → Store → R (List D)} (re : RE T H M B env σ) (rs : RSt T H M B st) {P : List D → Store → Prop} (h : Wp (f env st) P) {Q : List V → Hp → Prop}
    (w : ∀ d st1 v H1 M1, f env st = .ok d st1 → P d st1 → Evo H M H1 M1 → RE T H1 M1 B env σ → RSt T H1 M1 B st1 → RDs T H1 M1 B M1.length d v → Q v H1) : rdA T f σ H Q := by
  obtain ⟨d, st1, e, p⟩ := h.ok
  refine ⟨B, M, env, st, re, rs, ?_⟩
  rw [e]
  exact fun v H1 M1 ev rs1 r => w d st1 v H1 M1 e p ev (re.evo ev) rs1 r
theorem Want.evo {H1 : Hp} {M1 : List Addr} {d : D} {Q : VK} {st' : Store} (e : Evo H M H1 M1) (w : Want T B H M st' d Q) : Want T B H1 M1 st' d Q := fun v H' M' e' => w v H' M' (e.trans e')
theorem truth_bl {d : D} {k : Bool} (h : truth d = some k) : d = .bl k := by
  cases d <;> first | (cases h; rfl) | cases h
end

section
variable {T : Tb} {X : Cx} {pos : Pos} {a b c : Expr} {fa fb fc : EV}
/-! ### constants, names -/
theorem s_con {d : D} {c : PySem.Const} {j : Nat} (h : cConst c = some d) : PE X (.Constant c j pos) (rdE T fun _ st => .ok d st) := by
  have wrap : ∀ {v : V} {t : TE}, PE X (.Constant c j pos) t → (∀ σ H Q, Q v H → t σ H Q) → (∀ H M B n, RD T H M B n d v) → PE X (.Constant c j pos) (rdE T fun _ st => .ok d st) := fun h1 h2 h3 =>
    PE.imp h1 fun σ H Q ⟨B, M, env, st, re, rs, w⟩ => h2 σ H Q (Want.here rs w (h3 _ _ _ _))
  cases c with
  | none => cases h; exact wrap pe_non (fun _ _ _ q => q) fun _ _ _ _ => .non
  | bool b => cases h; exact wrap pe_bl (fun _ _ _ q => q) fun _ _ _ _ => .bl b
  | int i => cases h; exact wrap pe_int (fun _ _ _ q => q) fun _ _ _ _ => .int i
  | str s =>
    have h' : (if strOk s.cps.toList = true then some (D.str s.cps.toList) else none) = some d := h
    split at h'
    · rename_i hs
      cases h'
      have e : (⟨s.cps.toList.toArray⟩ : Str) = s := by cases s; simp
      exact wrap pe_str (fun _ _ _ q => q) fun H M B n => by
        have q : RD T H M B n (.str s.cps.toList) (.str ⟨s.cps.toList.toArray⟩) := .str hs
        rw [e] at q
        exact q
    · cases h'
  | _ => cases h
def evVar (i : Nat) : EV := fun env st => match env[i]? with
  | some (some d) => .ok d st
  | _ => .bad
theorem s_var {i : Nat} {x : Str} (hN : X.N[i]? = some x) (hv : Vis X.env.scope x) (hd : (x == ("__debug__" : Str)) = false) (hcd : (x == ("__classdict__" : Str)) = false) : PE X (.Name x pos) (rdE T (evVar i)) := by
  refine PE.imp (pe_var hN hv hd hcd) fun σ H Q ⟨B, M, env, st, re, rs, w⟩ => ?_
  unfold evVar at w
  cases e : env[i]? with
  | none => rw [e] at w; exact w.elim
  | some o =>
    cases o with
    | none => rw [e] at w; exact w.elim
    | some d =>
      rw [e] at w
      obtain ⟨v, e2, r⟩ := re.at_ i d e
      exact ⟨v, e2, Want.here rs w r⟩
theorem s_glob {x : Str} {d : D} {v : V} {u : Value} (hg : Gl X x) (hm : X.mg x = some u) (r : RelV v u) (hd : (x == ("__debug__" : Str)) = false) (rd : ∀ H M B n, RD T H M B n d v) : PE X (.Name x pos) (rdE T fun _ st => .ok d st) :=
  PE.imp (pe_glob hg hm r hd) fun σ H Q ⟨B, M, env, st, re, rs, w⟩ => Want.here rs w (rd _ _ _ _)

/-! ### operators -/
theorem s_bin (hK : X.K = T.K) (op : Bop) (ha : PE X a (rdE T fa)) (hb : PE X b (rdE T fb)) : PE X (.BinOp a (opOf op) b pos) (rdE T fun env st => (fa env st).bind fun x st1 => (fb env st1).bind fun y st2 => ofO ((view st2 x).bind fun x' => (view st2 y).bind fun y' => evBin op x' y') st2) := by
  refine PE.imp (pe_op (op_bin hK op) ha hb) fun σ H Q ⟨B, M, env, st, re, rs, w⟩ => ?_
  refine rd_go re rs w.bind fun d1 st1 v1 H1 M1 _ w1 e1 re1 rs1 r1 => ?_
  refine rd_go re1 rs1 w1.bind fun d2 st2 v2 H2 M2 _ w2 e2 re2 rs2 r2 => ?_
  obtain ⟨d, hd, w3⟩ := w2.ofO
  cases h1 : view st2 d1 with
  | none => rw [h1] at hd; cases hd
  | some x' =>
    rw [h1] at hd
    cases h2 : view st2 d2 with
    | none => rw [h2] at hd; cases hd
    | some y' =>
      rw [h2] at hd
      exact ⟨M2, B, st2, d1, d2, x', y', d, r1.evo e2 e2.len, r2, rs2, h1, h2, hd, w3.evo (e1.trans e2)⟩
/-- list + list, made to be changed -/
def rBinM (T : Tb) : R2 := fun x y H Q => ∃ M B st dx dy xs ys, RD T H M B M.length dx x ∧ RD T H M B M.length dy y ∧ RSt T H M B st ∧ view st dx = some (.lst xs) ∧ view st dy = some (.lst ys) ∧ xs.length + ys.length ≤ SZ ∧ WantL T B H M st (xs ++ ys) Q
theorem op_binM : OpR X (binaryOp .Add) (rBinM T) := by
  intro pins s σ H x y v u Q I rx ry h
  obtain ⟨M, B, st, dx, dy, xs, ys, r1, r2, hs, e1, e2, hl, w⟩ := h
  obtain ⟨p1, vs1, rfl, t1, q1⟩ := view_rel hs r1 e1
  obtain ⟨p2, vs2, rfl, t2, q2⟩ := view_rel hs r2 e2
  exact op_cat pins s σ H _ _ v u Q I rx ry ⟨_, _, _, _, rfl, rfl, t1, t2, by rw [← q1.length, ← q2.length, ← SZ_eq]; exact hl, fun p hp => w _ _ hp (q1.append q2)⟩
theorem alloc_wp {d : D} {st : Store} {P : D → Store → Prop} (h : Wp (alloc true d st) P) : (∃ xs, d = .lst xs ∧ P (.ref st.length) (st ++ [.lst xs])) ∨ ∃ ks, d = .dct ks ∧ P (.ref st.length) (st ++ [.dct ks]) := by
  unfold alloc at h
  rw [if_pos rfl] at h
  cases d with
  | lst xs => exact .inl ⟨xs, rfl, h⟩
  | dct xs => exact .inr ⟨xs, rfl, h⟩
  | _ => exact h.elim
theorem want_allocL {B : Addr → Prop} {M M2 : List Addr} {H H2 : Hp} {st2 : Store} {xs : List D} {Q : VK} {mu : Bool} (e : Evo H M H2 M2) (rs : RSt T H2 M2 B st2) (h : Wp (alloc mu (.lst xs) st2) fun d st' => Want T B H M st' d Q) : WantL T B H2 M2 st2 xs Q := by
  intro p vs hp r
  cases mu with
  | true =>
    rcases alloc_wp h with ⟨ys, e1, w⟩ | ⟨ys, e1, _⟩
    · cases e1
      exact Want.newM rs (fun v H' M' e' => w v H' M' (e.trans e')) r hp
    · cases e1
  | false =>
    have w : Want T B H M st2 (.lst xs) Q := h
    exact Want.newL rs (w.evo e) r hp
theorem evBin_lst {op : Bop} {x y : D} {zs : List D} (h : evBin op x y = some (.lst zs)) : op = .add ∧ ∃ xs ys, x = .lst xs ∧ y = .lst ys ∧ zs = xs ++ ys ∧ xs.length + ys.length ≤ SZ := by
  unfold evBin at h
  split at h <;> first
    | (cases h; done)
    | (split at h <;> first | (cases h; done) | (cases h; exact ⟨rfl, _, _, rfl, rfl, rfl, by assumption⟩))
theorem evBin_dct {op : Bop} {x y : D} {zs : List (D × D)} (h : evBin op x y = some (.dct zs)) : False := by
  unfold evBin at h
  split at h <;> first
    | (cases h; done)
    | (split at h <;> (cases h; done))
theorem s_binM (op : Bop) (ha : PE X a (rdE T fa)) (hb : PE X b (rdE T fb)) : PE X (.BinOp a (opOf op) b pos) (rdE T fun env st => ((fa env st).bind fun x st1 => (fb env st1).bind fun y st2 => ofO ((view st2 x).bind fun x' => (view st2 y).bind fun y' => evBin op x' y') st2).bind fun x st1 => alloc true x st1) := by
  by_cases ho : op = .add
  · subst ho
    refine PE.imp (pe_op (op_binM (T := T)) ha hb) fun σ H Q ⟨B, M, env, st, re, rs, w⟩ => ?_
    refine rd_go re rs w.bind.bind fun d1 st1 v1 H1 M1 _ w1 e1 re1 rs1 r1 => ?_
    refine rd_go re1 rs1 w1.bind fun d2 st2 v2 H2 M2 _ w2 e2 re2 rs2 r2 => ?_
    obtain ⟨d, hd, w3⟩ := w2.ofO
    cases h1 : view st2 d1 with
    | none => rw [h1] at hd; cases hd
    | some x' =>
      rw [h1] at hd
      cases h2 : view st2 d2 with
      | none => rw [h2] at hd; cases hd
      | some y' =>
        rw [h2] at hd
        have hd' : evBin .add x' y' = some d := hd
        rcases alloc_wp w3 with ⟨zs, rfl, w4⟩ | ⟨zs, rfl, _⟩
        · obtain ⟨_, xs, ys, rfl, rfl, rfl, hl⟩ := evBin_lst hd'
          exact ⟨M2, B, st2, d1, d2, xs, ys, r1.evo e2 e2.len, r2, rs2, h1, h2, hl, want_allocL (mu := true) (e1.trans e2) rs2 w3⟩
        · exact (evBin_dct hd').elim
  · -- no other operator makes a list
    refine PE.imp (pe_op (r := fun _ _ _ _ => False) (fun _ _ _ _ _ _ _ _ _ _ _ _ h => h.elim) ha hb) fun σ H Q ⟨B, M, env, st, re, rs, w⟩ => ?_
    refine rd_go re rs w.bind.bind fun d1 st1 v1 H1 M1 _ w1 e1 re1 rs1 r1 => ?_
    refine rd_go re1 rs1 w1.bind fun d2 st2 v2 H2 M2 _ w2 e2 re2 rs2 r2 => ?_
    obtain ⟨d, hd, w3⟩ := w2.ofO
    cases h1 : view st2 d1 with
    | none => rw [h1] at hd; cases hd
    | some x' =>
      rw [h1] at hd
      cases h2 : view st2 d2 with
      | none => rw [h2] at hd; cases hd
      | some y' =>
        rw [h2] at hd
        have hd' : evBin op x' y' = some d := hd
        rcases alloc_wp w3 with ⟨zs, rfl, w4⟩ | ⟨zs, rfl, _⟩
        · exact ho (evBin_lst hd').1
        · exact (evBin_dct hd').elim
theorem s_neg (ha : PE X a (rdE T fa)) : PE X (.UnaryOp .USub a pos) (rdE T fun env st => (fa env st).bind fun x st1 => match x with | .int i => .ok (.int (-i)) st1 | _ => .bad) := by
  refine PE.imp (pe_un un_neg ha) fun σ H Q ⟨B, M, env, st, re, rs, w⟩ => ?_
  refine rd_go re rs w.bind fun d1 st1 v1 H1 M1 hq w1 e1 re1 rs1 r1 => ?_
  clear hq
  cases d1 <;> first | exact w1.elim | skip
  rename_i i
  exact ⟨i, r1.int_inv, Want.here rs1 (Want.evo e1 w1) (.int _)⟩
theorem s_not (ha : PE X a (rdE T fa)) : PE X (.UnaryOp .Not a pos) (rdE T fun env st => (fa env st).bind fun x st1 => ofO ((truth x).map fun b => .bl (!b)) st1) := by
  refine PE.imp (pe_not ha) fun σ H Q ⟨B, M, env, st, re, rs, w⟩ => ?_
  refine rd_go re rs w.bind fun d1 st1 v1 H1 M1 _ w1 e1 re1 rs1 r1 => ?_
  obtain ⟨d, hd, w2⟩ := w1.ofO
  cases ht : truth d1 with
  | none => rw [ht] at hd; cases hd
  | some k =>
    rw [ht] at hd
    cases hd
    rw [truth_bl ht] at r1
    exact ⟨k, r1.bl_inv, Want.here rs1 (Want.evo e1 w2) (.bl _)⟩
theorem s_notT (ha : PT X a (rdT T fa)) : PT X (.UnaryOp .Not a pos) (rdT T fun env st => (fa env st).bind fun x st1 => ofO ((truth x).map fun b => .bl (!b)) st1) := by
  refine PT.imp (pt_not ha) fun σ H Q ⟨B, M, env, st, re, rs, w⟩ => ?_
  refine rd_goT re rs w.bind (fun d1 st1 H1 M1 _ w1 e1 re1 rs1 k hk => ?_) fun d1 st1 w1 => ?_
  · obtain ⟨d, hd, k', hk', w2⟩ := w1.ofO
    rw [hk] at hd
    cases hd
    cases hk'
    exact w2 H1 M1 e1 rs1
  · obtain ⟨d, hd, _⟩ := w1.ofO
    cases ht : truth d1 with
    | none => rw [ht] at hd; cases hd
    | some k => exact ⟨k, rfl⟩
def evAnd (fa fb : EV) : EV := fun env st => (fa env st).bind fun x st1 => match truth x with
  | some true => fb env st1
  | some false => .ok x st1
  | none => .bad
def evOr (fa fb : EV) : EV := fun env st => (fa env st).bind fun x st1 => match truth x with
  | some true => .ok x st1
  | some false => fb env st1
  | none => .bad
variable {rest : List Expr}
theorem s_and (ha : PE X a (rdE T fa)) (hb : PE X (.BoolOp .And (b :: rest) pos) (rdE T fb)) : PE X (.BoolOp .And (a :: b :: rest) pos) (rdE T (evAnd fa fb)) := by
  refine PE.imp (pe_and ha hb) fun σ H Q ⟨B, M, env, st, re, rs, w⟩ => ?_
  refine rd_go re rs (Wp.bind w) fun d1 st1 v1 H1 M1 _ w1 e1 re1 rs1 r1 => ?_
  cases ht : truth d1 with
  | none => rw [ht] at w1; exact w1.elim
  | some k =>
    rw [ht] at w1
    rw [truth_bl ht] at r1
    refine ⟨k, r1.bl_inv, ?_⟩
    cases k with
    | true => exact ⟨B, M1, env, st1, re1, rs1, w1.mono fun d st' w => Want.evo e1 w⟩
    | false =>
      have w1' : Want T B H M st1 d1 Q := w1
      rw [truth_bl ht] at w1'
      exact Want.here rs1 (w1'.evo e1) (.bl _)
theorem s_or (ha : PE X a (rdE T fa)) (hb : PE X (.BoolOp .Or (b :: rest) pos) (rdE T fb)) : PE X (.BoolOp .Or (a :: b :: rest) pos) (rdE T (evOr fa fb)) := by
  refine PE.imp (pe_or ha hb) fun σ H Q ⟨B, M, env, st, re, rs, w⟩ => ?_
  refine rd_go re rs (Wp.bind w) fun d1 st1 v1 H1 M1 _ w1 e1 re1 rs1 r1 => ?_
  cases ht : truth d1 with
  | none => rw [ht] at w1; exact w1.elim
  | some k =>
    rw [ht] at w1
    rw [truth_bl ht] at r1
    refine ⟨k, r1.bl_inv, ?_⟩
    cases k with
    | false => exact ⟨B, M1, env, st1, re1, rs1, w1.mono fun d st' w => Want.evo e1 w⟩
    | true =>
      have w1' : Want T B H M st1 d1 Q := w1
      rw [truth_bl ht] at w1'
      exact Want.here rs1 (w1'.evo e1) (.bl _)
/-- a test's end, from the value's -/
theorem s_andT (ha : PT X a (rdT T fa)) (hb : PW X (.BoolOp .And (b :: rest) pos) (rdT T fb)) : PW X (.BoolOp .And (a :: b :: rest) pos) (rdT T (evAnd fa fb)) := by
  refine PW.imp (pw_and ha hb) fun σ H Q ⟨B, M, env, st, re, rs, w⟩ => ?_
  refine rd_goT re rs (Wp.bind w) (fun d1 st1 H1 M1 _ w1 e1 re1 rs1 k hk => ?_) fun d1 st1 w1 => ?_
  · rw [hk] at w1
    cases k with
    | true => exact ⟨B, M1, env, st1, re1, rs1, w1.mono fun d st' ⟨k, hk, w⟩ => ⟨k, hk, fun H' M' e => w H' M' (e1.trans e)⟩⟩
    | false =>
      obtain ⟨k, hk', w2⟩ := w1
      rw [hk] at hk'
      cases hk'
      exact w2 H1 M1 e1 rs1
  · cases ht : truth d1 with
    | none => rw [ht] at w1; exact w1.elim
    | some k => exact ⟨k, rfl⟩
theorem s_orT (ha : PT X a (rdT T fa)) (hb : PW X (.BoolOp .Or (b :: rest) pos) (rdT T fb)) : PW X (.BoolOp .Or (a :: b :: rest) pos) (rdT T (evOr fa fb)) := by
  refine PW.imp (pw_or ha hb) fun σ H Q ⟨B, M, env, st, re, rs, w⟩ => ?_
  refine rd_goT re rs (Wp.bind w) (fun d1 st1 H1 M1 _ w1 e1 re1 rs1 k hk => ?_) fun d1 st1 w1 => ?_
  · rw [hk] at w1
    cases k with
    | false => exact ⟨B, M1, env, st1, re1, rs1, w1.mono fun d st' ⟨k, hk, w⟩ => ⟨k, hk, fun H' M' e => w H' M' (e1.trans e)⟩⟩
    | true =>
      obtain ⟨k, hk', w2⟩ := w1
      rw [hk] at hk'
      cases hk'
      exact w2 H1 M1 e1 rs1
  · cases ht : truth d1 with
    | none => rw [ht] at w1; exact w1.elim
    | some k => exact ⟨k, rfl⟩
/-- a value's reading as a test's, where the test is the value's truth -/
theorem s_val {e : Expr} (h : PE X e (rdE T fa)) (he : ∀ whole, isTrue e X.env whole = (do let v ← whole; standAt e.pos; holding [v] (truthy v))) : PT X e (rdT T fa) := by
  refine PT.imp (pt_val h he) fun σ H Q ⟨B, M, env, st, re, rs, w⟩ => ?_
  refine rd_go re rs w fun d1 st1 v1 H1 M1 _ w1 e1 re1 rs1 r1 => ?_
  obtain ⟨k, hk, w2⟩ := w1
  rw [truth_bl hk] at r1
  exact ⟨k, r1.bl_inv, w2 H1 M1 e1 rs1⟩
def evIte (fc fa fb : EV) : EV := fun env st => (fc env st).bind fun x st1 => match truth x with
  | some true => fa env st1
  | some false => fb env st1
  | none => .bad
theorem s_ite (hc : PT X c (rdT T fc)) (ha : PE X a (rdE T fa)) (hb : PE X b (rdE T fb)) : PE X (.IfExp c a b pos) (rdE T (evIte fc fa fb)) := by
  refine PE.imp (pe_ifExp hc ha hb) fun σ H Q ⟨B, M, env, st, re, rs, w⟩ => ?_
  refine rd_goT re rs (Wp.bind w) (fun d1 st1 H1 M1 _ w1 e1 re1 rs1 k hk => ?_) fun d1 st1 w1 => ?_
  · rw [hk] at w1
    cases k with
    | true => exact ⟨B, M1, env, st1, re1, rs1, w1.mono fun d st' w => Want.evo e1 w⟩
    | false => exact ⟨B, M1, env, st1, re1, rs1, w1.mono fun d st' w => Want.evo e1 w⟩
  · cases ht : truth d1 with
    | none => rw [ht] at w1; exact w1.elim
    | some k => exact ⟨k, rfl⟩
def evCm (op : Cop) (fa fb : EV) : EV := fun env st => (fa env st).bind fun x st1 => (fb env st1).bind fun y st2 => ofO ((view st2 x).bind fun x' => (view st2 y).bind fun y' => (evCmp op x' y').map .bl) st2
theorem cm_rd {op : Cop} {σ : L2.St} {H : Hp} {Q : VK} (h : rdE T (evCm op fa fb) σ H Q) : tOp (rCmp T op) (rdE T fa) (rdE T fb) σ H Q := by
  obtain ⟨B, M, env, st, re, rs, w⟩ := h
  refine rd_go re rs (Wp.bind w) fun d1 st1 v1 H1 M1 _ w1 e1 re1 rs1 r1 => ?_
  refine rd_go re1 rs1 w1.bind fun d2 st2 v2 H2 M2 _ w2 e2 re2 rs2 r2 => ?_
  obtain ⟨d, hd, w3⟩ := w2.ofO
  cases h1 : view st2 d1 with
  | none => rw [h1] at hd; cases hd
  | some x' =>
    rw [h1] at hd
    cases h2 : view st2 d2 with
    | none => rw [h2] at hd; cases hd
    | some y' =>
      rw [h2] at hd
      cases h3 : evCmp op x' y' with
      | none => simp [h3] at hd
      | some k =>
        simp [h3] at hd
        subst hd
        exact ⟨M2, B, st2, d1, d2, x', y', k, r1.evo e2 e2.len, r2, rs2, h1, h2, h3, Want.here rs2 (Want.evo (e1.trans e2) w3) (.bl _)⟩
theorem s_cmp (hK : X.K = T.K) (hu : X.A.units + 66 < cLine) (op : Cop) (ha : PE X a (rdE T fa)) (hb : PE X b (rdE T fb)) (hm : behindInMarks (cOf op) b = false) : PE X (.Compare a [cOf op] [b] pos) (rdE T (evCm op fa fb)) :=
  PE.imp (pe_cmpR (op_cmp hK hu op) ha hb hm) fun σ H Q h => cm_rd h
theorem s_cmpT (hK : X.K = T.K) (hu : X.A.units + 66 < cLine) (op : Cop) (ha : PE X a (rdE T fa)) (hb : PE X b (rdE T fb)) (hm : behindInMarks (cOf op) b = false) : PT X (.Compare a [cOf op] [b] pos) (rdT T (evCm op fa fb)) := by
  refine PT.imp (pt_cmpR (op_cmp hK hu op) ha hb hm) fun σ H Q ⟨B, M, env, st, re, rs, w⟩ => ?_
  refine cm_rd ⟨B, M, env, st, re, rs, w.mono fun d st' ⟨k, hk, w2⟩ v H' M' e rs' r => ?_⟩
  rw [truth_bl hk] at r
  exact ⟨k, r.bl_inv, w2 H' M' e rs'⟩
end
end MP

set_option Elab.async false
set_option linter.all false
set_option maxRecDepth 100000
set_option maxHeartbeats 1000000
/-! MP: displays, arguments, subscripts, calls -/
namespace MP
open PySem PySem.Spec PyProof.Rows L2 TL
section
variable {T : Tb} {X : Cx} {pos : Pos} {a b c e : Expr} {es : List Expr} {fa fb fc : EV}
abbrev EVs := MEnv → Store → R (List D)
/-- not a starred item -/
def noStar : Expr → Bool
  | .Starred _ _ => false
  | _ => true
theorem star_cons (h : noStar e = true) (env : Env) : starEach (e :: es) env = (false, eval e env) :: starEach es env := by
  cases e <;> first | rfl | (cases h; done)
theorem star_any {env : Env} : ∀ {es : List Expr}, es.all noStar = true → (backTo pos (starEach es env)).any (·.1) = false
  | [], _ => rfl
  | e :: es, h => by
    rw [List.all_cons, Bool.and_eq_true] at h
    rw [star_cons h.1]
    show (false || (backTo pos (starEach es env)).any (·.1)) = false
    rw [star_any h.2]; rfl
def evNil : EVs := fun _ st => .ok [] st
def evCons (fa : EV) (fs : EVs) : EVs := fun env st => (fa env st).bind fun d st1 => (fs env st1).bind fun ds st2 => .ok (d :: ds) st2
theorem s_nil : PA X [] (rdA T evNil) := PA.imp pa_nil fun σ H Q ⟨B, M, env, st, re, rs, w⟩ => w [] H M Evo.refl rs .nil
theorem s_cons {fs : EVs} (ha : PE X e (rdE T fa)) (hr : PA X es (rdA T fs)) (hs : noStar e = true) : PA X (e :: es) (rdA T (evCons fa fs)) := by
  refine PA.imp (pa_cons ha hr (star_cons hs _)) fun σ H Q ⟨B, M, env, st, re, rs, w⟩ => ?_
  refine rd_go re rs (Wp.bind w) fun d1 st1 v1 H1 M1 _ w1 e1 re1 rs1 r1 => ?_
  refine rd_goA re1 rs1 w1.bind fun ds st2 vs H2 M2 _ w2 e2 re2 rs2 r2 => ?_
  exact w2 (v1 :: vs) H2 M2 (e1.trans e2) rs2 (.cons (r1.evo e2 e2.len) r2)
/-! ### displays -/
def evTup (fs : EVs) : EV := fun env st => (fs env st).bind fun ds st1 => .ok (.tup ds) st1
def evLst (mu : Bool) (fs : EVs) : EV := fun env st => (fs env st).bind fun ds st1 => alloc mu (.lst ds) st1
theorem s_tup {fs : EVs} {x1 : Nat} (h : PA X es (rdA T fs)) (hl : ∀ env st ds st', fs env st = .ok ds st' → ds.length ≤ SZ) : PE X (.Tuple es x1 pos) (rdE T (evTup fs)) := by
  refine PE.imp (pe_tup h) fun σ H Q ⟨B, M, env, st, re, rs, w⟩ => ?_
  refine rd_goA re rs (Wp.bind w) fun ds st1 vs H1 M1 eq w1 e1 re1 rs1 r1 => ⟨?_, fun p hp => ?_⟩
  · rw [← r1.length, ← SZ_eq]; exact hl _ _ _ _ eq
  · exact Want.newT rs1 (Want.evo e1 w1) r1 hp
theorem s_lst {fs : EVs} {mu : Bool} (h : PA X es (rdA T fs)) (hl : ∀ env st ds st', fs env st = .ok ds st' → ds.length ≤ SZ) : PE X (.List es pos) (rdE T (evLst mu fs)) := by
  refine PE.imp (pe_lst h) fun σ H Q ⟨B, M, env, st, re, rs, w⟩ => ?_
  refine rd_goA re rs (Wp.bind w) fun ds st1 vs H1 M1 eq w1 e1 re1 rs1 r1 => ⟨?_, fun p hp => ?_⟩
  · rw [← r1.length, ← SZ_eq]; exact hl _ _ _ _ eq
  · exact want_allocL e1 rs1 w1 p vs hp r1
/-! ### subscripts, slices -/
theorem plainIx (h : ∀ lo hi p, b ≠ .Slice lo hi none p) : PlainIx b := fun o i => by
  cases b <;> first
    | rfl
    | (rename_i lo hi st p; cases st <;> first | exact absurd rfl (h _ _ _) | rfl)
def evIxx (fa fb : EV) : EV := fun env st => (fa env st).bind fun x st1 => (fb env st1).bind fun y st2 => ofO ((view st2 x).bind fun x' => evIx x' y) st2
theorem s_ix (hK : X.K = T.K) (ha : PE X a (rdE T fa)) (hb : PE X b (rdE T fb)) (h : ∀ lo hi p, b ≠ .Slice lo hi none p) : PE X (.Subscript a b pos) (rdE T (evIxx fa fb)) := by
  refine PE.imp (pe_ix (ix_any hK) ha hb (plainIx h)) fun σ H Q ⟨B, M, env, st, re, rs, w⟩ => ?_
  refine rd_go re rs (Wp.bind w) fun d1 st1 v1 H1 M1 _ w1 e1 re1 rs1 r1 => ?_
  refine rd_go re1 rs1 w1.bind fun d2 st2 v2 H2 M2 _ w2 e2 re2 rs2 r2 => ?_
  obtain ⟨d, hd, w3⟩ := w2.ofO
  cases h1 : view st2 d1 with
  | none => rw [h1] at hd; cases hd
  | some x' =>
    rw [h1] at hd
    exact ⟨M2, B, st2, d1, d2, x', d, r1.evo e2 e2.len, r2, rs2, h1, hd, Want.evo (e1.trans e2) w3⟩
abbrev EVo := MEnv → Store → R (Option Int)
def rdO (T : Tb) (f : EVo) : TO := fun σ H Q => ∃ B M env st, RE T H M B env σ ∧ RSt T H M B st ∧ Wp (f env st) fun o st' => ∀ H' M', Evo H M H' M' → RSt T H' M' B st' → Q o H'
def evPart (fa : EV) : EVo := fun env st => (fa env st).bind fun d st1 => ofO ((intO d).map some) st1
theorem PO.imp {oe : Option Expr} {t t' : TO} (h : PO X oe t) (w : ∀ σ H Q, t' σ H Q → t σ H Q) : PO X oe t' := ⟨fun pins s σ H Q I q => h.run pins s σ H Q I (w σ H Q q)⟩
theorem s_partN : PO X none (rdO T fun _ st => .ok none st) := PO.imp po_none fun σ H Q ⟨B, M, env, st, re, rs, w⟩ => w H M Evo.refl rs
theorem s_part (ha : PE X a (rdE T fa)) : PO X (some a) (rdO T (evPart fa)) := by
  refine PO.imp (po_some ha) fun σ H Q ⟨B, M, env, st, re, rs, w⟩ => ?_
  refine rd_go re rs (Wp.bind w) fun d1 st1 v1 H1 M1 hq w1 e1 re1 rs1 r1 => ?_
  clear hq
  obtain ⟨o, ho, w2⟩ := w1.ofO
  cases d1 with
  | int i =>
    cases ho
    exact ⟨i, r1.int_inv, w2 H1 M1 e1 rs1⟩
  | _ => cases ho
theorem rd_goO {f : EVo} {B : Addr → Prop} {M : List Addr} {env : MEnv} {st : Store} {σ : L2.St} {H : Hp} (re : RE T H M B env σ) (rs : RSt T H M B st) {P : Option Int → Store → Prop} (h : Wp (f env st) P) {Q : Option Int → Hp → Prop}
    (w : ∀ d st1 H1 M1, f env st = .ok d st1 → P d st1 → Evo H M H1 M1 → RE T H1 M1 B env σ → RSt T H1 M1 B st1 → Q d H1) : rdO T f σ H Q := by
  obtain ⟨d, st1, e, p⟩ := h.ok
  refine ⟨B, M, env, st, re, rs, ?_⟩
  rw [e]
  exact fun H1 M1 ev rs1 => w d st1 H1 M1 e p ev (re.evo ev) rs1
def evSlc (fa : EV) (fl fh : EVo) : EV := fun env st => (fa env st).bind fun x st1 => (fl env st1).bind fun l st2 => (fh env st2).bind fun h st3 => ofO ((view st3 x).bind fun x' => evSl x' l h) st3
theorem s_slice {lo hi : Option Expr} {fl fh : EVo} {p2 : Pos} (hK : X.K = T.K) (ha : PE X a (rdE T fa)) (hl : PO X lo (rdO T fl)) (hh : PO X hi (rdO T fh)) : PE X (.Subscript a (.Slice lo hi none p2) pos) (rdE T (evSlc fa fl fh)) := by
  refine PE.imp (pe_slice (sl_any hK) ha hl hh) fun σ H Q ⟨B, M, env, st, re, rs, w⟩ => ?_
  refine rd_go re rs (Wp.bind w) fun d1 st1 v1 H1 M1 _ w1 e1 re1 rs1 r1 => ?_
  refine rd_goO re1 rs1 w1.bind fun l st2 H2 M2 _ w2 e2 re2 rs2 => ?_
  refine rd_goO re2 rs2 w2.bind fun h st3 H3 M3 _ w3 e3 re3 rs3 => ?_
  obtain ⟨d, hd, w4⟩ := w3.ofO
  cases h1 : view st3 d1 with
  | none => rw [h1] at hd; cases hd
  | some x' =>
    rw [h1] at hd
    have e13 := e2.trans e3
    exact ⟨M3, B, st3, d1, x', d, r1.evo e13 e13.len, rs3, h1, hd, Want.evo (e1.trans e13) w4⟩
/-! ### calls of built-ins -/
def evBl (f : Bf) (fs : EVs) : EV := fun env st => (fs env st).bind fun ds st1 => ofO ((views st1 ds).bind fun xs => evB f xs) st1
theorem bl_rd {f : Bf} {fs : EVs} {σ : L2.St} {H : Hp} {Q : VK} (h : rdE T (evBl f fs) σ H Q) : tCB (rBf T f) (rdA T fs) σ H Q := by
  obtain ⟨B, M, env, st, re, rs, w⟩ := h
  refine rd_goA re rs (Wp.bind w) fun ds st1 vs H1 M1 _ w1 e1 re1 rs1 r1 => ?_
  obtain ⟨d, hd, w2⟩ := w1.ofO
  cases h1 : views st1 ds with
  | none => rw [h1] at hd; cases hd
  | some xs =>
    rw [h1] at hd
    exact ⟨M1, B, st1, ds, xs, d, r1, rs1, h1, hd, Want.evo e1 w2⟩
theorem s_blt {f : Bf} {fs : EVs} {x : Str} {id : String} {p : Pos} (hc : CallR X (.builtin id) (rBf T f)) (hg : Gl X x) (hm : X.mg x = none) (hv : bootBuiltins x = some (.builtin id)) (ha : PA X (e :: es) (rdA T fs)) (hn : x ≠ "__name__") (hdb : (x == ("__debug__" : Str)) = false) (hs : noStar e = true) (hss : es.all noStar = true) :
    PE X (.Call (.Name x p) (e :: es) [] pos) (rdE T (evBl f fs)) := PE.imp (pe_callB hc hg hm hv ha hn hdb (star_cons hs _) (star_any hss)) fun _ _ _ h => bl_rd h
theorem s_bltT {f : Bf} {fs : EVs} {x : Str} {id : String} {p : Pos} (hc : CallR X (.type id) (rBf T f)) (hg : Gl X x) (hm : X.mg x = none) (hv : bootBuiltins x = some (.type id)) (ha : PA X (e :: es) (rdA T fs)) (hn : x ≠ "__name__") (hdb : (x == ("__debug__" : Str)) = false) (hs : noStar e = true) (hss : es.all noStar = true) :
    PE X (.Call (.Name x p) (e :: es) [] pos) (rdE T (evBl f fs)) := PE.imp (pe_callTy hc hg hm hv ha hn hdb (star_cons hs _) (star_any hss)) fun _ _ _ h => bl_rd h
theorem bList_lst {xs : List D} {d : D} (h : bList xs = some d) : ∃ ys, d = .lst ys := by
  unfold bList at h
  split at h <;> first | (cases h; exact ⟨_, rfl⟩) | cases h
/-- list(x), as a value or to be changed -/
def evList (mu : Bool) (fs : EVs) : EV := if mu then fun env st => (evBl .list fs env st).bind fun x st1 => alloc true x st1 else evBl .list fs
theorem s_list {mu : Bool} {fs : EVs} {p : Pos} (hK : X.K = T.K) (hcm : X.calm = true) (hg : Gl X "list") (hm : X.mg "list" = none) (ha : PA X [e] (rdA T fs)) (hs : noStar e = true) :
    PE X (.Call (.Name "list" p) [e] [] pos) (rdE T (evList mu fs)) := by
  refine PE.imp (pe_callTy (T := "list") (cb_list hK hcm) hg hm (by decide +kernel) ha (by decide) (by decide) (star_cons hs _) rfl) fun σ H Q ⟨B, M, env, st, re, rs, w⟩ => ?_
  have w' : Wp (fs env st) fun ds st1 => ∃ xs ys, views st1 ds = some xs ∧ bList xs = some (.lst ys) ∧ Wp (alloc mu (.lst ys) st1) fun d st' => Want T B H M st' d Q := by
    unfold evList at w
    cases mu with
    | true =>
      rw [if_pos rfl] at w
      refine w.bind.bind.mono fun ds st1 w1 => ?_
      obtain ⟨d, hd, w2⟩ := w1.ofO
      cases h1 : views st1 ds with
      | none => rw [h1] at hd; cases hd
      | some xs =>
        rw [h1] at hd
        obtain ⟨ys, rfl⟩ := bList_lst (show bList xs = some d from hd)
        exact ⟨xs, ys, rfl, hd, w2⟩
    | false =>
      rw [if_neg Bool.false_ne_true] at w
      refine (Wp.bind w).mono fun ds st1 w1 => ?_
      obtain ⟨d, hd, w2⟩ := w1.ofO
      cases h1 : views st1 ds with
      | none => rw [h1] at hd; cases hd
      | some xs =>
        rw [h1] at hd
        obtain ⟨ys, rfl⟩ := bList_lst (show bList xs = some d from hd)
        exact ⟨xs, ys, rfl, hd, w2⟩
  refine rd_goA re rs w' fun ds st1 vs H1 M1 _ w1 e1 re1 rs1 r1 => ?_
  obtain ⟨xs, ys, h1, h2, w2⟩ := w1
  exact ⟨M1, B, st1, ds, xs, ys, r1, rs1, h1, h2, want_allocL e1 rs1 w2⟩
/-! ### isinstance -/
theorem bIs_some {f : D → Bool} {xs : List D} {d : D} (h : bIs f xs = some d) : ∃ x, xs = [x] ∧ kindOk x = true ∧ d = .bl (f x) := by
  unfold bIs at h
  split at h
  · split at h
    · cases h; exact ⟨_, rfl, by assumption, rfl⟩
    · cases h
  · cases h
theorem s_isi {f : D → Bool} {bf : Bf} {t : Str} {tn : String} {p p2 : Pos} (hK : X.K = T.K) (hbf : ∀ xs, evB bf xs = bIs f xs) (hf : ∀ d, kindOk d = true → kitB (kindN d) tn = some (f d)) (hg : Gl X "isinstance") (hm : X.mg "isinstance" = none) (hgt : Gl X t) (hmt : X.mg t = none) (hvt : bootBuiltins t = some (.type tn))
    (hnt : t ≠ "__name__") (hdt : (t == ("__debug__" : Str)) = false) (ha : PE X e (rdE T fa)) (hs : noStar e = true) : PE X (.Call (.Name "isinstance" p) [e, .Name t p2] [] pos) (rdE T (evBl bf (evCons fa evNil))) := by
  refine PE.imp (pe_callB (cb_is hK hf) hg hm (by decide +kernel) (pa_cons ha (pa_cons (pe_bltn (v := .ty tn) hgt hmt hvt rfl hnt hdt) pa_nil) (star_cons hs _)) (by decide) (by decide) (star_cons hs _) rfl) fun σ H Q ⟨B, M, env, st, re, rs, w⟩ => ?_
  have w0 : Wp (fa env st) fun d st1 => ∃ x, view st1 d = some x ∧ kindOk x = true ∧ Want T B H M st1 (.bl (f x)) Q := by
    refine (Wp.bind (Wp.bind w)).mono fun d st1 w1 => ?_
    obtain ⟨d', hd, w2⟩ := Wp.ofO (show Wp (ofO ((views st1 [d]).bind fun xs => evB bf xs) st1) _ from w1)
    cases h1 : view st1 d with
    | none => simp [views, h1] at hd
    | some x =>
      simp [views, h1, hbf] at hd
      obtain ⟨x', e1, k, rfl⟩ := bIs_some hd
      cases e1
      exact ⟨x, rfl, k, w2⟩
  refine rd_go re rs w0 fun d1 st1 v1 H1 M1 _ w1 e1 re1 rs1 r1 => ?_
  obtain ⟨x, h1, k, w2⟩ := w1
  exact ⟨M1, B, st1, d1, x, v1, rfl, r1, rs1, h1, k, Want.here rs1 (Want.evo e1 w2) (.bl _)⟩
/-! ### methods of texts -/
theorem few_ok {env : Env} (h1 : noStar e = true) : ((backTo pos (starEach [e] env)).all (fun x => !x.1) && (backToKw pos (keywordEach [] env)).all (fun x => x.1.isSome)
      && decide ([e].length + ([] : List Keyword).length + (if ([] : List Keyword).isEmpty then 0 else 1) < 30)) = true := by
  rw [star_cons h1]
  rfl
/-- the receiver of a method that is no call without arguments -/
def noCall0 : Expr → Bool
  | .Call _ [] [] _ => false
  | _ => true
theorem base_ok {o : Expr} {nm : Str} {env : Env} {w : Sem Value} (h : noCall0 o = true) : attributeBase o nm env w = w := by
  cases o <;> first | rfl | skip
  rename_i f as kws p
  cases as with
  | cons a r => cases f <;> rfl
  | nil =>
    cases kws with
    | cons a r => cases f <;> rfl
    | nil => cases h
def evMt (f : Bf) (fa fb : EV) : EV := evBl f (evCons fa (evCons fb evNil))
theorem s_mt1 {f : Bf} {nm : Str} {apos : Pos} {id : String} (slot : Slot "str" nm id) (hty : typeOf (.builtin id) = pure (.type "method_descriptor")) (hmt : MtR X id (rMt T f)) (hstr : ∀ x y d, evB f [x, y] = some d → ∃ z, x = .str z)
    (ha : PE X a (rdE T fa)) (hb : PE X b (rdE T fb)) (h0 : noCall0 a = true) (h1 : noStar b = true) (hl : (apos.endLine == pos.line) = true) : PE X (.Call (.Attribute a nm apos) [b] [] pos) (rdE T (evMt f fa fb)) := by
  refine PE.imp (pe_bm PySem.F.plainAttrs_str slot hty hmt ha (s_cons (T := T) hb s_nil h1) (base_ok h0) (few_ok h1) hl (star_cons h1 _) rfl) fun σ H Q ⟨B, M, env, st, re, rs, w⟩ => ?_
  refine rd_go re rs (Wp.bind (Wp.bind w)) fun d1 st1 v1 H1 M1 hq1 w1 e1 re1 rs1 r1 => ?_
  -- the receiver's kind is seen at the end of the run
  have w1' : Wp (evCons fb evNil env st1) fun ds st2 => Wp (ofO ((views st2 (d1 :: ds)).bind fun xs => evB f xs) st2) fun d st' => Want T B H M st' d Q := by
    refine (Wp.bind w1).mono fun ds st2 w2 => w2
  have hk : ∃ z, d1 = .str z := by
    obtain ⟨ds, st2, q2, w2⟩ := w1'.ok
    obtain ⟨d, hd, _⟩ := w2.ofO
    cases h1 : view st2 d1 with
    | none => simp [views, h1] at hd
    | some x =>
      obtain ⟨d2, st3, q3, _⟩ : ∃ d2 st3, fb env st1 = .ok d2 st3 ∧ ds = [d2] := by
        unfold evCons evNil at q2
        cases q3 : fb env st1 with
        | ok d2 st3 => rw [q3] at q2; cases q2; exact ⟨d2, _, rfl, rfl⟩
        | exc c p s => rw [q3] at q2; cases q2
        | bad => rw [q3] at q2; cases q2
      rename_i eds
      subst eds
      cases h2 : view st2 d2 with
      | none => simp [views, h1, h2] at hd
      | some y =>
        simp [views, h1, h2] at hd
        obtain ⟨z, rfl⟩ := hstr _ _ _ hd
        refine ⟨z, ?_⟩
        unfold view at h1
        split at h1
        · rename_i l
          cases h3 : st2[l]? with
          | none => rw [h3] at h1; cases h1
          | some o => rw [h3] at h1; cases o <;> cases h1
        · cases h1; rfl
  obtain ⟨z, rfl⟩ := hk
  obtain ⟨rfl, k1⟩ := r1.str_inv
  refine ⟨rfl, ?_⟩
  refine rd_goA re1 rs1 w1' fun ds st2 vs H2 M2 _ w2 e2 re2 rs2 r2 => ?_
  obtain ⟨d, hd, w3⟩ := w2.ofO
  cases h1 : views st2 (.str z :: ds) with
  | none => rw [h1] at hd; cases hd
  | some xs =>
    rw [h1] at hd
    exact ⟨M2, B, st2, .str z :: ds, xs, d, .cons (.str k1) r2, rs2, h1, hd, Want.evo (e1.trans e2) w3⟩
theorem s_mt0 {f : Bf} {nm : Str} {apos : Pos} {id : String} (slot : Slot "str" nm id) (hty : typeOf (.builtin id) = pure (.type "method_descriptor")) (hmt : MtR X id (rMt T f)) (hstr : ∀ x d, evB f [x] = some d → ∃ z, x = .str z)
    (ha : PE X a (rdE T fa)) (h0 : noCall0 a = true) (hl : (apos.endLine == pos.line) = true) : PE X (.Call (.Attribute a nm apos) [] [] pos) (rdE T (evBl f (evCons fa evNil))) := by
  refine PE.imp (pe_bm0 PySem.F.plainAttrs_str slot hty hmt ha (base_ok h0) hl) fun σ H Q ⟨B, M, env, st, re, rs, w⟩ => ?_
  refine rd_go re rs (Wp.bind (Wp.bind w)) fun d1 st1 v1 H1 M1 hq1 w1 e1 re1 rs1 r1 => ?_
  obtain ⟨d, hd, w2⟩ := Wp.ofO (show Wp (ofO ((views st1 [d1]).bind fun xs => evB f xs) st1) _ from w1)
  cases h1 : view st1 d1 with
  | none => simp [views, h1] at hd
  | some x =>
    simp [views, h1] at hd
    obtain ⟨z, rfl⟩ := hstr _ _ hd
    have hz : d1 = .str z := by
      unfold view at h1
      split at h1
      · rename_i l
        cases h3 : st1[l]? with
        | none => rw [h3] at h1; cases h1
        | some o => rw [h3] at h1; cases o <;> cases h1
      · cases h1; rfl
    subst hz
    obtain ⟨rfl, k1⟩ := r1.str_inv
    exact ⟨rfl, M1, B, st1, [.str z], [.str z], d, .cons (.str k1) .nil, rs1, rfl, hd, Want.evo e1 w2⟩
end
end MP

set_option Elab.async false
set_option linter.all false
set_option maxRecDepth 100000
set_option maxHeartbeats 2000000
/-! MP: enumerate and zip over a list, a tuple, a text -/
namespace MPI
open PySem PySem.Spec PyProof.Rows L2
/-! ### enumerate(v), one argument -/
theorem meets_enum1 {v : Value} {o : Obj} {H : Heap → Prop} (B : Begins v o H) :
    Meets (Builtin.«enumerate.__new__» ⟨[.type "enumerate", v], []⟩) (fun _ R s => H s.heap ∧
      R (.ok (.ret (.ref (s.heap.push o).objs.size))) { s with heap := (s.heap.push o).push { cls := .type "enumerate", data := .fields #[.none, .bool false, .ref s.heap.objs.size, rawInt 0, .none, .none] } }) :=
  .of_wp fun prog w A R s h => by
    obtain ⟨hp, g, d, tk, os⟩ := s; obtain ⟨h1, h⟩ := h
    have hsub := sub_enumerate
    have q1 : ∀ {A' : Around} {E : Value → Shared → Prop} {Q : Value → Shared → Prop}, Q (.ref hp.objs.size) ⟨hp.push o, g, d, tk, os⟩ → wpAny (model prog w) A' (pyIter v) Q E ⟨hp, g, d, tk, os⟩ :=
      fun q => B.iter prog w _ _ ⟨hp, g, d, tk, os⟩ _ h1 q
    wp_walk using q1
    refine wpAny_stack_any fun st => wpAny_pure ?_
    split
    · rename_i c _ _ _ _ _
      cases (c == Value.type "enumerate")
      · wp_walk using q1
        exact ⟨_, rfl, h⟩
      · wp_walk using q1
        exact ⟨_, rfl, h⟩
    · wp_walk using q1
      exact ⟨_, rfl, h⟩
theorem enum1_begins {prog : Program} {w : World} {A : Around} {E : Value → Shared → Prop} {s : Shared} {v : Value} {o : Obj} {H : Heap → Prop} {Q : Value → Shared → Prop} (B : Begins v o H) (h1 : H s.heap)
    (h : ∀ h', IsEnum h' (s.heap.objs.size + 1) s.heap.objs.size 0 .none → h'.get? s.heap.objs.size = some o → h'.objs.size = s.heap.objs.size + 2 →
      (∀ b o, s.heap.get? b = some o → h'.get? b = some o) → Q (.ref (s.heap.objs.size + 1)) { s with heap := h' }) :
    wpAny (model prog w) A (call (.type "enumerate") [v]) Q E s := by
  refine callType_new F.called_enumerate (by decide) (F.typeCall_enumerate_1 _) (F.newCall_enumerate_1 _) (fun obj => F.args_object_init_2 obj _) F.entry_enumerate_new
    (meets_enum1 B) ⟨h1, ?_⟩
  have hz : (s.heap.push o).objs.size = s.heap.objs.size + 1 := Heap.size_push ..
  show _ ∧ _
  rw [hz]
  have he : IsEnum ((s.heap.push o).push { cls := .type "enumerate", data := .fields #[.none, .bool false, .ref s.heap.objs.size, rawInt 0, .none, .none] }) (s.heap.objs.size + 1) s.heap.objs.size 0 .none := by
    have := Heap.get?_push_size (s.heap.push o) (o := { cls := .type "enumerate", data := .fields #[.none, .bool false, .ref s.heap.objs.size, rawInt 0, .none, .none] }) rfl
    rw [hz] at this; exact this
  refine ⟨⟨_, he, rfl⟩, h _ he (Heap.get?_push_of_some _ (Heap.get?_push_size _ B.free)) (by rw [Heap.size_push, hz]) fun b o x => Heap.get?_push_of_some _ (Heap.get?_push_of_some _ x)⟩

/-! ### what is walked -/
inductive Src where
  | lst (a : Addr) (xs : List V) | tup (a : Addr) (xs : List V) | txt (x : Str) (t : Tok)
namespace Src
def len : Src → Nat
  | lst _ xs => xs.length | tup _ xs => xs.length | txt x _ => x.cps.size
def get : Src → Nat → Option V
  | lst _ xs, i => xs[i]? | tup _ xs, i => xs[i]? | txt x _, i => x.cps[i]?.map fun c => .str ⟨#[c]⟩
def stands (K : PySem.W.Frag) (H : Hp) : Src → Prop
  | lst a xs => SqL K H a xs | tup a xs => SqT K H a xs | txt _ _ => True
def val : Src → Value
  | lst a _ => .ref a | tup a _ => .ref a | txt x t => .str x t
def obj : Src → Obj
  | lst a _ => { cls := .type "list_iterator", data := .fields #[.ref a, .int 0 0] }
  | tup a _ => { cls := .type "tuple_iterator", data := .fields #[.ref a, .int 0 0] }
  | txt x t => { cls := .type (strIterType x), data := .fields #[.str x t, .int 0 0] }
/-- the iterator at it stands at turn i -/
def at_ (it : Addr) : Src → Nat → Heap → Prop
  | lst a _, i, h => h.IsListIter it a i | tup a _, i, h => h.IsTupleIter it a i | txt x t, i, h => h.IsStrIter it (strIterType x) x t i
def src : Src → Option Addr
  | lst a _ => some a | tup a _ => some a | txt _ _ => none
/-- the iterator's object, in all -/
def fp (it : Addr) (S : Src) : List Addr := match S.src with
  | some a => [it, a] | none => [it]
theorem at_there {it : Addr} {S : Src} {i : Nat} {h : Heap} (x : S.at_ it i h) : ∃ o, h.get? it = some o ∧ ∀ v, o.data ≠ .cell v := by
  cases S with
  | lst a xs => obtain ⟨o, e, c, d⟩ := x; exact ⟨o, e, fun v z => by rw [d] at z; cases z⟩
  | tup a xs => obtain ⟨o, e, c, d⟩ := x; exact ⟨o, e, fun v z => by rw [d] at z; cases z⟩
  | txt y t => obtain ⟨o, e, c, d⟩ := x; exact ⟨o, e, fun v z => by rw [d] at z; cases z⟩
theorem at_keep {it : Addr} {S : Src} {i : Nat} {h h' : Heap} (x : S.at_ it i h) (k : ∀ o, h.get? it = some o → h'.get? it = some o) : S.at_ it i h' := by
  cases S with
  | lst a xs => obtain ⟨o, e, r⟩ := x; exact ⟨o, k o e, r⟩
  | tup a xs => obtain ⟨o, e, r⟩ := x; exact ⟨o, k o e, r⟩
  | txt y t => obtain ⟨o, e, r⟩ := x; exact ⟨o, k o e, r⟩
theorem at_zero {it : Addr} {S : Src} {h : Heap} (e : h.get? it = some S.obj) : S.at_ it 0 h := by
  cases S with
  | lst a xs => exact ⟨_, e, rfl, rfl⟩
  | tup a xs => exact ⟨_, e, rfl, rfl⟩
  | txt y t => exact ⟨_, e, rfl, rfl⟩
section
variable {X : Cx} {pins : List (Addr × Obj)} {σ : L2.St} {H : Hp} {s : Shared}
/-- an iterator's own object is not what it walks -/
theorem ne_src (I : Inv X pins σ H s) {S : Src} (hs : S.stands X.K H) {b : Addr} (f : FpOk X pins H b) : ∀ a, S.src = some a → a ≠ b := fun a ha e => by
  subst e
  obtain ⟨f0, _, _, f3, _⟩ := f
  have hK : ∀ o, X.K.lookup a = some o → False := fun o q => by
    have q2 := I.ok.mod.kin a o q
    rcases f3 with z | z
    · exact I.ok.noex a o q2 z
    · exact absurd (Heap.lt_size q2) (Nat.not_lt.mpr (Nat.le_trans I.ok.bsz z))
  cases S with
  | lst b xs =>
    cases ha
    rcases hs with (h | ⟨o, h⟩) | ⟨o, _, _, h, _⟩
    · rw [f0] at h; cases h
    · rw [f0] at h; cases h
    · exact hK o h
  | tup b xs =>
    cases ha
    rcases hs with (h | ⟨o, h⟩) | ⟨o, _, _, h, _⟩
    · rw [f0] at h; cases h
    · rw [f0] at h; cases h
    · exact hK o h
  | txt _ _ => cases ha
/-- what it draws, where it stands -/
theorem draws (I : Inv X pins σ H s) (hh : X.A.in1.handled = none) {S : Src} (hs : S.stands X.K H) {it : Addr} (hne : ∀ a, S.src = some a → a ≠ it) : ∃ (P : Nat → Value → Prop) (St : Nat → Heap → Prop),
    Draws X.prog X.w X.A.in1 it (S.fp it) S.len P St ∧ (∀ i, S.at_ it i s.heap → St i s.heap) ∧ (∀ i h, St i h → S.at_ it i h) ∧ ∀ i u, P i u → ∃ x, S.get i = some x ∧ RelV x u := by
  cases S with
  | lst a xs =>
    obtain ⟨its, rv, p, _⟩ := I.list hs
    refine ⟨_, fun i h => h.IsListIter it a i ∧ h.IsList a its.toArray, ?_, fun i h => ⟨h, p.isList⟩, fun i h z => z.1, fun i u (q : its.toArray[i]? = some u) => ?_⟩
    · have D := Draws.list (prog := X.prog) (w := X.w) (A := X.A.in1) hh it a (hne a rfl) its.toArray
      have e : its.toArray.size = Src.len (.lst a xs) := by show its.toArray.size = xs.length; rw [List.size_toArray, rv.length]
      rw [e] at D
      exact D
    · have q' : its[i]? = some u := by simpa using q
      obtain ⟨x, hx, r⟩ := (show ∀ {xs : List V} {us : List Value} {i : Nat} {u : Value}, Vals xs us → us[i]? = some u → ∃ x, xs[i]? = some x ∧ RelV x u from fun r e => by
        have hl := r.length
        obtain ⟨hi, _⟩ := List.getElem?_eq_some_iff.mp e
        obtain ⟨u', e', r'⟩ := r.get (List.getElem?_eq_getElem (by rw [hl]; exact hi))
        rw [e] at e'; cases e'
        exact ⟨_, List.getElem?_eq_getElem _, r'⟩) rv q'
      exact ⟨x, hx, r⟩
  | tup a xs =>
    obtain ⟨its, rv, p, _⟩ := I.tuple hs
    refine ⟨_, fun i h => h.IsTupleIter it a i ∧ h.IsTuple a its.toArray, ?_, fun i h => ⟨h, show s.heap.IsTuple a its.toArray from p⟩, fun i h z => z.1, fun i u (q : its.toArray[i]? = some u) => ?_⟩
    · have D := Draws.tuple (prog := X.prog) (w := X.w) (A := X.A.in1) hh it a (hne a rfl) its.toArray
      have e : its.toArray.size = Src.len (.tup a xs) := by show its.toArray.size = xs.length; rw [List.size_toArray, rv.length]
      rw [e] at D
      exact D
    · have q' : its[i]? = some u := by simpa using q
      obtain ⟨x, hx, r⟩ := (show ∀ {xs : List V} {us : List Value} {i : Nat} {u : Value}, Vals xs us → us[i]? = some u → ∃ x, xs[i]? = some x ∧ RelV x u from fun r e => by
        have hl := r.length
        obtain ⟨hi, _⟩ := List.getElem?_eq_some_iff.mp e
        obtain ⟨u', e', r'⟩ := r.get (List.getElem?_eq_getElem (by rw [hl]; exact hi))
        rw [e] at e'; cases e'
        exact ⟨_, List.getElem?_eq_getElem _, r'⟩) rv q'
      exact ⟨x, hx, r⟩
  | txt x t =>
    refine ⟨_, _, Draws.text (prog := X.prog) (w := X.w) (A := X.A.in1) hh it x t, fun i h => h, fun i h z => z, fun i u ⟨c, tk, hc, e⟩ => ?_⟩
    subst e
    exact ⟨.str ⟨#[c]⟩, by show (x.cps[i]?).map _ = _; rw [hc]; rfl, tk, rfl⟩
/-- how iter(v) begins -/
theorem begins (I : Inv X pins σ H s) {S : Src} (hs : S.stands X.K H) : ∃ Hq : Heap → Prop, Begins S.val S.obj Hq ∧ Hq s.heap := by
  cases S with
  | lst a xs =>
    obtain ⟨its, rv, p, _⟩ := I.list hs
    exact ⟨_, begins_list a its.toArray, p.isList⟩
  | tup a xs =>
    obtain ⟨its, rv, p, _⟩ := I.tuple hs
    exact ⟨_, begins_tuple a its.toArray, show s.heap.IsTuple a its.toArray from p⟩
  | txt x t => exact ⟨_, begins_text x t, trivial⟩
end
end Src

/-! ### enumerate -/
def ItE (K : PySem.W.Frag) (S : Src) : It :=
  ⟨fun i H => S.stands K H ∧ i < S.len, fun i H v H' => ∃ T x, v = .ref T ∧ H T = none ∧ H' = upd H T (.tup [.int (i : Nat), x]) ∧ S.get i = some x, fun i H => S.stands K H ∧ S.len = i⟩
theorem turn_enumS {P : Program} {w : World} {K : PySem.W.Frag} {elts : List Expr} {kk : Nat} {tpos : Pos} (S : Src) (e it : Addr) :
    Turn P w K (.Tuple elts kk tpos) (ItE K S) [e, it] e (fun i h => (∃ old, IsEnum h e it ((i : Nat) : Int) old) ∧ S.at_ it i h ∧ e ≠ it) where
  mem := by simp
  obj := fun i h st b hb => by
    obtain ⟨⟨old, he⟩, hi, _⟩ := st
    have e' : b = e ∨ b = it := by simpa using hb
    rcases e' with z | z
    · rw [z]; exact ⟨_, he, fun v q => nomatch q⟩
    · rw [z]; exact Src.at_there hi
  keep := fun i h h' st k => let ⟨⟨old, he⟩, hi, hne⟩ := st; ⟨⟨old, k e (by simp) _ he⟩, Src.at_keep (S := S) hi fun o q => k it (by simp) o q, hne⟩
  item := by
    intro X hP hw hK hc i pins s σ H E I hf st hg
    subst hP hw hK
    obtain ⟨⟨old, he⟩, hit, hne⟩ := st
    obtain ⟨hq, hlt⟩ := hg
    obtain ⟨P, St, D, st0, st1, hP⟩ := Src.draws I (I.ok.hd hc) hq (Src.ne_src I hq (hf it (by simp)))
    have hel : e < s.heap.objs.size := Heap.lt_size he
    have hil : it < s.heap.objs.size := by obtain ⟨_, q, _⟩ := Src.at_there hit; exact Heap.lt_size q
    have hef : e ∉ S.fp it := fun hm => by
      unfold Src.fp at hm
      cases q : S.src with
      | none => rw [q] at hm; exact hne (List.mem_singleton.mp hm)
      | some a =>
        rw [q] at hm
        rcases List.mem_cons.mp hm with z | z
        · exact hne z
        · exact Src.ne_src I hq (hf e (by simp)) a q (List.mem_singleton.mp z).symm
    refine wpAny_pyNext_enum_itemC D he (st0 i hit) hlt hne hef fun u h' tk hu ho hit' hT hsz hk => ?_
    obtain ⟨x, hx, ru⟩ := hP i u hu
    refine ⟨_, rfl, wpAny_letOwnedTupleGo_enum (s := { s with heap := h', toks := tk + 1 }) ho fun h'' he' sb => ?_⟩
    have hT2 : h''.get? s.heap.objs.size = some { cls := .type "tuple", data := .seq #[.int i tk, u] } := (sb.2 _ (Nat.ne_of_gt hel)).trans hT
    have new : ObjOk X.prog X.w (upd H s.heap.objs.size (.tup [.int (i : Nat), x])) h'' s.heap.objs.size (.tup [.int (i : Nat), x]) :=
      ⟨by show 2 ≤ sizeLine; decide, [.int i tk, u], .cons ⟨_, rfl⟩ (.cons ru .nil), ⟨_, hT2, rfl, _, rfl⟩⟩
    have I1 : Inv X pins σ (upd H s.heap.objs.size (.tup [.int (i : Nat), x])) { s with heap := h'', toks := tk + 1 } :=
      I.turnedNew (ch := [e, it]) (fun b ob hb q => (sb.2 b (fun z => hb (by simp [z]))).trans (hk b ob (fun z => hb (by simp [z])) (fun z => hb (by simp [z])) q)) hf (Nat.le_refl _) new
    refine ⟨.ref s.heap.objs.size, _, I1, rfl, ⟨_, x, rfl, I.hok.fresh (Nat.le_refl _), rfl, hx⟩, ⟨⟨u, ?_⟩, Src.at_keep (S := S) (st1 _ _ hit') fun o q => (sb.2 it (Ne.symm hne)).trans q, hne⟩, fun b hb => ?_⟩
    · have e1 : ((i + 1 : Nat) : Int) = (i : Int) + 1 := by omega
      rw [e1]; exact he'
    · have hb' : b < s.heap.objs.size := by
        have e' : b = e ∨ b = it := by simpa using hb
        rcases e' with z | z
        · rw [z]; exact hel
        · rw [z]; exact hil
      rw [upd_ne (Nat.ne_of_lt hb')]
      exact (hf b hb).1
  done := by
    intro X hP hw hK hc i pins s σ H E I hf st hg
    subst hP hw hK
    obtain ⟨⟨old, he⟩, hit, hne⟩ := st
    obtain ⟨hq, hlt⟩ := hg
    obtain ⟨P, St, D, st0, st1, hP⟩ := Src.draws I (I.ok.hd hc) hq (Src.ne_src I hq (hf it (by simp)))
    obtain ⟨f0, f1, f2, f3, f4, f5⟩ := hf it (by simp)
    subst hlt
    exact wpAny_pyNext_enum_endD D he (st0 _ hit) fun h' eb => ⟨rfl, I.turned (t' := s.toks) (fun b o hb q => eb b o hb q) f0 f1 f3 f4 f5⟩
  self := fun A i s Q E st h => let ⟨⟨_, he⟩, _⟩ := st; wpAny_pyIter_enum he h
/-- the source that a value is -/
def IsSrc (S : Src) (x : V) (u : Value) : Prop := match S with
  | .lst a _ => x = .ref a ∧ u = .ref a
  | .tup a _ => x = .ref a ∧ u = .ref a
  | .txt y t => x = .str y ∧ u = .str y t
def srcOf (K : PySem.W.Frag) (H : Hp) (x : V) (R : Src → Prop) : Prop := (∃ a xs, x = .ref a ∧ SqL K H a xs ∧ R (.lst a xs)) ∨ (∃ a xs, x = .ref a ∧ SqT K H a xs ∧ R (.tup a xs)) ∨ ∃ y, x = .str y ∧ ∀ t, R (.txt y t)
theorem srcOf.use {K : PySem.W.Frag} {H : Hp} {x : V} {R : Src → Prop} {u : Value} (h : srcOf K H x R) (r : RelV x u) : ∃ S : Src, S.stands K H ∧ S.val = u ∧ R S := by
  rcases h with ⟨a, xs, rfl, hq, q⟩ | ⟨a, xs, rfl, hq, q⟩ | ⟨y, rfl, q⟩
  · cases r; exact ⟨.lst a xs, hq, rfl, q⟩
  · cases r; exact ⟨.tup a xs, hq, rfl, q⟩
  · obtain ⟨t, rfl⟩ := r; exact ⟨.txt y t, trivial, rfl, q t⟩
def iEnumS (K : PySem.W.Frag) (ta : TA) : TI := fun σ H R => ta σ H fun vs H1 => ∃ x, vs = [x] ∧ srcOf K H1 x fun S => R (ItE K S) H1
theorem pi_enumS {X : Cx} {e : Expr} {ta : TA} {p pos tpos : Pos} {elts : List Expr} {kk : Nat} (hg : Gl X "enumerate") (hm : X.mg "enumerate" = none) (ha : PA X [e] ta) (hs : starEach [e] X.env = [(false, eval e X.env)]) :
    PI X (.Tuple elts kk tpos) (.Call (.Name "enumerate" p) [e] [] pos) (iEnumS X.K ta) := by
  refine ⟨fun pins s σ H R I h => ?_⟩
  refine Call_ (ld_blt I hg hm boot_enumerate (PyProof.Rows.callWith_type1 (thn (ha.run pos pins s σ H _ I h) fun us s1 ⟨vs, H1, I1, r1, q1⟩ => ?_) hs rfl))
  obtain ⟨x, ex, hx⟩ := q1
  subst ex
  cases r1 with
  | cons r rr =>
    cases rr
    obtain ⟨S, hq, hv, q⟩ := hx.use r
    obtain ⟨Hq, B, hB⟩ := Src.begins I1 hq
    subst hv
    refine enum1_begins B hB fun h' he hit hsz hk => wpAny_pyIter_enum he ?_
    have I2 : Inv X pins σ H1 { s1 with heap := h' } := I1.kept (t' := s1.toks) hk
    refine ⟨s1.heap.objs.size + 1, [s1.heap.objs.size + 1, s1.heap.objs.size], _, _, H1, rfl, I2, turn_enumS S (s1.heap.objs.size + 1) s1.heap.objs.size, ⟨⟨.none, he⟩, Src.at_zero hit, Nat.succ_ne_self _⟩, fun b hb => ?_, q⟩
    have e' : b = s1.heap.objs.size + 1 ∨ b = s1.heap.objs.size := by simpa using hb
    have hle : s1.heap.objs.size ≤ b := by
      rcases e' with z | z
      · rw [z]; exact Nat.le_add_right _ _
      · rw [z]; exact Nat.le_refl _
    exact I1.fpOk hle (I1.hok.fresh hle)

/-! ### zip -/
def ItZ (K : PySem.W.Frag) (S U : Src) : It :=
  ⟨fun i H => S.stands K H ∧ U.stands K H ∧ i < S.len ∧ i < U.len,
    fun i H v H' => ∃ T x y, v = .ref T ∧ H T = none ∧ H' = upd H T (.tup [x, y]) ∧ S.get i = some x ∧ U.get i = some y,
    fun i H => S.stands K H ∧ U.stands K H ∧ i ≤ S.len ∧ i ≤ U.len ∧ (i = S.len ∨ i = U.len)⟩
theorem mem_fp {it b : Addr} {S : Src} (h : b ∈ S.fp it) : b = it ∨ S.src = some b := by
  unfold Src.fp at h
  cases q : S.src with
  | none => rw [q] at h; exact .inl (List.mem_singleton.mp h)
  | some a =>
    rw [q] at h
    rcases List.mem_cons.mp h with z | z
    · exact .inl z
    · exact .inr (by rw [List.mem_singleton.mp z])
theorem fp_self {it : Addr} {S : Src} : it ∈ S.fp it := by
  unfold Src.fp
  cases S.src <;> simp
/-- the zip's own objects lie apart -/
structure Apart (z TI TO i1 i2 : Addr) : Prop where
  a1 : TI ≠ z
  a2 : TO ≠ z
  a3 : TI ≠ TO
  a4 : TI ≠ i1
  a5 : TI ≠ i2
  a6 : z ≠ i1
  a7 : z ≠ i2
  a8 : TO ≠ i1
  a9 : TO ≠ i2
  a10 : i1 ≠ i2
theorem turn_zipS {P : Program} {w : World} {K : PySem.W.Frag} {elts : List Expr} {kk : Nat} {tpos : Pos} {z TI TO i1 i2 : Addr} (S U : Src) (D : Apart z TI TO i1 i2) :
    Turn P w K (.Tuple elts kk tpos) (ItZ K S U) [z, TI, TO, i1, i2] z (fun i h => IsZip h z TI TO .none ∧ IsTupOf2 h TI (.ref i1) (.ref i2) ∧ (∃ x y, IsTupOf2 h TO x y) ∧ S.at_ i1 i h ∧ U.at_ i2 i h) where
  mem := by simp
  obj := fun i h st c hc => by
    obtain ⟨hz, hTI, ⟨x, y, hTO⟩, h1, h2⟩ := st
    have e' : c = z ∨ c = TI ∨ c = TO ∨ c = i1 ∨ c = i2 := by simpa using hc
    rcases e' with q | q | q | q | q
    · rw [q]; exact ⟨_, hz, fun v q => nomatch q⟩
    · rw [q]; exact ⟨_, hTI, fun v q => nomatch q⟩
    · rw [q]; exact ⟨_, hTO, fun v q => nomatch q⟩
    · rw [q]; exact Src.at_there h1
    · rw [q]; exact Src.at_there h2
  keep := fun i h h' st k => by
    obtain ⟨hz, hTI, ⟨x, y, hTO⟩, h1, h2⟩ := st
    exact ⟨k z (by simp) _ hz, k TI (by simp) _ hTI, ⟨x, y, k TO (by simp) _ hTO⟩, Src.at_keep (S := S) h1 fun o q => k i1 (by simp) o q, Src.at_keep (S := U) h2 fun o q => k i2 (by simp) o q⟩
  item := by
    intro X hP hw hK hc i pins s σ H E I hf st hg
    subst hP hw hK
    obtain ⟨hz, hTI, ⟨x0, y0, hTO⟩, h1, h2⟩ := st
    obtain ⟨q1, q2, l1, l2⟩ := hg
    obtain ⟨P1, St1, D1, s10, s11, hP1⟩ := Src.draws I (I.ok.hd hc) q1 (Src.ne_src I q1 (hf i1 (by simp)))
    obtain ⟨P2, St2, D2, s20, s21, hP2⟩ := Src.draws I (I.ok.hd hc) q2 (Src.ne_src I q2 (hf i2 (by simp)))
    have sep : ZipSep2 z TI TO i1 i2 (S.fp i1) (U.fp i2) := by
      have n1 : ∀ b, b ∈ [z, TI, TO, i1, i2] → b ≠ i1 → b ∉ S.fp i1 := fun b hb hn hm => by
        rcases mem_fp hm with e | e
        · exact hn e
        · exact Src.ne_src I q1 (hf b hb) b e rfl
      have n2 : ∀ b, b ∈ [z, TI, TO, i1, i2] → b ≠ i2 → b ∉ U.fp i2 := fun b hb hn hm => by
        rcases mem_fp hm with e | e
        · exact hn e
        · exact Src.ne_src I q2 (hf b hb) b e rfl
      exact ⟨D.a1, D.a2, D.a3, D.a4, fp_self, n1 z (by simp) D.a6, n1 TO (by simp) D.a8, D.a5, fp_self, n2 z (by simp) D.a7, n2 TO (by simp) D.a9, n2 i1 (by simp) D.a10, n1 i2 (by simp) D.a10.symm⟩
    have hzl : z < s.heap.objs.size := Heap.lt_size hz
    refine wpAny_pyNext_zipD2_item sep D1 D2 hz hTI hTO (s10 i h1) (s20 i h2) l1 l2 fun u u2 h' tk hu hu2 z' TO' h1' h2' hT hsz hk => ?_
    obtain ⟨x, hx, ru⟩ := hP1 i u hu
    obtain ⟨y, hy, ru2⟩ := hP2 i u2 hu2
    refine ⟨_, rfl, wpAny_letOwnedTupleGo_zip (s := { s with heap := h', toks := tk }) z' fun h'' z'' sb => ?_⟩
    have hT2 : h''.get? s.heap.objs.size = some { cls := .type "tuple", data := .seq #[u, u2] } := (sb.2 _ (Nat.ne_of_gt hzl)).trans hT
    have new : ObjOk X.prog X.w (upd H s.heap.objs.size (.tup [x, y])) h'' s.heap.objs.size (.tup [x, y]) :=
      ⟨by show 2 ≤ sizeLine; decide, [u, u2], .cons ru (.cons ru2 .nil), ⟨_, hT2, rfl, _, rfl⟩⟩
    have I1 : Inv X pins σ (upd H s.heap.objs.size (.tup [x, y])) { s with heap := h'', toks := tk } :=
      I.turnedNew (ch := [z, TI, TO, i1, i2]) (fun c o hb q => (sb.2 c (fun q' => hb (by simp [q']))).trans (hk c o (fun q' => hb (by simp [q'])) (fun q' => hb (by simp [q'])) (fun q' => hb (by simp [q'])) (fun q' => hb (by simp [q'])) q)) hf (Nat.le_refl _) new
    refine ⟨.ref s.heap.objs.size, _, I1, rfl, ⟨_, x, y, rfl, I.hok.fresh (Nat.le_refl _), rfl, hx, hy⟩, ⟨z'', ?_, ⟨u, u2, ?_⟩, ?_, ?_⟩, fun c hcm => ?_⟩
    · exact (sb.2 _ D.a1).trans (hk _ _ D.a1 D.a3 D.a4 D.a5 hTI)
    · exact (sb.2 _ D.a2).trans TO'
    · exact Src.at_keep (S := S) (s11 _ _ h1') fun o q => (sb.2 _ D.a6.symm).trans q
    · exact Src.at_keep (S := U) (s21 _ _ h2') fun o q => (sb.2 _ D.a7.symm).trans q
    · have hlt : c < s.heap.objs.size := by
        have e' : c = z ∨ c = TI ∨ c = TO ∨ c = i1 ∨ c = i2 := by simpa using hcm
        rcases e' with q | q | q | q | q
        · rw [q]; exact hzl
        · rw [q]; exact Heap.lt_size hTI
        · rw [q]; exact Heap.lt_size hTO
        · rw [q]; obtain ⟨_, e1, _⟩ := Src.at_there h1; exact Heap.lt_size e1
        · rw [q]; obtain ⟨_, e2, _⟩ := Src.at_there h2; exact Heap.lt_size e2
      rw [upd_ne (Nat.ne_of_lt hlt)]
      exact (hf c hcm).1
  done := by
    intro X hP hw hK hc i pins s σ H E I hf st hg
    subst hP hw hK
    obtain ⟨hz, hTI, ⟨x0, y0, hTO⟩, h1, h2⟩ := st
    obtain ⟨q1, q2, l1, l2, hend⟩ := hg
    obtain ⟨P1, St1, D1, s10, s11, hP1⟩ := Src.draws I (I.ok.hd hc) q1 (Src.ne_src I q1 (hf i1 (by simp)))
    obtain ⟨P2, St2, D2, s20, s21, hP2⟩ := Src.draws I (I.ok.hd hc) q2 (Src.ne_src I q2 (hf i2 (by simp)))
    have sep : ZipSep2 z TI TO i1 i2 (S.fp i1) (U.fp i2) := by
      have n1 : ∀ b, b ∈ [z, TI, TO, i1, i2] → b ≠ i1 → b ∉ S.fp i1 := fun b hb hn hm => by
        rcases mem_fp hm with e | e
        · exact hn e
        · exact Src.ne_src I q1 (hf b hb) b e rfl
      have n2 : ∀ b, b ∈ [z, TI, TO, i1, i2] → b ≠ i2 → b ∉ U.fp i2 := fun b hb hn hm => by
        rcases mem_fp hm with e | e
        · exact hn e
        · exact Src.ne_src I q2 (hf b hb) b e rfl
      exact ⟨D.a1, D.a2, D.a3, D.a4, fp_self, n1 z (by simp) D.a6, n1 TO (by simp) D.a8, D.a5, fp_self, n2 z (by simp) D.a7, n2 TO (by simp) D.a9, n2 i1 (by simp) D.a10, n1 i2 (by simp) D.a10.symm⟩
    exact wpAny_pyNext_zipD2_end sep D1 D2 hz hTI hTO (s10 i h1) (s20 i h2) l1 l2 hend fun h' tk hk => ⟨rfl, I.turnedL (t' := tk) (ch := [z, TI, TO, i1, i2]) (fun c o hb q =>
      hk c o (fun q' => hb (by simp [q'])) (fun q' => hb (by simp [q'])) (fun q' => hb (by simp [q'])) (fun q' => hb (by simp [q'])) q) hf⟩
  self := fun A i s Q E st h => wpAny_pyIter_zip st.1 h
def iZipS (K : PySem.W.Frag) (ta : TA) : TI := fun σ H R => ta σ H fun vs H1 => ∃ x y, vs = [x, y] ∧ srcOf K H1 x fun S => srcOf K H1 y fun U => R (ItZ K S U) H1
theorem pi_zipS {X : Cx} {e e2 : Expr} {ta : TA} {p pos tpos : Pos} {elts : List Expr} {kk : Nat} (hg : Gl X "zip") (hm : X.mg "zip" = none) (ha : PA X [e, e2] ta)
    (hs : starEach [e, e2] X.env = (false, eval e X.env) :: starEach [e2] X.env) (hpl : (backTo pos (starEach [e2] X.env)).any (·.1) = false) :
    PI X (.Tuple elts kk tpos) (.Call (.Name "zip" p) [e, e2] [] pos) (iZipS X.K ta) := by
  refine ⟨fun pins s σ H R I h => ?_⟩
  refine Call_ (ld_blt I hg hm PyProof.Rows.boot_zip (PyProof.Rows.callWith_type1 (thn (ha.run pos pins s σ H _ I h) fun us s1 ⟨vs, H1, I1, r1, q1⟩ => ?_) hs hpl))
  obtain ⟨x, y, ex, hx⟩ := q1
  subst ex
  cases r1 with
  | cons r rr =>
    cases rr with
    | cons r' rr =>
      cases rr
      obtain ⟨S, hq1, hv1, hx2⟩ := hx.use r
      obtain ⟨U, hq2, hv2, q⟩ := hx2.use r'
      obtain ⟨Hq1, B1, hB1⟩ := Src.begins I1 hq1
      obtain ⟨Hq2, B2, hB2⟩ := Src.begins I1 hq2
      subst hv1 hv2
      refine zip_begins2 B1 B2 hB1 hB2 fun h' hz hTI hTO h1 h2 hsz hk => wpAny_pyIter_zip hz ?_
      have I2 : Inv X pins σ H1 { s1 with heap := h' } := I1.kept (t' := s1.toks) hk
      have ap : Apart (s1.heap.objs.size + 4) (s1.heap.objs.size + 2) (s1.heap.objs.size + 3) s1.heap.objs.size (s1.heap.objs.size + 1) := by
        generalize s1.heap.objs.size = N
        exact ⟨show (N + 2 : Nat) ≠ N + 4 by omega, show (N + 3 : Nat) ≠ N + 4 by omega, show (N + 2 : Nat) ≠ N + 3 by omega, show (N + 2 : Nat) ≠ N by omega, show (N + 2 : Nat) ≠ N + 1 by omega, show (N + 4 : Nat) ≠ N by omega, show (N + 4 : Nat) ≠ N + 1 by omega, show (N + 3 : Nat) ≠ N by omega, show (N + 3 : Nat) ≠ N + 1 by omega, show (N : Nat) ≠ N + 1 by omega⟩
      refine ⟨s1.heap.objs.size + 4, [s1.heap.objs.size + 4, s1.heap.objs.size + 2, s1.heap.objs.size + 3, s1.heap.objs.size, s1.heap.objs.size + 1], _, _, H1, rfl, I2, turn_zipS S U ap, ⟨hz, hTI, ⟨_, _, hTO⟩, Src.at_zero h1, Src.at_zero h2⟩, fun c hcm => ?_, q⟩
      have e' : c = s1.heap.objs.size + 4 ∨ c = s1.heap.objs.size + 2 ∨ c = s1.heap.objs.size + 3 ∨ c = s1.heap.objs.size ∨ c = s1.heap.objs.size + 1 := by simpa using hcm
      have hle : s1.heap.objs.size ≤ c := by
        rcases e' with z | z | z | z | z
        · rw [z]; exact Nat.le_add_right _ _
        · rw [z]; exact Nat.le_add_right _ _
        · rw [z]; exact Nat.le_add_right _ _
        · rw [z]; exact Nat.le_refl _
        · rw [z]; exact Nat.le_add_right _ _
      exact I1.fpOk hle (I1.hok.fresh hle)
end MPI

set_option Elab.async false
set_option linter.all false
set_option maxRecDepth 100000
set_option maxHeartbeats 2000000
/-! MP: calls, changed lists, what is walked, comprehensions -/
namespace MP
open PySem PySem.Spec PyProof.Rows L2 TL MPI
section
variable {T : Tb} {X : Cx} {pos : Pos} {a b c e : Expr} {es : List Expr} {fa fb fc : EV} {fs : EVs}

/-! ### calls of the text's defs -/
/-- a def's promise: it does what the evaluator's call does -/
def spOf (T : Tb) (cl : List D → Store → R D) (np : Nat) : Sp := fun vs H Q _ => vs.length = np ∧ ∃ B M ds st, RDs T H M B M.length ds vs ∧ RSt T H M B st ∧ Wp (cl ds st) fun d st' => Want T B H M st' d Q
def evCall (fs : EVs) (cl : List D → Store → R D) : EV := fun env st => (fs env st).bind fun ds st1 => cl ds st1
theorem call_rd {cl : List D → Store → R D} {np : Nat} (hnp : ∀ ds st d st', cl ds st = .ok d st' → ds.length = np) {σ : L2.St} {H : Hp} {Q : VK} (h : rdE T (evCall fs cl) σ H Q) : tCall (spOf T cl np) [] E0 (rdA T fs) σ H Q := by
  obtain ⟨B, M, env, st, re, rs, w⟩ := h
  refine rd_goA re rs (Wp.bind w) fun ds st1 vs H1 M1 _ w1 e1 re1 rs1 r1 => ?_
  rw [List.append_nil]
  refine ⟨?_, B, M1, ds, st1, r1, rs1, w1.mono fun d st' w2 => Want.evo e1 w2⟩
  obtain ⟨d, st', e, _⟩ := w1.ok
  rw [← r1.length]
  exact hnp _ _ _ _ e
theorem s_call {x : Str} {p : Pos} {f : Addr} {fd : FuncData} {ps : List Str} {k np : Nat} {cl : List D → Store → R D} (hnp : ∀ ds st d st', cl ds st = .ok d st' → ds.length = np) (F : FnOk X.prog X.w X.K X.mg X.base CX0 k f fd ps (spOf T cl np)) (hr : Room k X.A) (hg : Gl X x) (hm : X.mg x = some (.ref f))
    (hk : PySem.W.keepIn X.K (.ref f) = true) (hb : Binds X.K fd ps []) (hdb : (x == ("__debug__" : Str)) = false) (ha : PA X (e :: es) (rdA T fs)) (hs : (e :: es).all noStar = true) : PE X (.Call (.Name x p) (e :: es) [] pos) (rdE T (evCall fs cl)) := by
  rw [List.all_cons, Bool.and_eq_true] at hs
  exact PE.imp (pe_call F hr hg hm hk hb .nil pass0 ha hdb (star_cons hs.1 _) (star_any hs.2)) fun σ H Q h => call_rd hnp h
/-- without arguments -/
theorem s_call0 {x : Str} {p : Pos} {f : Addr} {fd : FuncData} {ps : List Str} {k np : Nat} {cl : List D → Store → R D} (hnp : ∀ ds st d st', cl ds st = .ok d st' → ds.length = np) (F : FnOk X.prog X.w X.K X.mg X.base CX0 k f fd ps (spOf T cl np)) (hr : Room k X.A) (hg : Gl X x) (hm : X.mg x = some (.ref f))
    (hk : PySem.W.keepIn X.K (.ref f) = true) (hb : Binds X.K fd ps []) (hdb : (x == ("__debug__" : Str)) = false) : PE X (.Call (.Name x p) [] [] pos) (rdE T (evCall evNil cl)) := by
  refine PE.imp (pe_call0 F hr hg hm hk hb .nil pass0 hdb) fun σ H Q h => ?_
  obtain ⟨B, M, env, st, re, rs, w⟩ := h
  have w1 : Wp (cl [] st) fun d st' => Want T B H M st' d Q := w
  refine ⟨?_, B, M, [], st, .nil, rs, w1⟩
  obtain ⟨d, st', e, _⟩ := w1.ok
  exact hnp _ _ _ _ e

/-! ### lists that are changed -/
theorem mut_list {B : Addr → Prop} {M : List Addr} {H : Hp} {st : Store} {d : D} {v : V} {l : Nat} {xs : List D} (rs : RSt T H M B st) (r : RD T H M B M.length d v) (h : mutList st d = some (l, xs)) :
    ∃ p vs, v = .ref p ∧ M[l]? = some p ∧ H p = some (.lst vs) ∧ RDs T H M B l xs vs ∧ st[l]? = some (.lst xs) := by
  unfold mutList at h
  split at h
  · rename_i l'
    cases e : st[l']? with
    | none => rw [e] at h; cases h
    | some o =>
      rw [e] at h
      cases o with
      | lst ys =>
        cases h
        cases r with
        | ref hl hm =>
          obtain ⟨vs, e1, e2⟩ := rs.at_ _ _ _ hm e
          exact ⟨_, vs, rfl, hm, e1, e2, e⟩
      | dct ys => cases h
  · cases h
mutual
/-- a value that names no younger object lies so at that age -/
theorem RD.under {B : Addr → Prop} {M : List Addr} {H : Hp} {n l : Nat} : ∀ {d : D} {v : V}, RD T H M B n d v → MP.below l d = true → RD T H M B l d v
  | _, _, .non, _ => .non
  | _, _, .bl b, _ => .bl b
  | _, _, .int i, _ => .int i
  | _, _, .str h, _ => .str h
  | _, _, .tup h r, p => .tup h (RDs.under r (by simpa [MP.below] using p))
  | _, _, .lst h m b r, p => .lst h m b (RDs.under r (by simpa [MP.below] using p))
  | _, _, .dct h m b r, p => .dct h m b (RDk.under r (by simpa [MP.below] using p))
  | _, _, .ref h m, p => .ref (by simpa [MP.below] using p) m
  | _, _, .fn f, _ => .fn f
  | _, _, .scr h, _ => .scr h
theorem RDs.under {B : Addr → Prop} {M : List Addr} {H : Hp} {n l : Nat} : ∀ {ds : List D} {vs : List V}, RDs T H M B n ds vs → MP.belows l ds = true → RDs T H M B l ds vs
  | _, _, .nil, _ => .nil
  | _, _, .cons h r, p => by
    simp only [MP.belows, Bool.and_eq_true] at p
    exact .cons (RD.under h p.1) (RDs.under r p.2)
theorem RDk.under {B : Addr → Prop} {M : List Addr} {H : Hp} {n l : Nat} : ∀ {ds : List (D × D)} {vs : List (Key × V)}, RDk T H M B n ds vs → MP.belowk l ds = true → RDk T H M B l ds vs
  | _, _, .nil, _ => .nil
  | _, _, .cons h r, p => by
    simp only [MP.belowk, Bool.and_eq_true] at p
    exact .cons (RD.under h p.2.1) (RDk.under r p.2.2)
end
/-- the store behind a change of the list l -/
theorem Want.wrote {B : Addr → Prop} {M : List Addr} {H : Hp} {st : Store} {l : Nat} {p : Addr} {ys : List D} {ws : List V} {d : D} {v : V} {Q : VK} (rs : RSt T H M B st) (hm : M[l]? = some p) (r : RDs T H M B l ys ws)
    (w : Want T B H M (st.set l (.lst ys)) d Q) (rv : RD T H M B M.length d v) : Q v (upd H p (.lst ws)) :=
  have e := Evo.write (u := .lst ws) rs hm
  w _ _ _ e (rs.write hm ⟨ws, upd_same, r.evo e (Nat.le_refl _)⟩) (rv.evo e (Nat.le_refl _))
theorem mut_ty {B : Addr → Prop} {M : List Addr} {H : Hp} {st : Store} {d : D} {v : V} (rs : RSt T H M B st) (r : RD T H M B M.length d v) (h : (mutList st d).isSome = true) : tyV X.K "list" v H := by
  cases e : mutList st d with
  | none => rw [e] at h; cases h
  | some q =>
    obtain ⟨l, xs⟩ := q
    obtain ⟨p, vs, rfl, _, e1, _⟩ := mut_list rs r e
    exact .inl ⟨rfl, vs, SqL.of e1⟩
def evApp (fa fb : EV) : EV := fun env st => (fa env st).bind fun x st1 => if (mutList st1 x).isSome then (fb env st1).bind fun y st2 => match mutList st2 x with
      | some (l, xs) => if below l y && decide (xs.length < SZ) then .ok .non (st2.set l (.lst (xs ++ [y]))) else .bad
      | none => .bad
    else .bad
theorem s_app {apos : Pos} (ha : PE X a (rdE T fa)) (hb : PE X b (rdE T fb)) (h0 : noCall0 a = true) (h1 : noStar b = true) (hl : (apos.endLine == pos.line) = true) : PE X (.Call (.Attribute a "append" apos) [b] [] pos) (rdE T (evApp fa fb)) := by
  refine PE.imp (pe_bm PySem.F.plainAttrs_list PySem.F.slot_list_append PySem.F.type_list_append mt_append ha (s_cons (T := T) hb s_nil h1) (base_ok h0) (few_ok h1) hl (star_cons h1 _) rfl) fun σ H Q ⟨B, M, env, st, re, rs, w⟩ => ?_
  refine rd_go re rs (Wp.bind w) fun d1 st1 v1 H1 M1 hq1 w1 e1 re1 rs1 r1 => ?_
  cases hm : (mutList st1 d1).isSome with
  | false => rw [hm] at w1; exact w1.elim
  | true =>
    rw [hm, if_pos rfl] at w1
    refine ⟨mut_ty rs1 r1 hm, ?_⟩
    have w1' : Wp (evCons fb evNil env st1) fun ds st2 => ∃ y, ds = [y] ∧ Wp (match mutList st2 d1 with
      | some (l, xs) => if below l y && decide (xs.length < SZ) then R.ok D.non (st2.set l (.lst (xs ++ [y]))) else .bad
      | none => .bad) fun d st' => Want T B H M st' d Q := by
      have w2 := w1.bind
      unfold evCons evNil
      cases hq : fb env st1 with
      | ok y st2 => rw [hq] at w2; exact ⟨y, rfl, w2⟩
      | exc _ _ _ => rw [hq] at w2; exact w2
      | bad => rw [hq] at w2; exact w2
    refine rd_goA re1 rs1 w1' fun ds st2 vs H2 M2 _ w2 e2 re2 rs2 r2 => ?_
    obtain ⟨y, rfl, w2⟩ := w2
    cases r2 with
    | cons ry rn =>
      cases rn
      cases hm2 : mutList st2 d1 with
      | none => rw [hm2] at w2; exact w2.elim
      | some q =>
        obtain ⟨l, xs⟩ := q
        rw [hm2] at w2
        simp only at w2
        obtain ⟨p, ws, rfl, hp, e4, e5, e6⟩ := mut_list rs2 (r1.evo e2 e2.len) hm2
        split at w2
        · rename_i hc
          simp only [Bool.and_eq_true, decide_eq_true_eq] at hc
          refine ⟨p, ws, _, rfl, rfl, e4, by rw [← e5.length, ← SZ_eq]; exact hc.2, ?_⟩
          exact Want.wrote rs2 hp (e5.append (.cons (ry.under hc.1) .nil)) (Want.evo (e1.trans e2) w2) .non
        · exact w2.elim
def evExt (fa fb : EV) : EV := fun env st => (fa env st).bind fun x st1 => if (mutList st1 x).isSome then (fb env st1).bind fun y st2 => match mutList st2 x, view st2 y with
      | some (l, xs), some (.lst ys) => if belows l ys && decide (xs.length + ys.length ≤ SZ) then .ok .non (st2.set l (.lst (xs ++ ys))) else .bad
      | _, _ => .bad
    else .bad
theorem s_ext {apos : Pos} (ha : PE X a (rdE T fa)) (hb : PE X b (rdE T fb)) (h0 : noCall0 a = true) (h1 : noStar b = true) (hl : (apos.endLine == pos.line) = true) : PE X (.Call (.Attribute a "extend" apos) [b] [] pos) (rdE T (evExt fa fb)) := by
  refine PE.imp (pe_bm PySem.F.plainAttrs_list PySem.F.slot_list_extend PySem.F.type_list_extend mt_extend ha (s_cons (T := T) hb s_nil h1) (base_ok h0) (few_ok h1) hl (star_cons h1 _) rfl) fun σ H Q ⟨B, M, env, st, re, rs, w⟩ => ?_
  refine rd_go re rs (Wp.bind w) fun d1 st1 v1 H1 M1 hq1 w1 e1 re1 rs1 r1 => ?_
  cases hm : (mutList st1 d1).isSome with
  | false => rw [hm] at w1; exact w1.elim
  | true =>
    rw [hm, if_pos rfl] at w1
    refine ⟨mut_ty rs1 r1 hm, ?_⟩
    have w1' : Wp (evCons fb evNil env st1) fun ds st2 => ∃ y, ds = [y] ∧ Wp (match mutList st2 d1, view st2 y with
      | some (l, xs), some (.lst ys) => if belows l ys && decide (xs.length + ys.length ≤ SZ) then R.ok D.non (st2.set l (.lst (xs ++ ys))) else .bad
      | _, _ => .bad) fun d st' => Want T B H M st' d Q := by
      have w2 := w1.bind
      unfold evCons evNil
      cases hq : fb env st1 with
      | ok y st2 => rw [hq] at w2; exact ⟨y, rfl, w2⟩
      | exc _ _ _ => rw [hq] at w2; exact w2
      | bad => rw [hq] at w2; exact w2
    refine rd_goA re1 rs1 w1' fun ds st2 vs H2 M2 _ w2 e2 re2 rs2 r2 => ?_
    obtain ⟨y, rfl, w2⟩ := w2
    cases r2 with
    | cons ry rn =>
      cases rn
      cases hm2 : mutList st2 d1 with
      | none => rw [hm2] at w2; exact w2.elim
      | some q =>
        obtain ⟨l, xs⟩ := q
        cases hv : view st2 y with
        | none => rw [hm2, hv] at w2; exact w2.elim
        | some z =>
          cases z with
          | lst ys =>
            rw [hm2, hv] at w2
            simp only at w2
            obtain ⟨p, ws, rfl, hp, e4, e5, e6⟩ := mut_list rs2 (r1.evo e2 e2.len) hm2
            obtain ⟨b', zs, rfl, hb', rz⟩ := view_rel rs2 ry hv
            split at w2
            · rename_i hc
              simp only [Bool.and_eq_true, decide_eq_true_eq] at hc
              refine ⟨p, b', ws, zs, rfl, rfl, e4, hb', by rw [← e5.length, ← rz.length, ← SZ_eq]; exact hc.2, ?_⟩
              exact Want.wrote rs2 hp (e5.append (rz.under hc.1)) (Want.evo (e1.trans e2) w2) .non
            · exact w2.elim
          | _ => rw [hm2, hv] at w2; exact w2.elim
def evPop (fa : EV) : EV := fun env st => (fa env st).bind fun x st1 => match mutList st1 x with
    | some (l, xs) => match xs[xs.length - 1]? with
      | some y => .ok y (st1.set l (.lst xs.dropLast))
      | none => .bad
    | none => .bad
theorem s_pop {apos : Pos} (ha : PE X a (rdE T fa)) (h0 : noCall0 a = true) (hl : (apos.endLine == pos.line) = true) : PE X (.Call (.Attribute a "pop" apos) [] [] pos) (rdE T (evPop fa)) := by
  refine PE.imp (pe_bm0 PySem.F.plainAttrs_list PySem.F.slot_list_pop PySem.F.type_list_pop mt_pop ha (base_ok h0) hl) fun σ H Q ⟨B, M, env, st, re, rs, w⟩ => ?_
  refine rd_go re rs (Wp.bind w) fun d1 st1 v1 H1 M1 hq1 w1 e1 re1 rs1 r1 => ?_
  cases hm : mutList st1 d1 with
  | none => rw [hm] at w1; exact w1.elim
  | some q =>
    obtain ⟨l, xs⟩ := q
    rw [hm] at w1
    simp only at w1
    obtain ⟨p, ws, rfl, hp, e4, e5, e6⟩ := mut_list rs1 r1 hm
    cases hx : xs[xs.length - 1]? with
    | none => rw [hx] at w1; exact w1.elim
    | some y =>
      rw [hx] at w1
      obtain ⟨vy, hvy, ry⟩ := e5.get hx
      refine ⟨.inl ⟨rfl, ws, SqL.of e4⟩, p, ws, vy, rfl, rfl, e4, by rw [← e5.length]; exact hvy, ?_⟩
      have hl' : l ≤ M1.length := Nat.le_of_lt (List.getElem?_eq_some_iff.mp hp).1
      exact Want.wrote rs1 hp e5.dropLast (Want.evo e1 w1) (ry.evo Evo.refl hl')
def evPopAt (fa fb : EV) : EV := fun env st => (fa env st).bind fun x st1 => if (mutList st1 x).isSome then (fb env st1).bind fun y st2 => match mutList st2 x, y with
      | some (l, xs), .int k => if 0 ≤ k ∧ k < 2 ^ 62 then match xs[k.toNat]? with
          | some z => .ok z (st2.set l (.lst (xs.eraseIdx k.toNat)))
          | none => .bad
        else .bad
      | _, _ => .bad
    else .bad
theorem s_popAt {apos : Pos} (ha : PE X a (rdE T fa)) (hb : PE X b (rdE T fb)) (h0 : noCall0 a = true) (h1 : noStar b = true) (hl : (apos.endLine == pos.line) = true) : PE X (.Call (.Attribute a "pop" apos) [b] [] pos) (rdE T (evPopAt fa fb)) := by
  refine PE.imp (pe_bm PySem.F.plainAttrs_list PySem.F.slot_list_pop PySem.F.type_list_pop mt_popAt ha (s_cons (T := T) hb s_nil h1) (base_ok h0) (few_ok h1) hl (star_cons h1 _) rfl) fun σ H Q ⟨B, M, env, st, re, rs, w⟩ => ?_
  refine rd_go re rs (Wp.bind w) fun d1 st1 v1 H1 M1 hq1 w1 e1 re1 rs1 r1 => ?_
  cases hm : (mutList st1 d1).isSome with
  | false => rw [hm] at w1; exact w1.elim
  | true =>
    rw [hm, if_pos rfl] at w1
    refine ⟨mut_ty rs1 r1 hm, ?_⟩
    have w1' : Wp (evCons fb evNil env st1) fun ds st2 => ∃ y, ds = [y] ∧ Wp (match mutList st2 d1, y with
      | some (l, xs), .int k => if 0 ≤ k ∧ k < 2 ^ 62 then match xs[k.toNat]? with
          | some z => R.ok z (st2.set l (.lst (xs.eraseIdx k.toNat)))
          | none => .bad
        else .bad
      | _, _ => .bad) fun d st' => Want T B H M st' d Q := by
      have w2 := w1.bind
      unfold evCons evNil
      cases hq : fb env st1 with
      | ok y st2 => rw [hq] at w2; exact ⟨y, rfl, w2⟩
      | exc _ _ _ => rw [hq] at w2; exact w2
      | bad => rw [hq] at w2; exact w2
    refine rd_goA re1 rs1 w1' fun ds st2 vs H2 M2 _ w2 e2 re2 rs2 r2 => ?_
    obtain ⟨y, rfl, w2⟩ := w2
    cases r2 with
    | cons ry rn =>
      cases rn
      cases hm2 : mutList st2 d1 with
      | none => rw [hm2] at w2; exact w2.elim
      | some q =>
        obtain ⟨l, xs⟩ := q
        rw [hm2] at w2
        obtain ⟨p, ws, rfl, hp, e4, e5, e6⟩ := mut_list rs2 (r1.evo e2 e2.len) hm2
        cases y with
        | int k =>
          simp only at w2
          split at w2
          · rename_i hc
            cases hx : xs[k.toNat]? with
            | none => rw [hx] at w2; exact w2.elim
            | some z =>
              rw [hx] at w2
              obtain ⟨vz, hvz, rz⟩ := e5.get hx
              obtain rfl := ry.int_inv
              have hlt : k.toNat < xs.length := (List.getElem?_eq_some_iff.mp hx).1
              have hl' : l ≤ M2.length := Nat.le_of_lt (List.getElem?_eq_some_iff.mp hp).1
              refine ⟨p, ws, k, k.toNat, vz, rfl, rfl, e4, by omega, by omega, ?_, hvz, ?_⟩
              · exact (ixN_seq (n := ws.length) (i := k) (by
                  unfold ixN
                  rw [if_pos hc.1, if_pos (by rw [← e5.length]; omega)])).1
              · exact Want.wrote rs2 hp (e5.eraseIdx _) (Want.evo (e1.trans e2) w2) (rz.evo Evo.refl hl')
          · exact w2.elim
        | _ => exact w2.elim
end
end MP

set_option Elab.async false
set_option linter.all false
set_option maxRecDepth 100000
set_option maxHeartbeats 1000000
/-! MP: what a loop walks -/
namespace MP
open PySem PySem.Spec PyProof.Rows L2 TL

mutual
theorem D.same_eq : ∀ {a b : D}, D.same a b = true → a = b
  | .non, b, h => by cases b <;> first | rfl | (simp [D.same] at h)
  | .bl x, b, h => by cases b <;> simp [D.same] at h; rw [h]
  | .int x, b, h => by cases b <;> simp [D.same] at h; rw [h]
  | .str x, b, h => by cases b <;> simp [D.same] at h; rw [h]
  | .tup x, b, h => by cases b <;> simp [D.same] at h; rw [D.sames_eq h]
  | .lst x, b, h => by cases b <;> simp [D.same] at h; rw [D.sames_eq h]
  | .dct x, b, h => by cases b <;> simp [D.same] at h; rw [D.samek_eq h]
  | .ref x, b, h => by cases b <;> simp [D.same] at h; rw [h]
  | .fn x, b, h => by cases b <;> simp [D.same] at h; rw [h]
  | .scr x, b, h => by cases b <;> simp [D.same] at h; rw [h]
theorem D.sames_eq : ∀ {a b : List D}, D.sames a b = true → a = b
  | [], [], _ => rfl
  | [], _ :: _, h => by simp [D.sames] at h
  | _ :: _, [], h => by simp [D.sames] at h
  | a :: as, b :: bs, h => by
    simp only [D.sames, Bool.and_eq_true] at h
    rw [D.same_eq h.1, D.sames_eq h.2]
theorem D.samek_eq : ∀ {a b : List (D × D)}, D.samek a b = true → a = b
  | [], [], _ => rfl
  | [], _ :: _, h => by simp [D.samek] at h
  | _ :: _, [], h => by simp [D.samek] at h
  | (a, c) :: as, (b, d) :: bs, h => by
    simp only [D.samek, Bool.and_eq_true] at h
    rw [D.same_eq h.1, D.same_eq h.2.1, D.samek_eq h.2.2]
end
theorem MObj.same_eq : ∀ {a b : MObj}, MObj.same a b = true → a = b
  | .lst a, .lst b, h => by rw [D.sames_eq (show D.sames a b = true from h)]
  | .dct a, .dct b, h => by rw [D.samek_eq (show D.samek a b = true from h)]
  | .lst a, .dct b, h => by cases h
  | .dct a, .lst b, h => by cases h

section
variable {T : Tb} {X : Cx}
/-- J walks the items -/
def Wk (T : Tb) (B : Addr → Prop) (J : It) (H : Hp) (M : List Addr) (g : Guard) (items : List D) : Prop :=
  ∀ i, i ≤ items.length → ∀ (B' : Addr → Prop) H' M' st', (∀ a o, H a = some o → B' a → B a) → Evo H M H' M' → RSt T H' M' B' st' → gok g st' = true →
    (i = items.length → J.stop i H') ∧ ∀ d, items[i]? = some d → J.go i H' ∧ ∀ x H2, J.yld i H' x H2 → Evo H' M' H2 M' ∧ RSt T H2 M' B' st' ∧ RD T H2 M' B' M'.length d x
variable {B : Addr → Prop} {M : List Addr} {H : Hp} {st : Store}
theorem get_none_len {α : Type} {xs : List α} {i : Nat} (h : i ≤ xs.length) (e : xs[i]? = none) : i = xs.length := by
  have := List.getElem?_eq_none_iff.mp e
  omega
theorem wk_list {a : Addr} {ds : List D} {g : Guard} (h : ∀ (B' : Addr → Prop) H' M' st', (∀ a o, H a = some o → B' a → B a) → Evo H M H' M' → RSt T H' M' B' st' → gok g st' = true → ∃ vs, H' a = some (.lst vs) ∧ RDs T H' M' B' M'.length ds vs) : Wk T B (Itl T.K a) H M g ds := by
  intro i hi B' H' M' st' hB e rs hg
  obtain ⟨vs, e1, r⟩ := h B' H' M' st' hB e rs hg
  refine ⟨fun ei => ⟨vs, SqL.of e1, by rw [ei, r.length]; exact Nat.le_refl _⟩, fun d hd => ?_⟩
  obtain ⟨v, hv, rd⟩ := r.get hd
  refine ⟨⟨vs, v, SqL.of e1, hv⟩, fun x H2 ⟨e2, y⟩ => ?_⟩
  subst e2
  have := y vs (SqL.of e1)
  rw [hv] at this; cases this
  exact ⟨Evo.refl, rs, rd⟩
theorem wk_tup {a : Addr} {ds : List D} {vs : List V} (hq : SqT T.K H a vs) (r : RDs T H M B M.length ds vs) : Wk T B (Itt T.K a) H M [] ds := by
  intro i hi B' H' M' st' hB e rs hg
  have r' : RDs T H' M' B' M'.length ds vs := (r.bar hB).evo e e.len
  have hq' : SqT T.K H' a vs := SqT.evo e hq
  refine ⟨fun ei => ⟨vs, hq', by rw [ei, r.length]; exact Nat.le_refl _⟩, fun d hd => ?_⟩
  obtain ⟨v, hv, rd⟩ := r'.get hd
  refine ⟨⟨vs, v, hq', hv⟩, fun x H2 ⟨e2, y⟩ => ?_⟩
  subst e2
  have := y vs hq'
  rw [hv] at this; cases this
  exact ⟨Evo.refl, rs, rd⟩
theorem chars_rd {s : List Nat} (hs : strOk s = true) {n i : Nat} {d : D} (hd : (s.map fun c => D.str [c])[i]? = some d) : ∃ c, s[i]? = some c ∧ d = .str [c] ∧ RD T H M B n d (.str ⟨#[c]⟩) := by
  rw [List.getElem?_map] at hd
  cases e : s[i]? with
  | none => rw [e] at hd; cases hd
  | some c =>
    rw [e] at hd
    have hd' : D.str [c] = d := Option.some.inj hd
    subst hd'
    refine ⟨c, rfl, rfl, ?_⟩
    have : strOk [c] = true := strOk_of (fun x hx => by
      rw [List.mem_singleton.mp hx]
      exact strOk_mem hs c (List.mem_of_getElem? e)) (by show 1 ≤ SZ; decide)
    exact .str this
theorem wk_str {s : List Nat} (hs : strOk s = true) : Wk T B (Its ⟨s.toArray⟩) H M [] (s.map fun c => D.str [c]) := by
  intro i hi B' H' M' st' hB e rs hg
  rw [List.length_map] at hi ⊢
  refine ⟨fun ei => by show (⟨s.toArray⟩ : Str).cps.size ≤ i; simp [ei], fun d hd => ?_⟩
  obtain ⟨c, hc, rfl, rd⟩ := chars_rd (T := T) (H := H') (M := M') (B := B') (n := M'.length) hs hd
  refine ⟨by show i < (⟨s.toArray⟩ : Str).cps.size; simpa using (List.getElem?_eq_some_iff.mp hc).1, fun x H2 ⟨e2, c', hc', y⟩ => ?_⟩
  subst e2 y
  have hc2 : s[i]? = some c' := by simpa using hc'
  rw [hc] at hc2; cases hc2
  exact ⟨Evo.refl, rs, rd⟩
theorem rangeN_get {lo : Int} {n i : Nat} {d : D} (h : (rangeN lo n)[i]? = some d) : i < n ∧ d = .int (lo + (i : Int)) := by
  unfold rangeN at h
  rw [List.getElem?_map] at h
  cases e : (List.range n)[i]? with
  | none => rw [e] at h; cases h
  | some k =>
    rw [e] at h
    obtain ⟨h1, h2⟩ := List.getElem?_eq_some_iff.mp e
    rw [List.getElem_range] at h2
    subst h2
    exact ⟨by simpa using h1, (Option.some.inj h).symm⟩
theorem rangeN_len (lo : Int) (n : Nat) : (rangeN lo n).length = n := by unfold rangeN; simp
theorem wk_rng (lo : Int) (n : Nat) : Wk T B (Itr lo n) H M [] (rangeN lo n) := by
  intro i hi B' H' M' st' hB e rs hg
  rw [rangeN_len] at hi ⊢
  refine ⟨fun ei => Nat.le_of_eq ei.symm, fun d hd => ?_⟩
  obtain ⟨hl, rfl⟩ := rangeN_get hd
  refine ⟨hl, fun x H2 ⟨e2, y⟩ => ?_⟩
  subst e2 y
  exact ⟨Evo.refl, rs, .int _⟩

/-! ### any sequence -/
def iSeq (K : PySem.W.Frag) (te : TE) : TI := fun σ H R => te σ H fun x H1 => (∃ a xs, x = .ref a ∧ SqL K H1 a xs ∧ R (Itl K a) H1) ∨ (∃ a xs, x = .ref a ∧ SqT K H1 a xs ∧ R (Itt K a) H1) ∨ ∃ y, x = .str y ∧ R (Its y) H1
theorem pi_seq {tg l : Expr} {tl : TE} (hl : PE X l tl) : PI X tg l (iSeq X.K tl) := by
  refine ⟨fun pins s σ H R I h => ?_⟩
  refine thn (hl.run pins s σ H _ I h) fun v s1 ⟨x, H1, I1, r1, q1⟩ => ?_
  rcases q1 with ⟨a, xs, e, hq, q⟩ | ⟨a, xs, e, hq, q⟩ | ⟨x, e, q⟩
  · subst e
    cases r1
    obtain ⟨its, rv, p, hz⟩ := I1.list hq
    refine wpAny_pyIter_list p.isList ?_
    exact pi_one (tk := s1.toks) I1 _ (turn_list a _) ⟨_, Heap.get?_push_size _ rfl, rfl, rfl⟩ q
  · subst e
    cases r1
    obtain ⟨its, rv, p, hz⟩ := I1.tuple hq
    refine wpAny_pyIter_tuple (show s1.heap.IsTuple a its.toArray from p) ?_
    exact pi_one (tk := s1.toks) I1 _ (turn_tuple a _) ⟨_, Heap.get?_push_size _ rfl, rfl, rfl⟩ q
  · subst e
    obtain ⟨t, rfl⟩ := r1
    cases ha : x.cps.all (· < 128)
    · exact wpAny_pyIter_wide ha (pi_one (tk := s1.toks) I1 _ (turn_str _ x t "str_iterator" (.inr rfl)) ⟨_, Heap.get?_push_size _ rfl, rfl, rfl⟩ q)
    · exact wpAny_pyIter_ascii ha (pi_one (tk := s1.toks) I1 _ (turn_str _ x t "str_ascii_iterator" (.inl rfl)) ⟨_, Heap.get?_push_size _ rfl, rfl, rfl⟩ q)

/-! ### sources of enumerate, zip -/
structure SrcD (T : Tb) (H : Hp) (M : List Addr) (B : Addr → Prop) (S : MPI.Src) (ds : List D) : Prop where
  st : ∀ H' M', Evo H M H' M' → S.stands T.K H'
  len : S.len = ds.length
  at_ : ∀ i d x, ds[i]? = some d → S.get i = some x → RD T H M B M.length d x
theorem srcOf_of {d : D} {v : V} {ds : List D} {R : MPI.Src → Prop} (r : RD T H M B M.length d v) (h : seqV d = some ds) (w : ∀ S, SrcD T H M B S ds → R S) : MPI.srcOf T.K H v R := by
  cases r with
  | lst h1 h2 h3 h4 =>
    cases h
    refine .inl ⟨_, _, rfl, SqL.of h1, w _ ⟨fun H' M' e => SqL.of (e.keep _ _ h1 h2), h4.length.symm, fun i d x e1 e2 => ?_⟩⟩
    exact h4.getV e1 e2
  | tup h1 h2 =>
    cases h
    refine .inr (.inl ⟨_, _, rfl, h1, w _ ⟨fun H' M' e => SqT.evo e h1, h2.length.symm, fun i d x e1 e2 => ?_⟩⟩)
    exact h2.getV e1 e2
  | @str s hs =>
    cases h
    refine .inr (.inr ⟨_, rfl, fun t => w _ ⟨fun H' M' e => trivial, by simp [MPI.Src.len], fun i d x e1 e2 => ?_⟩⟩)
    obtain ⟨c, hc, rfl, rd⟩ := chars_rd (T := T) (H := H) (M := M) (B := B) (n := M.length) hs e1
    have e2' : (s.toArray[i]?).map (fun c => V.str ⟨#[c]⟩) = some x := e2
    rw [List.getElem?_toArray, hc] at e2'
    cases e2'
    exact rd
  | _ => cases h
theorem enumN_len : ∀ (k : Nat) (xs : List D), (enumN k xs).length = xs.length
  | _, [] => rfl
  | k, x :: xs => by unfold enumN; rw [List.length_cons, List.length_cons, enumN_len (k + 1) xs]
theorem enumN_get : ∀ {k : Nat} {xs : List D} {i : Nat} {d : D}, (enumN k xs)[i]? = some d → ∃ x, xs[i]? = some x ∧ d = .tup [.int ((k + i : Nat) : Int), x]
  | _, [], i, d, h => by simp [enumN] at h
  | k, x :: xs, 0, d, h => by
    simp [enumN] at h
    exact ⟨x, by simp, h.symm⟩
  | k, x :: xs, i + 1, d, h => by
    simp only [enumN, List.getElem?_cons_succ] at h
    obtain ⟨y, h1, h2⟩ := enumN_get h
    refine ⟨y, by simpa using h1, ?_⟩
    rw [h2, show k + 1 + i = k + (i + 1) by omega]
theorem SrcD.get {S : MPI.Src} {ds : List D} (h : SrcD T H M B S ds) {i : Nat} (hi : i < ds.length) : i < S.len := by rw [h.len]; exact hi
theorem pair_new {H' : Hp} {M' : List Addr} {B' : Addr → Prop} {st' : Store} {p : Addr} {x y : V} {dx dy : D} (rs : RSt T H' M' B' st') (hp : H' p = none) (rx : RD T H' M' B' M'.length dx x) (ry : RD T H' M' B' M'.length dy y) :
    Evo H' M' (upd H' p (.tup [x, y])) M' ∧ RSt T (upd H' p (.tup [x, y])) M' B' st' ∧ RD T (upd H' p (.tup [x, y])) M' B' M'.length (.tup [dx, dy]) (.ref p) :=
  have e := Evo.laid hp
  ⟨e, rs.laid hp, .tup (.inl (.inl upd_same)) (.cons (rx.evo e (Nat.le_refl _)) (.cons (ry.evo e (Nat.le_refl _)) .nil))⟩
theorem wk_enum {S : MPI.Src} {ds : List D} (h : SrcD T H M B S ds) : Wk T B (MPI.ItE T.K S) H M [] (enumN 0 ds) := by
  intro i hi B' H' M' st' hB e rs hg
  rw [enumN_len] at hi ⊢
  refine ⟨fun ei => ⟨h.st _ _ e, by rw [h.len]; exact ei.symm⟩, fun d hd => ?_⟩
  obtain ⟨y, hy, rfl⟩ := enumN_get hd
  have hl := (List.getElem?_eq_some_iff.mp hy).1
  refine ⟨⟨h.st _ _ e, h.get hl⟩, fun x H2 ⟨p, z, e1, e2, e3, e4⟩ => ?_⟩
  subst e1 e3
  have := (h.at_ i y z hy e4).bar hB
  refine pair_new rs e2 ?_ (this.evo e e.len)
  rw [Nat.zero_add]
  exact .int _
theorem zipN_len : ∀ (xs ys : List D), (zipN xs ys).length = min xs.length ys.length
  | [], ys => by simp [zipN]
  | x :: xs, [] => by simp [zipN]
  | x :: xs, y :: ys => by
    simp only [zipN, List.length_cons, zipN_len xs ys]
    omega
theorem zipN_get : ∀ {xs ys : List D} {i : Nat} {d : D}, (zipN xs ys)[i]? = some d → ∃ x y, xs[i]? = some x ∧ ys[i]? = some y ∧ d = .tup [x, y]
  | [], ys, i, d, h => by simp [zipN] at h
  | x :: xs, [], i, d, h => by simp [zipN] at h
  | x :: xs, y :: ys, 0, d, h => by
    simp [zipN] at h
    exact ⟨x, y, by simp, by simp, h.symm⟩
  | x :: xs, y :: ys, i + 1, d, h => by
    simp only [zipN, List.getElem?_cons_succ] at h
    obtain ⟨a, b, h1, h2, h3⟩ := zipN_get h
    exact ⟨a, b, by simpa using h1, by simpa using h2, h3⟩
theorem wk_zip {S U : MPI.Src} {ds es : List D} (h : SrcD T H M B S ds) (h' : SrcD T H M B U es) : Wk T B (MPI.ItZ T.K S U) H M [] (zipN ds es) := by
  intro i hi B' H' M' st' hB e rs hg
  rw [zipN_len] at hi ⊢
  refine ⟨fun ei => ⟨h.st _ _ e, h'.st _ _ e, by rw [h.len]; omega, by rw [h'.len]; omega, by rw [h.len, h'.len]; omega⟩, fun d hd => ?_⟩
  obtain ⟨y, z, hy, hz, rfl⟩ := zipN_get hd
  refine ⟨⟨h.st _ _ e, h'.st _ _ e, h.get (List.getElem?_eq_some_iff.mp hy).1, h'.get (List.getElem?_eq_some_iff.mp hz).1⟩, fun x H2 ⟨p, u, v, e1, e2, e3, e4, e5⟩ => ?_⟩
  subst e1 e3
  have q1 := (h.at_ i y u hy e4).bar hB
  have q2 := (h'.at_ i z v hz e5).bar hB
  exact pair_new rs e2 (q1.evo e e.len) (q2.evo e e.len)

/-! ### the reading of an iterable -/
def rdI (T : Tb) (fs : EVs) (k : IK) : TI := fun σ H R => ∃ B M env st, RE T H M B env σ ∧ RSt T H M B st ∧ Wp (fs env st) fun ds st1 => ∃ items g, itemsOf st1 k ds = some (items, g) ∧ ∀ J H1 M1, Evo H M H1 M1 → RSt T H1 M1 B st1 → gok g st1 = true → Wk T B J H1 M1 g items → R J H1
theorem PI.imp {tg iter : Expr} {t t' : TI} (h : PI X tg iter t) (w : ∀ σ H R, t' σ H R → t σ H R) : PI X tg iter t' := ⟨fun pins s σ H R I q => h.run pins s σ H R I (w σ H R q)⟩
theorem D.same_self : ∀ a : D, D.same a a = true := by
  suffices h : (∀ a : D, D.same a a = true) from h
  intro a
  exact D.rec (motive_1 := fun a => D.same a a = true) (motive_2 := fun a => D.sames a a = true) (motive_3 := fun a => D.samek a a = true) (motive_4 := fun p => D.same p.1 p.1 = true ∧ D.same p.2 p.2 = true)
    (by simp [D.same]) (by intro b; simp [D.same]) (by intro b; simp [D.same]) (by intro b; simp [D.same]) (by intro b h; simp [D.same, h]) (by intro b h; simp [D.same, h]) (by intro b h; simp [D.same, h]) (by intro b; simp [D.same]) (by intro b; simp [D.same]) (by intro b; simp [D.same])
    (by simp [D.sames]) (by intro a b h h'; simp [D.sames, h, h']) (by simp [D.samek]) (by intro ⟨a, c⟩ b h h'; simp [D.samek, h.1, h.2, h']) (by intro a b h h'; exact ⟨h, h'⟩) a
theorem MObj.same_self (o : MObj) : MObj.same o o = true := by
  cases o with
  | lst xs => have := D.same_self (.lst xs); simpa [D.same, MObj.same] using this
  | dct xs => have := D.same_self (.dct xs); simpa [D.same, MObj.same] using this
theorem s_iseq {tg e : Expr} {fa : EV} (hK : X.K = T.K) (ha : PE X e (rdE T fa)) : PI X tg e (rdI T (evCons fa evNil) .seq) := by
  refine PI.imp (pi_seq ha) fun σ H R ⟨B, M, env, st, re, rs, w⟩ => ?_
  rw [hK]
  have w0 : Wp (fa env st) fun d st1 => ∃ items g, seqItems st1 d = some (items, g) ∧ ∀ J H1 M1, Evo H M H1 M1 → RSt T H1 M1 B st1 → gok g st1 = true → Wk T B J H1 M1 g items → R J H1 := (Wp.bind w).mono fun d st1 w1 => w1
  refine rd_go re rs w0 fun d1 st1 v1 H1 M1 _ w1 e1 re1 rs1 r1 => ?_
  obtain ⟨items, g, hi, w2⟩ := w1
  have w3 := fun J hg => w2 J H1 M1 e1 rs1 hg
  clear w2 w0 w
  unfold seqItems at hi
  cases r1 with
  | lst h1 h2 h3 h4 =>
    cases hi
    exact .inl ⟨_, _, rfl, SqL.of h1, w3 _ rfl (wk_list fun B' H' M' st' hB e rs' _ => ⟨_, e.keep _ _ h1 h2, (h4.bar hB).evo e e.len⟩)⟩
  | tup h1 h2 =>
    cases hi
    exact .inr (.inl ⟨_, _, rfl, h1, w3 _ rfl (wk_tup h1 h2)⟩)
  | str hs =>
    cases hi
    exact .inr (.inr ⟨_, rfl, w3 _ rfl (wk_str hs)⟩)
  | @ref l a hl hm =>
    unfold view at hi
    simp only at hi
    cases q : st1[l]? with
    | none => rw [q] at hi; cases hi
    | some o =>
      rw [q] at hi
      cases o with
      | dct xs => cases hi
      | lst xs =>
        have hi' : (xs, guardOf st1 (.ref l)) = (items, g) := Option.some.inj hi
        obtain ⟨rfl, rfl⟩ : xs = items ∧ guardOf st1 (.ref l) = g := ⟨congrArg Prod.fst hi', congrArg Prod.snd hi'⟩
        have hgd : guardOf st1 (.ref l) = [(l, .lst xs)] := by unfold guardOf; simp only; rw [q]
        rw [hgd] at w3
        obtain ⟨vs, e2, _⟩ := rs1.at_ l a _ hm q
        refine .inl ⟨_, vs, rfl, SqL.of e2, w3 _ ?_ (wk_list fun B' H' M' st' hB e rs' hg => ?_)⟩
        · unfold gok
          simp [q, MObj.same_self]
        · have hs : st'[l]? = some (.lst xs) := by
            unfold gok at hg
            simp only [List.all_cons, List.all_nil, Bool.and_true] at hg
            cases q2 : st'[l]? with
            | none => rw [q2] at hg; cases hg
            | some o => rw [q2] at hg; rw [MObj.same_eq hg]
          obtain ⟨ws, e3, r3⟩ := rs'.at_ l a _ (e.pre _ _ hm) hs
          exact ⟨ws, e3, r3.evo Evo.refl (Nat.le_of_lt (List.getElem?_eq_some_iff.mp (e.pre _ _ hm)).1)⟩
  | non => cases hi
  | bl b => cases hi
  | int b => cases hi
  | dct _ _ _ _ => cases hi
  | fn f => cases hi
  | scr _ => cases hi
theorem wp1 {α : Type} {fa : EV} {env : MEnv} {st : Store} {P : List D → Store → Prop} (w : Wp (evCons fa evNil env st) P) : Wp (evCons fa evNil env st) fun ds st1 => (∃ d, ds = [d]) ∧ P ds st1 := by
  have w0 : Wp (fa env st) fun d st1 => P [d] st1 := (Wp.bind w).mono fun d st1 h => h
  unfold evCons evNil
  cases e : fa env st with
  | ok d st1 => rw [e] at w0; exact ⟨⟨d, rfl⟩, w0⟩
  | exc c p s => rw [e] at w0; exact w0
  | bad => rw [e] at w0; exact w0
theorem wp2 {fa fb : EV} {env : MEnv} {st : Store} {P : List D → Store → Prop} (w : Wp (evCons fa (evCons fb evNil) env st) P) : Wp (evCons fa (evCons fb evNil) env st) fun ds st1 => (∃ d e, ds = [d, e]) ∧ P ds st1 := by
  have w0 : Wp (fa env st) fun d st1 => Wp (fb env st1) fun e st2 => P [d, e] st2 := (Wp.bind w).mono fun d st1 h => (Wp.bind (Wp.bind h)).mono fun e st2 h' => h'
  unfold evCons evNil
  cases e : fa env st with
  | ok d st1 =>
    rw [e] at w0
    have w1 : Wp (fb env st1) fun e st2 => P [d, e] st2 := w0
    show Wp (((fb env st1).bind fun d st1 => (R.ok [] st1).bind fun ds st2 => R.ok (d :: ds) st2).bind fun ds st2 => R.ok (d :: ds) st2) _
    cases e2 : fb env st1 with
    | ok d2 st2 => rw [e2] at w1; exact ⟨⟨d, d2, rfl⟩, w1⟩
    | exc c p s => rw [e2] at w1; exact w1
    | bad => rw [e2] at w1; exact w1
  | exc c p s => rw [e] at w0; exact w0
  | bad => rw [e] at w0; exact w0
theorem items_rng1 {st1 : Store} {d : D} {items : List D} {g : Guard} (h : itemsOf st1 .rng [d] = some (items, g)) : ∃ j, d = .int j ∧ smallI j = true ∧ items = rangeN 0 j.toNat ∧ g = [] := by
  cases d with
  | int j =>
    have h' : (if smallI j then some (rangeN 0 j.toNat, ([] : Guard)) else none) = some (items, g) := h
    split at h'
    · cases h'; exact ⟨j, rfl, by assumption, rfl, rfl⟩
    · cases h'
  | _ => cases h
theorem items_rng2 {st1 : Store} {d d2 : D} {items : List D} {g : Guard} (h : itemsOf st1 .rng [d, d2] = some (items, g)) : ∃ i j, d = .int i ∧ d2 = .int j ∧ smallI i = true ∧ smallI j = true ∧ items = rangeN i (j - i).toNat ∧ g = [] := by
  cases d with
  | int i =>
    cases d2 with
    | int j =>
      have h' : (if (smallI i && smallI j) = true then some (rangeN i (j - i).toNat, ([] : Guard)) else none) = some (items, g) := h
      split at h'
      · rename_i hk
        rw [Bool.and_eq_true] at hk
        cases h'; exact ⟨i, j, rfl, rfl, hk.1, hk.2, rfl, rfl⟩
      · cases h'
    | _ => cases h
  | _ => cases d2 <;> cases h
theorem s_irng1 {tg e : Expr} {fa : EV} {p pos : Pos} (hg : Gl X "range") (hm : X.mg "range" = none) (ha : PE X e (rdE T fa)) (h1 : noStar e = true) : PI X tg (.Call (.Name "range" p) [e] [] pos) (rdI T (evCons fa evNil) .rng) := by
  refine PI.imp (pi_range1 hg hm (s_cons (T := T) ha s_nil h1) (by rw [star_cons h1]; rfl)) fun σ H R ⟨B, M, env, st, re, rs, w⟩ => ?_
  refine rd_goA re rs (wp1 (α := Unit) w) fun ds st1 vs H1 M1 _ w1 e1 re1 rs1 r1 => ?_
  obtain ⟨⟨d, rfl⟩, items, g, hi, w2⟩ := w1
  obtain ⟨j, rfl, hj, rfl, rfl⟩ := items_rng1 hi
  cases r1 with
  | cons r rr =>
    cases rr
    obtain rfl := r.int_inv
    have := small_ok hj
    exact ⟨j, rfl, this.1, this.2, w2 _ H1 M1 e1 rs1 rfl (wk_rng 0 j.toNat)⟩
theorem s_irng2 {tg e e2 : Expr} {fa fb : EV} {p pos : Pos} (hg : Gl X "range") (hm : X.mg "range" = none) (ha : PE X e (rdE T fa)) (hb : PE X e2 (rdE T fb)) (h1 : noStar e = true) (h2 : noStar e2 = true) : PI X tg (.Call (.Name "range" p) [e, e2] [] pos) (rdI T (evCons fa (evCons fb evNil)) .rng) := by
  refine PI.imp (pi_range2 hg hm (s_cons (T := T) ha (s_cons hb s_nil h2) h1) (by rw [star_cons h1, star_cons h2]; rfl) (by rw [star_cons h2]; rfl)) fun σ H R ⟨B, M, env, st, re, rs, w⟩ => ?_
  refine rd_goA re rs (wp2 w) fun ds st1 vs H1 M1 _ w1 e1 re1 rs1 r1 => ?_
  obtain ⟨⟨d, d2, rfl⟩, items, g, hi, w2⟩ := w1
  obtain ⟨i, j, rfl, rfl, hk1, hk2, rfl, rfl⟩ := items_rng2 hi
  cases r1 with
  | cons r rr =>
    cases rr with
    | cons r' rr =>
      cases rr
      obtain rfl := r.int_inv
      obtain rfl := r'.int_inv
      have q1 := small_ok hk1
      have q2 := small_ok hk2
      exact ⟨i, j, rfl, ⟨q1.1, q1.2, q2.1, q2.2⟩, w2 _ H1 M1 e1 rs1 rfl (wk_rng i _)⟩
theorem s_ienum {e : Expr} {elts : List Expr} {kk : Nat} {tpos : Pos} {fa : EV} {p pos : Pos} (hK : X.K = T.K) (hg : Gl X "enumerate") (hm : X.mg "enumerate" = none) (ha : PE X e (rdE T fa)) (h1 : noStar e = true) : PI X (.Tuple elts kk tpos) (.Call (.Name "enumerate" p) [e] [] pos) (rdI T (evCons fa evNil) .enum) := by
  refine PI.imp (MPI.pi_enumS hg hm (s_cons (T := T) ha s_nil h1) (by rw [star_cons h1]; rfl)) fun σ H R ⟨B, M, env, st, re, rs, w⟩ => ?_
  rw [hK]
  refine rd_goA re rs (wp1 (α := Unit) w) fun ds st1 vs H1 M1 _ w1 e1 re1 rs1 r1 => ?_
  obtain ⟨⟨d, rfl⟩, items, g, hi, w2⟩ := w1
  have hi' : ((seqV d).map fun p => (enumN 0 p, ([] : Guard))) = some (items, g) := hi
  cases hv : seqV d with
  | none => rw [hv] at hi'; cases hi'
  | some xs =>
    rw [hv] at hi'
    cases hi'
    cases r1 with
    | cons r rr =>
      cases rr
      exact ⟨_, rfl, srcOf_of r hv fun S hS => w2 _ H1 M1 e1 rs1 rfl (wk_enum hS)⟩
theorem s_izip {e e2 : Expr} {elts : List Expr} {kk : Nat} {tpos : Pos} {fa fb : EV} {p pos : Pos} (hK : X.K = T.K) (hg : Gl X "zip") (hm : X.mg "zip" = none) (ha : PE X e (rdE T fa)) (hb : PE X e2 (rdE T fb)) (h1 : noStar e = true) (h2 : noStar e2 = true) : PI X (.Tuple elts kk tpos) (.Call (.Name "zip" p) [e, e2] [] pos) (rdI T (evCons fa (evCons fb evNil)) .zip) := by
  refine PI.imp (MPI.pi_zipS hg hm (s_cons (T := T) ha (s_cons hb s_nil h2) h1) (star_cons h1 _) (star_any (by simp [h2]))) fun σ H R ⟨B, M, env, st, re, rs, w⟩ => ?_
  rw [hK]
  refine rd_goA re rs (wp2 w) fun ds st1 vs H1 M1 _ w1 e1 re1 rs1 r1 => ?_
  obtain ⟨⟨d, d2, rfl⟩, items, g, hi, w2⟩ := w1
  have hi' : ((seqV d).bind fun p => (seqV d2).map fun q => (zipN p q, ([] : Guard))) = some (items, g) := hi
  cases hv : seqV d with
  | none => rw [hv] at hi'; cases hi'
  | some xs =>
    rw [hv] at hi'
    cases hv2 : seqV d2 with
    | none => rw [hv2] at hi'; cases hi'
    | some ys =>
      rw [hv2] at hi'
      cases hi'
      cases r1 with
      | cons r rr =>
        cases rr with
        | cons r' rr =>
          cases rr
          exact ⟨_, _, rfl, srcOf_of r hv fun S hS => srcOf_of r' hv2 fun U hU => w2 _ H1 M1 e1 rs1 rfl (wk_zip hS hU)⟩
end
end MP

set_option Elab.async false
set_option linter.all false
set_option maxRecDepth 100000
set_option maxHeartbeats 1000000
/-! MP: chains of comparisons; what a barred place may do; comprehensions -/
namespace MP
open PySem PySem.Spec PyProof.Rows L2 TL
section
variable {T : Tb} {X : Cx} {pos : Pos} {a b c e : Expr} {es : List Expr} {fa fb fc : EV}
def evChain (op op2 : Cop) (fa fb fc : EV) : EV := fun env st => (fa env st).bind fun x st1 => (fb env st1).bind fun y st2 =>
      (ofO ((view st2 x).bind fun x' => (view st2 y).bind fun y' => evCmp op x' y') st2).bind fun k st3 => if k = true then
        (fc env st3).bind fun z st4 => ofO ((view st4 y).bind fun y' => (view st4 z).bind fun z' => (evCmp op2 y' z').map .bl) st4
      else .ok (.bl false) st3
theorem bind2_some {α β γ : Type} {o : Option α} {p : Option β} {f : α → β → Option γ} {r : γ} (h : (o.bind fun x => p.bind fun y => f x y) = some r) : ∃ x y, o = some x ∧ p = some y ∧ f x y = some r := by
  cases o with
  | none => cases h
  | some x =>
    cases p with
    | none => cases h
    | some y => exact ⟨x, y, rfl, rfl, h⟩
theorem chain_rd {op op2 : Cop} {σ : L2.St} {H : Hp} {Q : VK} (h : rdE T (evChain op op2 fa fb fc) σ H Q) : tChain (rCmp T op) (rCmp T op2) (rdE T fa) (rdE T fb) (rdE T fc) σ H Q := by
  obtain ⟨B, M, env, st, re, rs, w⟩ := h
  refine rd_go re rs (Wp.bind w) fun d1 st1 v1 H1 M1 _ w1 e1 re1 rs1 r1 => ?_
  refine rd_go re1 rs1 w1.bind fun d2 st2 v2 H2 M2 _ w2 e2 re2 rs2 r2 => ?_
  obtain ⟨k, hk, w3⟩ := w2.bind.ofO
  obtain ⟨x', y', h1, h2, h3⟩ := bind2_some hk
  refine ⟨M2, B, st2, d1, d2, x', y', k, r1.evo e2 e2.len, r2, rs2, h1, h2, h3, k, rfl, ?_⟩
  have e12 := e1.trans e2
  cases k with
  | false => exact Want.here rs2 (Want.evo e12 w3) (.bl _)
  | true =>
    rw [if_pos rfl] at w3 ⊢
    refine rd_go re2 rs2 w3.bind fun d3 st3 v3 H3 M3 _ w4 e3 re3 rs3 r3 => ?_
    obtain ⟨d, hd, w5⟩ := w4.ofO
    obtain ⟨y', z', g1, g2, g3⟩ := bind2_some hd
    cases g4 : evCmp op2 y' z' with
    | none => simp [g4] at g3
    | some k =>
      simp [g4] at g3
      subst g3
      exact ⟨M3, B, st3, d2, d3, y', z', k, r2.evo e3 e3.len, r3, rs3, g1, g2, g4, Want.here rs3 (Want.evo (e12.trans e3) w5) (.bl _)⟩
theorem s_chain (hK : X.K = T.K) (hu : X.A.units + 66 < cLine) (op op2 : Cop) (ha : PE X a (rdE T fa)) (hb : PE X b (rdE T fb)) (hc : PE X c (rdE T fc)) (hm : lastMarks [cOf op, cOf op2] [b, c] = false) : PE X (.Compare a [cOf op, cOf op2] [b, c] pos) (rdE T (evChain op op2 fa fb fc)) :=
  PE.imp (pe_chain (op_cmp hK hu op) (op_cmp hK hu op2) ha hb hc hm) fun σ H Q h => chain_rd h
theorem s_chainT (hK : X.K = T.K) (hu : X.A.units + 66 < cLine) (op op2 : Cop) (ha : PE X a (rdE T fa)) (hb : PE X b (rdE T fb)) (hc : PE X c (rdE T fc)) (hm : lastMarks [cOf op, cOf op2] [b, c] = false) : PT X (.Compare a [cOf op, cOf op2] [b, c] pos) (rdT T (evChain op op2 fa fb fc)) := by
  refine PT.imp (pt_chain (op_cmp hK hu op) (op_cmp hK hu op2) ha hb hc hm) fun σ H Q ⟨B, M, env, st, re, rs, w⟩ => ?_
  refine chain_rd ⟨B, M, env, st, re, rs, w.mono fun d st' ⟨k, hk, w2⟩ v H' M' e rs' r => ?_⟩
  rw [truth_bl hk] at r
  exact ⟨k, r.bl_inv, w2 H' M' e rs'⟩
/-! ### a barred place is written -/
section
variable {H : Hp} {M : List Addr} {B : Addr → Prop} {n : Nat} {p : Addr} {o o' : HO}
theorem SqT.over {K : PySem.W.Frag} {a : Addr} {vs : List V} (hp : H p = some o) (mu : Mut (some o)) (h : SqT K H a vs) : SqT K (upd H p o') a vs := by
  rcases h with (h | ⟨u, h⟩) | h
  · refine .inl (.inl ?_)
    rw [upd_ne]; exact h
    rintro rfl
    rw [hp] at h; cases h; exact mu
  · refine .inl (.inr ⟨u, ?_⟩)
    rw [upd_ne]; exact h
    rintro rfl
    rw [hp] at h; cases h; exact mu
  · exact .inr h
mutual
theorem RD.over (hb : B p) (hp : H p = some o) (mu : Mut (some o)) : ∀ {d : D} {v : V}, RD T H M B n d v → RD T (upd H p o') M B n d v
  | _, _, .non => .non
  | _, _, .bl b => .bl b
  | _, _, .int i => .int i
  | _, _, .str h => .str h
  | _, _, .tup h r => .tup (SqT.over hp mu h) (RDs.over hb hp mu r)
  | _, _, .lst h hm hn r => .lst (by rw [upd_ne (fun z => hn (by rw [z]; exact hb))]; exact h) hm hn (RDs.over hb hp mu r)
  | _, _, .dct h hm hn r => .dct (by rw [upd_ne (fun z => hn (by rw [z]; exact hb))]; exact h) hm hn (RDk.over hb hp mu r)
  | _, _, .ref h hm => .ref h hm
  | _, _, .fn f => .fn f
  | _, _, .scr h => .scr (h.imp (fun ⟨u, h⟩ => ⟨u, by
      rw [upd_ne]; exact h
      rintro rfl
      rw [hp] at h; cases h; exact mu⟩) id)
theorem RDs.over (hb : B p) (hp : H p = some o) (mu : Mut (some o)) : ∀ {d : List D} {v : List V}, RDs T H M B n d v → RDs T (upd H p o') M B n d v
  | _, _, .nil => .nil
  | _, _, .cons h r => .cons (RD.over hb hp mu h) (RDs.over hb hp mu r)
theorem RDk.over (hb : B p) (hp : H p = some o) (mu : Mut (some o)) : ∀ {d : List (D × D)} {v : List (Key × V)}, RDk T H M B n d v → RDk T (upd H p o') M B n d v
  | _, _, .nil => .nil
  | _, _, .cons h r => .cons (RD.over hb hp mu h) (RDk.over hb hp mu r)
end
theorem RSt.over {st : Store} (h : RSt T H M B st) (hb : B p) (hp : H p = some o) (mu : Mut (some o)) : RSt T (upd H p o') M B st where
  len := h.len
  nd := h.nd
  at_ := fun l a ob e1 e2 => by
    have hne : a ≠ p := fun z => (h.bar p hb).2 (z ▸ List.mem_of_getElem? e1)
    have := h.at_ l a ob e1 e2
    cases ob with
    | lst ds => obtain ⟨vs, q, r⟩ := this; exact ⟨vs, by rw [upd_ne hne]; exact q, r.over hb hp mu⟩
    | dct ds => obtain ⟨vs, q, r⟩ := this; exact ⟨vs, by rw [upd_ne hne]; exact q, r.over hb hp mu⟩
  bar := fun b hb' => ⟨by
    by_cases e : b = p
    · rw [e, upd_same]; simp
    · rw [upd_ne e]; exact (h.bar b hb').1, (h.bar b hb').2⟩
theorem RE.over {env : MEnv} {σ : L2.St} (h : RE T H M B env σ) (hb : B p) (hp : H p = some o) (mu : Mut (some o)) : RE T (upd H p o') M B env σ :=
  ⟨h.len, fun i d q => let ⟨v, a, r⟩ := h.at_ i d q; ⟨v, a, r.over hb hp mu⟩⟩
/-- since H0, where nothing stood at p -/
theorem Evo.over {H0 : Hp} {M0 : List Addr} (e : Evo H0 M0 H M) (h0 : H0 p = none) : Evo H0 M0 (upd H p o') M :=
  ⟨fun a u h hm => by rw [upd_ne (ne_of_none h h0)]; exact e.keep a u h hm, fun a xs h => by rw [upd_ne (ne_of_none h h0)]; exact e.tups a xs h, fun a u v h => by rw [upd_ne (ne_of_none h h0)]; exact e.frzs a u v h, e.pre, e.new⟩
theorem RE.bar {B' : Addr → Prop} {env : MEnv} {σ : L2.St} (h : RE T H M B env σ) (hB : ∀ a o, H a = some o → B' a → B a) : RE T H M B' env σ := ⟨h.len, fun i d q => let ⟨v, a, r⟩ := h.at_ i d q; ⟨v, a, r.bar hB⟩⟩
theorem RO.bar {B' : Addr → Prop} {l : Nat} {ob : MObj} {a : Addr} (h : RO T H M B l ob a) (hB : ∀ a o, H a = some o → B' a → B a) : RO T H M B' l ob a := by
  cases ob with
  | lst ds => obtain ⟨vs, q, r⟩ := h; exact ⟨vs, q, r.bar hB⟩
  | dct ds => obtain ⟨vs, q, r⟩ := h; exact ⟨vs, q, r.bar hB⟩
/-- one more barred place, new -/
def more (B : Addr → Prop) (p : Addr) : Addr → Prop := fun a => B a ∨ a = p
theorem more_bar (h : H p = none) : ∀ a o, H a = some o → more B p a → B a := fun a o e h' => h'.elim id fun z => by rw [z, h] at e; cases e
theorem RSt.barMore {st : Store} (h : RSt T H M B st) (hp : H p = none) : RSt T (upd H p o') M (more B p) st where
  len := h.len
  nd := h.nd
  at_ := fun l a ob e1 e2 => by
    have q := h.at_ l a ob e1 e2
    have hne : a ≠ p := by
      obtain ⟨u, e, _⟩ := q.mut
      exact ne_of_none e hp
    exact (q.bar (more_bar hp)).evo (Evo.laid hp) (upd_ne hne)
  bar := fun b hb => by
    rcases hb with hb | rfl
    · have := h.bar b hb
      refine ⟨?_, this.2⟩
      by_cases e : b = p
      · rw [e, upd_same]; simp
      · rw [upd_ne e]; exact this.1
    · exact ⟨by rw [upd_same]; simp, (h.fresh hp).1⟩
theorem RSt.less {st : Store} (h : RSt T H M (more B p) st) : RSt T H M B st :=
  ⟨h.len, h.nd, fun l a ob e1 e2 => (h.at_ l a ob e1 e2).bar fun _ _ _ z => .inl z, fun b hb => h.bar b (.inl hb)⟩
mutual
/-- a barred place becomes a mutable one -/
theorem RD.adopt : ∀ {d : D} {v : V}, RD T H M (more B p) n d v → RD T H (M ++ [p]) B n d v
  | _, _, .non => .non
  | _, _, .bl b => .bl b
  | _, _, .int i => .int i
  | _, _, .str h => .str h
  | _, _, .tup h r => .tup h (RDs.adopt r)
  | _, _, .lst h hm hn r => .lst h (fun z => (List.mem_append.mp z).elim hm fun z => hn (.inr (List.mem_singleton.mp z))) (fun z => hn (.inl z)) (RDs.adopt r)
  | _, _, .dct h hm hn r => .dct h (fun z => (List.mem_append.mp z).elim hm fun z => hn (.inr (List.mem_singleton.mp z))) (fun z => hn (.inl z)) (RDk.adopt r)
  | _, _, .ref h hm => .ref h (by rw [List.getElem?_append_left (List.getElem?_eq_some_iff.mp hm).1]; exact hm)
  | _, _, .fn f => .fn f
  | _, _, .scr h => .scr h
theorem RDs.adopt : ∀ {d : List D} {v : List V}, RDs T H M (more B p) n d v → RDs T H (M ++ [p]) B n d v
  | _, _, .nil => .nil
  | _, _, .cons h r => .cons (RD.adopt h) (RDs.adopt r)
theorem RDk.adopt : ∀ {d : List (D × D)} {v : List (Key × V)}, RDk T H M (more B p) n d v → RDk T H (M ++ [p]) B n d v
  | _, _, .nil => .nil
  | _, _, .cons h r => .cons (RD.adopt h) (RDk.adopt r)
end
theorem RSt.adopt {st : Store} {ds : List D} {vs : List V} (h : RSt T H M (more B p) st) (hB : ¬ B p) (hp : H p = some (.lst vs)) (r : RDs T H M (more B p) M.length ds vs) : RSt T H (M ++ [p]) B (st ++ [.lst ds]) where
  len := by rw [List.length_append, List.length_append, h.len]; rfl
  nd := List.nodup_append.mpr ⟨h.nd, List.nodup_cons.mpr ⟨by simp, List.nodup_nil⟩, fun a ha b hb e => by
    rw [List.mem_singleton.mp hb] at e
    exact (h.bar p (.inr rfl)).2 (e ▸ ha)⟩
  at_ := fun l a ob e1 e2 => by
    by_cases hl : l < M.length
    · rw [List.getElem?_append_left hl] at e1
      rw [List.getElem?_append_left (by rw [← h.len]; exact hl)] at e2
      have q := h.at_ l a ob e1 e2
      cases ob with
      | lst ds => obtain ⟨vs, q, r⟩ := q; exact ⟨vs, q, r.adopt⟩
      | dct ds => obtain ⟨vs, q, r⟩ := q; exact ⟨vs, q, r.adopt⟩
    · have hl' : l < (M ++ [p]).length := (List.getElem?_eq_some_iff.mp e1).1
      have : l = M.length := by simp at hl'; omega
      subst this
      rw [List.getElem?_append_right (Nat.le_refl _), Nat.sub_self] at e1
      rw [h.len, List.getElem?_append_right (Nat.le_refl _), Nat.sub_self] at e2
      have e1' : p = a := by simpa using e1
      have e2' : MObj.lst ds = ob := by simpa using e2
      rw [← e1', ← e2']
      exact ⟨vs, hp, r.adopt⟩
  bar := fun b hb => ⟨(h.bar b (.inl hb)).1, fun q => by
    rcases List.mem_append.mp q with q | q
    · exact (h.bar b (.inl hb)).2 q
    · exact hB (List.mem_singleton.mp q ▸ hb)⟩
end
end
end MP

set_option Elab.async false
set_option linter.all false
set_option maxRecDepth 100000
set_option maxHeartbeats 1000000
/-! MP: targets and comprehensions -/
namespace MP
open PySem PySem.Spec PyProof.Rows L2 TL
section
variable {T : Tb} {X : Cx} {pos : Pos} {H : Hp} {M : List Addr} {B : Addr → Prop}
theorem wipe_get (σ : L2.St) (vs : List Nat) (i : Nat) : (wipe σ vs)[i]? = if i ∈ vs then (σ[i]?).map (fun _ => none) else σ[i]? := by
  induction vs with
  | nil => simp [wipe]
  | cons v vs ih =>
    unfold wipe
    by_cases hi : v = i
    · subst hi
      by_cases hl : v < σ.length
      · rw [List.getElem?_set_self (by rw [wipe_length]; exact hl)]
        simp [List.getElem?_eq_getElem hl]
      · have h1 : (wipe σ vs).length ≤ v := by rw [wipe_length]; omega
        rw [List.set_eq_of_length_le h1, List.getElem?_eq_none h1]
        simp [List.getElem?_eq_none (Nat.le_of_not_lt hl)]
    · rw [List.getElem?_set_ne hi, ih]
      have : i ∈ v :: vs ↔ i ∈ vs := by
        rw [List.mem_cons]
        exact ⟨fun h => h.elim (fun z => absurd z.symm hi) id, .inr⟩
      simp only [this]
theorem wipe_set {σ : L2.St} {vs : List Nat} {i : Nat} {x : Option V} (hi : i ∈ vs) : wipe (σ.set i x) vs = wipe σ vs := by
  apply List.ext_getElem?
  intro j
  rw [wipe_get, wipe_get]
  by_cases hj : j ∈ vs
  · rw [if_pos hj, if_pos hj]
    by_cases e : i = j
    · subst e
      by_cases hl : i < σ.length
      · rw [List.getElem?_set_self hl, List.getElem?_eq_getElem hl]; rfl
      · rw [List.set_eq_of_length_le (Nat.le_of_not_lt hl)]
    · rw [List.getElem?_set_ne e]
  · rw [if_neg hj, if_neg hj, List.getElem?_set_ne]
    rintro rfl
    exact hj hi
theorem wipe_wipe (σ : L2.St) (vs : List Nat) : wipe (wipe σ vs) vs = wipe σ vs := by
  apply List.ext_getElem?
  intro j
  rw [wipe_get (wipe σ vs), wipe_get σ]
  by_cases hj : j ∈ vs
  · rw [if_pos hj, if_pos hj, Option.map_map]; rfl
  · rw [if_neg hj, if_neg hj]
def tgIx : Tgt → List Nat
  | .nm i => [i]
  | .tp is => is
/-! ### targets -/
def rdG (T : Tb) (tg : Tgt) : TG := fun v σ H Q => ∃ B M env st d env1, RE T H M B env σ ∧ RSt T H M B st ∧ RD T H M B M.length d v ∧ asgTgt env tg d = some env1 ∧ ∀ σ', RE T H M B env1 σ' → (∀ vs : List Nat, (∀ i ∈ tgIx tg, i ∈ vs) → wipe σ' vs = wipe σ vs) → Q σ' H
def rdGs (T : Tb) (is : List Nat) : TGs := fun vs σ H Q => ∃ B M env ds env1, RE T H M B env σ ∧ RDs T H M B M.length ds vs ∧ setVs env is ds = some env1 ∧ ∀ σ', RE T H M B env1 σ' → (∀ vs : List Nat, (∀ i ∈ is, i ∈ vs) → wipe σ' vs = wipe σ vs) → Q σ' H
theorem PG.imp {tg : Expr} {t t' : TG} (h : PG X tg t) (w : ∀ v σ H Q, t' v σ H Q → t v σ H Q) : PG X tg t' := ⟨fun pins s σ H v u Q I r q => h.run pins s σ H v u Q I r (w v σ H Q q)⟩
theorem PGs.imp {tg : List Expr} {t t' : TGs} (h : PGs X tg t) (w : ∀ v σ H Q, t' v σ H Q → t v σ H Q) : PGs X tg t' := ⟨fun pins s σ H v u Q I r q => h.run pins s σ H v u Q I r (w v σ H Q q)⟩
theorem s_tgn {i : Nat} {x : Str} (hN : X.N.Nodup) (hi : X.N[i]? = some x) (hx : Loc X.env.scope x) (hf : X.fn x = true ∨ X.env.scope.names.lookup x = some .local) : PG X (.Name x pos) (rdG T (.nm i)) := by
  refine PG.imp (pg_name hN hi hx hf) fun v σ H Q ⟨B, M, env, st, d, env1, re, rs, r, ha, w⟩ => ?_
  cases ha
  exact w _ (re.set i r) fun vs hvs => wipe_set (hvs i (List.mem_singleton.mpr rfl))
theorem s_gnil : PGs X [] (rdGs T []) := by
  refine PGs.imp pgs_nil fun v σ H Q ⟨B, M, env, ds, env1, re, r, ha, w⟩ => ?_
  cases r with
  | nil => cases ha; exact ⟨rfl, w _ re fun _ _ => rfl⟩
  | cons _ _ => cases ha
theorem s_gcons {e : Expr} {es : List Expr} {i : Nat} {is : List Nat} (h : ∀ T : Tb, PG X e (gName i)) (hr : PGs X es (rdGs T is)) (hs : (assignEach (e :: es) X.env).map (·.2) = assign e X.env :: (assignEach es X.env).map (·.2)) : PGs X (e :: es) (rdGs T (i :: is)) := by
  refine PGs.imp (pgs_cons (h T) hr hs) fun v σ H Q ⟨B, M, env, ds, env1, re, r, ha, w⟩ => ?_
  cases r with
  | nil => cases ha
  | cons r rr =>
    refine ⟨_, _, rfl, B, M, _, _, env1, re.set i r, rr, ha, fun σ' re' hw => w σ' re' fun vs hvs => ?_⟩
    rw [hw vs fun j hj => hvs j (List.mem_cons_of_mem _ hj)]
    exact wipe_set (hvs i List.mem_cons_self)
theorem each_name {x : Str} {p : Pos} {es : List Expr} {env : Env} : assignEach (.Name x p :: es) env = (false, assign (.Name x p) env) :: assignEach es env := rfl
/-- plain names only -/
def allNames : List Expr → Bool
  | [] => true
  | .Name _ _ :: es => allNames es
  | _ => false
theorem each_len {env : Env} : ∀ {es : List Expr}, allNames es = true → (assignEach es env).length = es.length ∧ (assignEach es env).findIdx? (·.1) = none
  | [], _ => ⟨rfl, rfl⟩
  | e :: es, h => by
    cases e <;> first | (simp [allNames] at h; done) | skip
    rename_i x p
    obtain ⟨h1, h2⟩ := each_len (env := env) (es := es) (by simpa [allNames] using h)
    rw [each_name]
    refine ⟨by rw [List.length_cons, List.length_cons, h1], ?_⟩
    rw [List.findIdx?_cons]
    simp [h2]
theorem setVs_len : ∀ {env : MEnv} {is : List Nat} {ds : List D} {env1 : MEnv}, setVs env is ds = some env1 → ds.length = is.length
  | _, [], [], _, _ => rfl
  | _, [], _ :: _, _, h => by cases h
  | _, _ :: _, [], _, h => by cases h
  | _, i :: is, d :: ds, _, h => by
    have := setVs_len (env := setV _ i d) (is := is) (ds := ds) h
    rw [List.length_cons, List.length_cons, this]
theorem s_tgt {es : List Expr} {k : Nat} {is : List Nat} (hc : X.calm = true) (hK : X.K = T.K) (h : PGs X es (rdGs T is)) (hn : allNames es = true) (hl : es.length = is.length) : PG X (.Tuple es k pos) (rdG T (.tp is)) := by
  refine PG.imp (pg_tup (n := is.length) hc h (by rw [(each_len hn).1, hl]) (each_len hn).2) fun v σ H Q ⟨B, M, env, st, d, env1, re, rs, r, ha, w⟩ => ?_
  cases d with
  | tup ds =>
    have ha' : setVs env is ds = some env1 := ha
    obtain ⟨a, vs, rfl, hq, rr⟩ := r.tup_inv
    exact ⟨a, vs, rfl, by rw [hK]; exact hq, by rw [← rr.length]; exact setVs_len ha', B, M, env, ds, env1, re, rr, ha', w⟩
  | _ => cases ha

/-! ### comprehensions -/
def compT (fe : EV) (fc : Option EV) (tg : Tgt) (own : List Nat) (env : MEnv) : D → Store → R (Option D) := fun x st => match asgTgt (wipeE env own) tg x with
        | none => .bad
        | some env1 => match fc with
          | none => (fe env1 st).bind fun d st2 => .ok (some d) st2
          | some fc => (fc env1 st).bind fun x st1 => match truth x with
            | some true => (fe env1 st1).bind fun d st2 => .ok (some d) st2
            | some false => .ok none st1
            | none => .bad
def evComp (mu : Bool) (fe : EV) (tg : Tgt) (own : List Nat) (k : IK) (fs : EVs) (fc : Option EV) : EV := fun env st => (fs env st).bind fun ds st1 => match itemsOf st1 k ds with
    | none => .bad
    | some (items, g) => (compL (compT fe fc tg own env) g items [] st1).bind fun ds st2 => alloc mu (.lst ds) st2
def ttOf (T : Tb) : Option EV → TT
  | none => tYes
  | some fc => rdT T fc
theorem compL_step {f : D → Store → R (Option D)} {g : Guard} {x : D} {xs acc : List D} {st : Store} {P : List D → Store → Prop} (h : Wp (compL f g (x :: xs) acc st) P) :
    Wp (f x st) fun o st' => gok g st' = true ∧ match o with
      | some d => acc.length < SZ ∧ Wp (compL f g xs (acc ++ [d]) st') P
      | none => Wp (compL f g xs acc st') P := by
  unfold compL at h
  cases e : f x st with
  | ok o st' =>
    rw [e] at h
    simp only at h
    split at h
    · rename_i hg
      refine ⟨hg, ?_⟩
      cases o with
      | none => exact h
      | some d =>
        simp only at h
        split at h
        · exact ⟨by assumption, h⟩
        · exact h.elim
    · exact h.elim
  | exc c p s => rw [e] at h; exact h.elim
  | bad => rw [e] at h; exact h.elim
theorem wk_evo {J : It} {g : Guard} {items : List D} {H' : Hp} {M' : List Addr} (h : Wk T B J H M g items) : Wk T B J H M g items := h
theorem comp_rd {mu : Bool} {fe : EV} {tg : Tgt} {own : List Nat} {k : IK} {fs : EVs} {fc : Option EV} (hown : ∀ i ∈ tgIx tg, i ∈ own) {σ : L2.St} {Q : VK} (h : rdE T (evComp mu fe tg own k fs fc) σ H Q) : tLc (rdI T fs k) (rdG T tg) (ttOf T fc) (rdE T fe) own σ H Q := by
  obtain ⟨B, M0, env, st, re, rs, w⟩ := h
  refine ⟨B, M0, env, st, re, rs, ?_⟩
  refine (Wp.bind w).mono fun ds st1 w1 => ?_
  cases hit : itemsOf st1 k ds with
  | none => rw [hit] at w1; exact w1.elim
  | some q =>
    obtain ⟨items, g⟩ := q
    rw [hit] at w1
    have w1 := Wp.bind w1
    refine ⟨items, g, rfl, fun J H1 M1 e01 rs1 hg1 wk => fun Dl hD => ?_⟩
    have hD0 : Dl ∉ M0 → H Dl = none := fun hm => by
      cases q : H Dl with
      | none => rfl
      | some o => rw [e01.keep _ _ q hm] at hD; cases hD
    have hBD : ¬ B Dl := fun z => (rs1.bar _ z).1 hD
    let W : Nat → Nat → Hp → Prop := fun i m H' => m = items.length - i ∧ i ≤ items.length ∧ ∃ M' st' acc vs, Evo H1 M1 H' M' ∧ RSt T H' M' (more B Dl) st' ∧ gok g st' = true ∧ H' Dl = some (.lst vs) ∧ RDs T H' M' (more B Dl) M'.length acc vs ∧ RE T H' M' (more B Dl) env σ ∧
      Wp (compL (compT fe fc tg own env) g (items.drop i) acc st') fun ds st2 => Wp (alloc mu (.lst ds) st2) fun d st' => Want T B H M0 st' d Q
    refine ⟨W, ⟨items.length, rfl, Nat.zero_le _, M1, st1, [], [], Evo.laid hD, rs1.barMore hD, hg1, upd_same, .nil, (((re.evo e01).bar (more_bar hD)).evo (Evo.laid hD)), w1⟩, ?_⟩
    rintro i m H' ⟨rfl, hi, M', st', acc, vs, e1, rs', hg', hDl, rd, re', w'⟩
    obtain ⟨wstop, wgo⟩ := wk i hi (more B Dl) H' M' st' (more_bar hD) e1 rs' hg'
    by_cases hlt : i < items.length
    · obtain ⟨x, hx⟩ : ∃ x, items[i]? = some x := ⟨_, List.getElem?_eq_getElem hlt⟩
      obtain ⟨go, yld⟩ := wgo x hx
      have hdrop : items.drop i = x :: items.drop (i + 1) := by
        rw [List.drop_eq_getElem_cons hlt]
        rw [List.getElem?_eq_getElem hlt] at hx
        rw [Option.some.inj hx]
      rw [hdrop] at w'
      have w2 := compL_step w'
      refine .inr ⟨go, fun H5 => ∃ m', m' < items.length - i ∧ W (i + 1) m' H5, fun H5 h5 => h5, fun xv H2 hy => ?_⟩
      obtain ⟨e2, rs2, rx⟩ := yld xv H2 hy
      have rew : RE T H2 M' (more B Dl) (wipeE env own) (wipe σ own) := (re'.evo e2).wipe own
      unfold compT at w2
      cases has : asgTgt (wipeE env own) tg x with
      | none => rw [has] at w2; exact w2.elim
      | some env1 =>
        rw [has] at w2
        refine ⟨more B Dl, M', _, st', x, env1, rew, rs2, rx, has, fun σ2 re2 hw => ⟨?_, ?_⟩⟩
        · rw [hw own hown, wipe_wipe]
        · have hDm : Dl ∉ M' := (rs'.bar Dl (.inr rfl)).2
          have hD2 : H2 Dl = some (.lst vs) := e2.keep _ _ hDl hDm
          -- the turn's end
          have fin0 : ∀ {H3 : Hp} {M3 : List Addr} {st3 : Store}, Evo H2 M' H3 M3 → RSt T H3 M3 (more B Dl) st3 → gok g st3 = true → (Wp (compL (compT fe fc tg own env) g (items.drop (i + 1)) acc st3) fun ds st2 => Wp (alloc mu (.lst ds) st2) fun d st' => Want T B H M0 st' d Q) → ∃ m', m' < items.length - i ∧ W (i + 1) m' H3 := fun {H3 M3 st3} e3 rs3 hg3 w3 =>
            ⟨items.length - (i + 1), by omega, rfl, hlt, M3, st3, acc, vs, (e1.trans e2).trans e3, rs3, hg3, e3.keep _ _ hD2 hDm, rd.evo (e2.trans e3) (e2.trans e3).len, re'.evo (e2.trans e3), w3⟩
          have fin1 : ∀ {H3 : Hp} {M3 : List Addr} {st3 : Store}, Evo H2 M' H3 M3 → RSt T H3 M3 (more B Dl) st3 → (Wp (fe env1 st3) fun d st4 => gok g st4 = true ∧ acc.length < SZ ∧ Wp (compL (compT fe fc tg own env) g (items.drop (i + 1)) (acc ++ [d]) st4) fun ds st2 => Wp (alloc mu (.lst ds) st2) fun d st' => Want T B H M0 st' d Q) →
              rdE T fe σ2 H3 fun y H4 => ∃ acc, H4 Dl = some (.lst acc) ∧ acc.length < sizeLine ∧ ∃ m', m' < items.length - i ∧ W (i + 1) m' (upd H4 Dl (.lst (acc ++ [y]))) := fun {H3 M3 st3} e3 rs3 w3 => by
            refine rd_go (re2.evo e3) rs3 w3 fun d st4 yv H4 M4 _ w4 e4 re4 rs4 ry => ?_
            obtain ⟨hg4, hacc, w5⟩ := w4
            have e24 := e3.trans e4
            have hD4 : H4 Dl = some (.lst vs) := e24.keep _ _ hD2 hDm
            have rd4 : RDs T H4 M4 (more B Dl) M4.length acc vs := rd.evo (e2.trans e24) (e2.trans e24).len
            have hb : more B Dl Dl := .inr rfl
            refine ⟨vs, hD4, by rw [← rd4.length, ← SZ_eq]; exact hacc, items.length - (i + 1), by omega, rfl, hlt, M4, st4, acc ++ [d], vs ++ [yv], ((e1.trans e2).trans e24).over hD, rs4.over hb hD4 trivial, hg4, upd_same, RDs.over hb hD4 trivial (rd4.append (.cons ry .nil)), (re'.evo (e2.trans e24)).over hb hD4 trivial, w5⟩
          cases fc with
          | none =>
            refine fin1 Evo.refl rs2 ?_
            exact (Wp.bind w2).mono fun d st4 w3 => w3
          | some fc =>
            have w2 := Wp.bind w2
            refine rd_goT re2 rs2 w2 (fun d st3 H3 M3 _ w3 e3 re3 rs3 kk hk => ?_) fun d st3 w3 => ?_
            · rw [hk] at w3
              cases kk with
              | true =>
                rw [if_pos rfl]
                exact fin1 e3 rs3 ((Wp.bind w3).mono fun d st4 w4 => w4)
              | false =>
                rw [if_neg Bool.false_ne_true]
                exact fin0 e3 rs3 w3.1 w3.2
            · cases ht : truth d with
              | none => rw [ht] at w3; exact w3.elim
              | some kk => exact ⟨kk, rfl⟩
    · have ei : i = items.length := by omega
      refine .inl ⟨wstop ei, ?_⟩
      rw [ei, List.drop_length] at w'
      have w3 : Wp (alloc mu (.lst acc) st') fun d st' => Want T B H M0 st' d Q := w'
      have hDm : Dl ∉ M' := (rs'.bar Dl (.inr rfl)).2
      have e0 : Evo H M0 H' M' := by
        have := e01.trans (e1 : Evo H1 M1 H' M')
        exact this
      cases mu with
      | false =>
        have w4 : Want T B H M0 st' (.lst acc) Q := w3
        exact w4 _ _ M' e0 rs'.less (.lst hDl hDm hBD (rd.bar fun _ _ _ z => .inl z))
      | true =>
        have w4 : Want T B H M0 (st' ++ [.lst acc]) (.ref st'.length) Q := w3
        refine w4 _ _ (M' ++ [Dl]) ⟨e0.keep, e0.tups, e0.frzs, fun l a h => ?_, fun a h hm => ?_⟩ (rs'.adopt hBD hDl rd) (.ref ?_ ?_)
        · have := e0.pre l a h
          rw [List.getElem?_append_left (List.getElem?_eq_some_iff.mp this).1]; exact this
        · rcases List.mem_append.mp h with q | q
          · exact e0.new a q hm
          · rw [List.mem_singleton.mp q] at hm ⊢; exact hD0 hm
        · rw [List.length_append, ← rs'.len]; exact Nat.lt_succ_self _
        · rw [← rs'.len, List.getElem?_append_right (Nat.le_refl _), Nat.sub_self]; rfl
end
end MP

set_option Elab.async false
set_option linter.all false
set_option maxRecDepth 100000
set_option maxHeartbeats 1000000
/-! MP: statements -/
namespace MP
open PySem PySem.Spec PyProof.Rows L2 TL
def WS (r : RS) (N : MEnv → Store → Prop) (R : D → Store → Prop) (K : MEnv → Store → Prop) : Prop := match r with
  | .nx e s => N e s
  | .rt d s => R d s
  | .bk e s => K e s
  | _ => False
theorem WS.toS {α : Type} {r : R α} {env : MEnv} {f : α → Store → RS} {N R K} (h : WS (r.toS env f) N R K) : Wp r fun a st => WS (f a st) N R K := by
  cases r with
  | ok a st => exact h
  | exc c p st => exact h.elim
  | bad => exact h.elim
theorem WS.mono {r : RS} {N R K N' R' K'} (h : WS r N R K) (h1 : ∀ e s, N e s → N' e s) (h2 : ∀ e s, R e s → R' e s) (h3 : ∀ e s, K e s → K' e s) : WS r N' R' K' := by
  cases r with
  | nx e s => exact h1 _ _ h
  | rt e s => exact h2 _ _ h
  | bk e s => exact h3 _ _ h
  | ex _ _ _ _ => exact h.elim
  | bad => exact h.elim
abbrev XS := MEnv → Store → RS
/-- what is wanted of a state -/
abbrev WantS (T : Tb) (B : Addr → Prop) (H : Hp) (M : List Addr) (env : MEnv) (st : Store) (Q : L2.St → Hp → Prop) : Prop := ∀ σ' H' M', Evo H M H' M' → RSt T H' M' B st → RE T H' M' B env σ' → Q σ' H'
def rdS (T : Tb) (f : XS) : TS := fun D σ H => ∃ B M env st, RE T H M B env σ ∧ RSt T H M B st ∧ WS (f env st) (fun e s => WantS T B H M e s D.nx) (fun d s => Want T B H M s d D.rt) (fun e s => WantS T B H M e s D.bk)
theorem PS.imp {X : Cx} {s : Stmt} {t t' : TS} (h : PS X s t) (w : ∀ D σ H, t' D σ H → t D σ H) : PS X s t' := ⟨fun pins s σ H D I q => h.run pins s σ H D I (w D σ H q)⟩
theorem PSs.imp {X : Cx} {s : List Stmt} {t t' : TS} (h : PSs X s t) (w : ∀ D σ H, t' D σ H → t D σ H) : PSs X s t' := ⟨fun pins s σ H D I q => h.run pins s σ H D I (w D σ H q)⟩
section
variable {T : Tb} {X : Cx} {pos : Pos} {a b c e : Expr} {fa fb fc : EV} {H H' H1 : Hp} {M M' M1 : List Addr} {B : Addr → Prop} {env : MEnv} {st : Store} {σ : L2.St} {st1 : Stmt} {sts : List Stmt} {ga gb : XS}
theorem WantS.evo {Q : L2.St → Hp → Prop} (e : Evo H M H1 M1) (w : WantS T B H M env st Q) : WantS T B H1 M1 env st Q := fun σ' H' M' e' => w σ' H' M' (e.trans e')
theorem WantS.here {Q : L2.St → Hp → Prop} (rs : RSt T H M B st) (re : RE T H M B env σ) (w : WantS T B H M env st Q) : Q σ H := w σ H M Evo.refl rs re
def exNil : XS := fun env st => .nx env st
def exCons (f g : XS) : XS := fun env st => match f env st with
    | .nx env' st' => g env' st'
    | r => r
theorem s_nils : PSs X [] (rdS T exNil) := PSs.imp pss_nil fun D σ H ⟨B, M, env, st, re, rs, w⟩ => WantS.here rs re w
theorem s_conss (h1 : PS X st1 (rdS T ga)) (h2 : PSs X sts (rdS T gb)) : PSs X (st1 :: sts) (rdS T (exCons ga gb)) := by
  refine PSs.imp (pss_cons h1 h2) fun D σ H ⟨B, M, env, st, re, rs, w⟩ => ?_
  refine ⟨B, M, env, st, re, rs, ?_⟩
  unfold exCons at w
  cases e : ga env st with
  | nx env' st' =>
    rw [e] at w
    intro σ' H' M' ev rs' re'
    exact ⟨B, M', env', st', re', rs', WS.mono w (fun _ _ q => WantS.evo ev q) (fun _ _ q => Want.evo ev q) fun _ _ q => WantS.evo ev q⟩
  | rt d st' => rw [e] at w; exact w
  | bk env' st' => rw [e] at w; exact w
  | ex _ _ _ _ => rw [e] at w; exact w.elim
  | bad => rw [e] at w; exact w.elim
theorem s_expr (ha : PE X e (rdE T fa)) (hs : swapsWith e none pos.line X.env = pure false) : PS X (.Expr e pos) (rdS T fun env st => (fa env st).toS env fun _ st1 => .nx env st1) := by
  refine PS.imp (ps_expr ha hs) fun D σ H ⟨B, M, env, st, re, rs, w⟩ => ?_
  refine rd_go re rs w.toS fun d1 st1 v1 H1 M1 _ w1 e1 re1 rs1 r1 => ?_
  exact WantS.here rs1 re1 (WantS.evo e1 w1)
theorem s_ret (ha : PE X e (rdE T fa)) : PS X (.Return (some e) pos) (rdS T fun env st => (fa env st).toS env fun d st1 => .rt d st1) := by
  refine PS.imp (ps_ret ha) fun D σ H ⟨B, M, env, st, re, rs, w⟩ => ?_
  refine rd_go re rs w.toS fun d1 st1 v1 H1 M1 _ w1 e1 re1 rs1 r1 => ?_
  exact Want.here rs1 (Want.evo e1 w1) r1
theorem s_retN : PS X (.Return none pos) (rdS T fun env st => .rt .non st) :=
  PS.imp ps_retN fun D σ H ⟨B, M, env, st, re, rs, w⟩ => Want.here rs w .non
theorem s_pass : PS X (.Pass pos) (rdS T exNil) := PS.imp ps_pass fun D σ H ⟨B, M, env, st, re, rs, w⟩ => WantS.here rs re w
theorem s_break : PS X (.Break pos) (rdS T fun env st => .bk env st) := PS.imp ps_break fun D σ H ⟨B, M, env, st, re, rs, w⟩ => WantS.here rs re w
theorem s_bad : PS X st1 (rdS T fun _ _ => .bad) := PS.imp ps_never fun D σ H ⟨B, M, env, st, re, rs, w⟩ => w
/-- a statement whose run ends badly always -/
theorem s_badly {g : XS} (h : ∀ env st N R K, WS (g env st) N R K → False) : PS X st1 (rdS T g) := PS.imp ps_never fun D σ H ⟨B, M, env, st, re, rs, w⟩ => h _ _ _ _ _ w
def exIf (fc : EV) (ga gb : XS) : XS := fun env st => (fc env st).toS env fun x st1 => match truth x with
    | some true => ga env st1
    | some false => gb env st1
    | none => .bad
theorem s_if {as bs : List Stmt} (hc : PT X c (rdT T fc)) (h1 : PSs X as (rdS T ga)) (h2 : PSs X bs (rdS T gb)) : PS X (.If c as bs pos) (rdS T (exIf fc ga gb)) := by
  refine PS.imp (ps_if hc h1 h2) fun D σ H ⟨B, M, env, st, re, rs, w⟩ => ?_
  refine rd_goT re rs (WS.toS w) (fun d1 st1 H1 M1 _ w1 e1 re1 rs1 k hk => ?_) fun d1 st1 w1 => ?_
  · rw [hk] at w1
    cases k with
    | true => exact ⟨B, M1, env, st1, re1, rs1, WS.mono w1 (fun _ _ q => WantS.evo e1 q) (fun _ _ q => Want.evo e1 q) fun _ _ q => WantS.evo e1 q⟩
    | false => exact ⟨B, M1, env, st1, re1, rs1, WS.mono w1 (fun _ _ q => WantS.evo e1 q) (fun _ _ q => Want.evo e1 q) fun _ _ q => WantS.evo e1 q⟩
  · cases ht : truth d1 with
    | none => rw [ht] at w1; exact w1.elim
    | some k => exact ⟨k, rfl⟩
/-! ### assignments -/
def exAsg (i : Nat) (fa : EV) : XS := fun env st => (fa env st).toS env fun d st1 => .nx (setV env i d) st1
theorem asg_rd {i : Nat} {D : Ends} (h : rdS T (exAsg i fa) D σ H) : tAsg (rdE T fa) (gName i) D σ H := by
  obtain ⟨B, M, env, st, re, rs, w⟩ := h
  refine rd_go re rs (WS.toS w) fun d1 st1 v1 H1 M1 _ w1 e1 re1 rs1 r1 => ?_
  exact WantS.here rs1 (re1.set i r1) (WantS.evo e1 w1)
theorem s_asg {i : Nat} {x : Str} {pos' : Pos} (hN : X.N.Nodup) (hi : X.N[i]? = some x) (hx : Loc X.env.scope x) (hf : X.fn x = true ∨ X.env.scope.names.lookup x = some .local) (ha : PE X e (rdE T fa)) (hs : swapsWith e (some (.Name x pos')) pos.line X.env = pure false) : PS X (.Assign [.Name x pos'] e pos) (rdS T (exAsg i fa)) :=
  PS.imp (ps_set hN hi hx ha hs hf) fun D σ H h => asg_rd h
def exAsgT (is : List Nat) (fa : EV) : XS := fun env st => (fa env st).toS env fun d st1 => match view st1 d with
    | some (.tup ds) => match setVs env is ds with
      | some env' => .nx env' st1
      | none => .bad
    | some (.lst ds) => match setVs env is ds with
      | some env' => .nx env' st1
      | none => .bad
    | _ => .bad
theorem exAsgT_inv {d : D} {st1 : Store} {is : List Nat} {N R K} (h : WS (match view st1 d with
    | some (.tup ds) => match setVs env is ds with
      | some env' => RS.nx env' st1
      | none => .bad
    | some (.lst ds) => match setVs env is ds with
      | some env' => .nx env' st1
      | none => .bad
    | _ => .bad) N R K) : ∃ ds env', (view st1 d = some (.tup ds) ∨ view st1 d = some (.lst ds)) ∧ setVs env is ds = some env' ∧ N env' st1 := by
  split at h
  · rename_i ds hv
    split at h
    · exact ⟨ds, _, .inl hv, by assumption, h⟩
    · exact h.elim
  · rename_i ds hv
    split at h
    · exact ⟨ds, _, .inr hv, by assumption, h⟩
    · exact h.elim
  · exact h.elim
/-- a tuple or a list, unpacked -/
def gSeq (K : PySem.W.Frag) (n : Nat) (t : TGs) : TG := fun v σ H Q => gTup K n t v σ H Q ∨ gUnl K n t v σ H Q
theorem pg_seq {es : List Expr} {k : Nat} {t : TGs} {n : Nat} (hc : X.calm = true) (h : PGs X es t) (hn : (assignEach es X.env).length = n) (hst : (assignEach es X.env).findIdx? (·.1) = none) : PG X (.Tuple es k pos) (gSeq X.K n t) :=
  ⟨fun pins s σ H v u Q I r q => q.elim (fun q => (pg_tup hc h hn hst).run pins s σ H v u Q I r q) fun q => (pg_unl hc h hn hst).run pins s σ H v u Q I r q⟩
theorem s_asgT {es : List Expr} {k : Nat} {p1 : Pos} {is : List Nat} (hc : X.calm = true) (hK : X.K = T.K) (hg : PGs X es (rdGs T is)) (hn : allNames es = true) (hl : es.length = is.length) (ha : PE X e (rdE T fa))
    (hw : swappedStores [.Tuple es k p1] e X.env = pure none) (hs : swapsWithSole [.Tuple es k p1] e pos.line X.env = pure false) : PS X (.Assign [.Tuple es k p1] e pos) (rdS T (exAsgT is fa)) := by
  refine PS.imp (ps_asg ha (pg_seq (n := is.length) hc hg (by rw [(each_len hn).1, hl]) (each_len hn).2) hs hw rfl) fun D σ H ⟨B, M, env, st, re, rs, w⟩ => ?_
  refine rd_go re rs (WS.toS w) fun d1 st1 v1 H1 M1 _ w1 e1 re1 rs1 r1 => ?_
  obtain ⟨ds, env', hv, hset, w2⟩ := exAsgT_inv w1
  have w3 : ∀ σ', RE T H1 M1 B env' σ' → (∀ vs : List Nat, (∀ i ∈ is, i ∈ vs) → wipe σ' vs = wipe σ vs) → D.nx σ' H1 := fun σ' re' _ => WantS.here rs1 re' (WantS.evo e1 w2)
  rcases hv with hv | hv
  · obtain ⟨a, vs, rfl, hq, rr⟩ := (view_rel rs1 r1 hv : RD T H1 M1 B M1.length (.tup ds) v1).tup_inv
    exact .inl ⟨a, vs, rfl, by rw [hK]; exact hq, by rw [← rr.length]; exact setVs_len hset, B, M1, env, ds, env', re1, rr, hset, w3⟩
  · obtain ⟨a, vs, rfl, hq, rr⟩ := view_rel rs1 r1 hv
    exact .inr ⟨a, vs, rfl, SqL.of hq, by rw [← rr.length]; exact setVs_len hset, B, M1, env, ds, env', re1, rr, hset, w3⟩
/-- a, b = x, y -/
theorem s_par {i j : Nat} {x y : Str} {px py pt : Pos} {kt k2 pt2} (hc : X.calm = true) (hN : X.N.Nodup) (hi : X.N[i]? = some x) (hj : X.N[j]? = some y) (hij : i ≠ j) (hx : X.env.scope.names.lookup x = some .local) (hy : X.env.scope.names.lookup y = some .local)
    (ha : PE X a (rdE T fa)) (hb : PE X b (rdE T fb)) (h1 : noStar a = true) (h2 : noStar b = true)
    (hw : swappedStores [.Tuple [.Name x px, .Name y py] kt pt] (.Tuple [a, b] k2 pt2) X.env = pure (some [x, y])) :
    PS X (.Assign [.Tuple [.Name x px, .Name y py] kt pt] (.Tuple [a, b] k2 pt2) pos) (rdS T (exAsgT [i, j] (evTup (evCons fa (evCons fb evNil))))) := by
  refine PS.imp (ps_par hc hN hi hj hij hx hy (s_cons (T := T) ha (s_cons hb s_nil h2) h1) hw rfl) fun D σ H ⟨B, M, env, st, re, rs, w⟩ => ?_
  have w0 := wp2 (Wp.bind (WS.toS w))
  refine rd_goA re rs w0 fun ds st1 vs H1 M1 _ w1 e1 re1 rs1 r1 => ?_
  obtain ⟨⟨d, d2, rfl⟩, w2⟩ := w1
  cases r1 with
  | cons r rr =>
    cases rr with
    | cons r' rr =>
      cases rr
      exact ⟨_, _, rfl, WantS.here rs1 ((re1.set i r).set j r') (WantS.evo e1 w2)⟩
def exSet (fo fi fe : EV) : XS := fun env st => (fe env st).toS env fun v st1 => (fo env st1).toS env fun d st2 => (fi env st2).toS env fun k st3 =>
      (setObj st3 d k v).toS env fun _ st4 => .nx env st4
theorem setObj_inv {st : Store} {d i v : D} {P : D → Store → Prop} (h : Wp (setObj st d i v) P) : ∃ l k xs j, d = .ref l ∧ i = .int k ∧ st[l]? = some (.lst xs) ∧ (if 0 ≤ k then (if k < xs.length then some k.toNat else none) else if -(xs.length : Int) ≤ k then some (k + xs.length).toNat else none) = some j ∧ below l v = true ∧ P .non (st.set l (.lst (xs.set j v))) := by
  unfold setObj at h
  split at h
  · rename_i l k
    split at h
    · rename_i xs hx
      split at h
      · rename_i j hj
        split at h
        · rename_i hb
          exact ⟨l, k, xs, j, rfl, rfl, hx, hj, hb, h⟩
        · exact h.elim
      · exact h.elim
    · exact h.elim
  · exact h.elim
theorem WantS.wrote {l : Nat} {p : Addr} {ys : List D} {ws : List V} {Q : L2.St → Hp → Prop} (rs : RSt T H M B st) (re : RE T H M B env σ) (hm : M[l]? = some p) (r : RDs T H M B l ys ws)
    (w : WantS T B H M env (st.set l (.lst ys)) Q) : Q σ (upd H p (.lst ws)) :=
  have e := Evo.write (u := .lst ws) rs hm
  w _ _ _ e (rs.write hm ⟨ws, upd_same, r.evo e (Nat.le_refl _)⟩) (re.evo e)
/-- not a slice -/
def noSlice : Expr → Bool
  | .Slice _ _ _ _ => false
  | _ => true
theorem assign_ix {o i : Expr} {tpos : Pos} {env : Env} (h : noSlice i = true) (v : Value) : assign (.Subscript o i tpos) env v = (do
      let ov ← holding [v] (eval o env)
      let iv ← holding [v, ov] (eval i env)
      standAt tpos
      holding [v, ov, iv] (setItem ov iv v)
      release [v, ov, iv] []) := by
  cases i <;> first | rfl | (cases h; done)
theorem s_setIx {o i e : Expr} {fo fi fe : EV} {tpos : Pos} (ho : PE X o (rdE T fo)) (hi : PE X i (rdE T fi)) (he : PE X e (rdE T fe)) (hsl : noSlice i = true)
    (hs : swapsWithSole [.Subscript o i tpos] e pos.line X.env = pure false) (hw : swappedStores [.Subscript o i tpos] e X.env = pure none) : PS X (.Assign [.Subscript o i tpos] e pos) (rdS T (exSet fo fi fe)) := by
  refine PS.imp (ps_asg he (pg_sub ho hi set_list (assign_ix hsl)) hs hw rfl) fun D σ H ⟨B, M, env, st, re, rs, w⟩ => ?_
  refine rd_go re rs (WS.toS w) fun dv st1 v H1 M1 _ w1 e1 re1 rs1 rv => ?_
  refine rd_go re1 rs1 (WS.toS w1) fun d st2 vo H2 M2 _ w2 e2 re2 rs2 ro => ?_
  refine rd_go re2 rs2 (WS.toS w2) fun k st3 vi H3 M3 _ w3 e3 re3 rs3 ri => ?_
  obtain ⟨l, k, xs, j, rfl, rfl, hx, hj, hb, w4⟩ := setObj_inv (WS.toS w3)
  have ro' := ro.evo e3 e3.len
  obtain rfl := ri.int_inv
  cases ro' with
  | @ref _ p hl hm =>
    obtain ⟨vs, e5, e6⟩ := rs3.at_ _ _ _ hm hx
    refine ⟨p, vs, k, j, rfl, rfl, e5, by rw [← e6.length]; exact hj, ?_⟩
    have e03 := e1.trans (e2.trans e3)
    exact WantS.wrote rs3 re3 hm (RDs.set ((rv.evo (e2.trans e3) (e2.trans e3).len).under hb) j e6) (WantS.evo e03 w4)
/-! ### loops -/
def forT (tg : Tgt) (gb : XS) : D → MEnv → Store → RS := fun x env st => match asgTgt env tg x with
        | none => .bad
        | some env1 => gb env1 st
def exFor (tg : Tgt) (k : IK) (fs : EVs) (gb : XS) : XS := fun env st => (fs env st).toS env fun ds st1 => match itemsOf st1 k ds with
    | none => .bad
    | some (items, g) => forL (forT tg gb) g items env st1
theorem s_for {tg iter : Expr} {body : List Stmt} {t : Tgt} {k : IK} {fs : EVs} (hp : PassesOwn (model X.prog X.w) X.A X.env X.xe) (hc : X.calm = true) (hi : PI X tg iter (rdI T fs k)) (hg : PG X tg (rdG T t)) (hb : PSs X body (rdS T gb))
    (hs : ∀ x, foldedSetIterable iter X.env x = pure x) : PS X (.For tg iter body [] pos) (rdS T (exFor t k fs gb)) := by
  refine PS.imp (ps_for hp hc hi hg hb hs) fun D σ H ⟨B, M0, env, st, re, rs, w⟩ => ?_
  refine ⟨B, M0, env, st, re, rs, ?_⟩
  refine (WS.toS w).mono fun ds st1 w1 => ?_
  cases hit : itemsOf st1 k ds with
  | none => rw [hit] at w1; exact w1.elim
  | some q =>
    obtain ⟨items, g⟩ := q
    rw [hit] at w1
    refine ⟨items, g, rfl, fun J H1 M1 e01 rs1 hg1 wk => ?_⟩
    let W : Nat → Nat → L2.St → Hp → Prop := fun i m σ' H' => m = items.length - i ∧ i ≤ items.length ∧ ∃ M' st' env', Evo H1 M1 H' M' ∧ RSt T H' M' B st' ∧ gok g st' = true ∧ RE T H' M' B env' σ' ∧
      WS (forL (forT t gb) g (items.drop i) env' st') (fun e s => WantS T B H M0 e s D.nx) (fun d s => Want T B H M0 s d D.rt) (fun e s => WantS T B H M0 e s D.bk)
    refine ⟨W, ⟨items.length, rfl, Nat.zero_le _, M1, st1, env, Evo.refl, rs1, hg1, re.evo e01, w1⟩, ?_⟩
    rintro i m σ' H' ⟨rfl, hle, M', st', env', e1, rs', hg', re', w'⟩
    obtain ⟨wstop, wgo⟩ := wk i hle B H' M' st' (fun _ _ _ z => z) e1 rs' hg'
    have e0 : Evo H M0 H' M' := e01.trans e1
    by_cases hlt : i < items.length
    · obtain ⟨x, hx⟩ : ∃ x, items[i]? = some x := ⟨_, List.getElem?_eq_getElem hlt⟩
      obtain ⟨go, yld⟩ := wgo x hx
      have hdrop : items.drop i = x :: items.drop (i + 1) := by
        rw [List.drop_eq_getElem_cons hlt]
        rw [List.getElem?_eq_getElem hlt] at hx
        rw [Option.some.inj hx]
      rw [hdrop] at w'
      unfold forL at w'
      refine .inr ⟨go, fun σ2 H2 => ∃ m', m' < items.length - i ∧ W (i + 1) m' σ2 H2, fun _ _ h => h, fun xv H2 hy => ?_⟩
      obtain ⟨e2, rs2, rx⟩ := yld xv H2 hy
      cases has : asgTgt env' t x with
      | none =>
        have : forT t gb x env' st' = .bad := by unfold forT; rw [has]
        rw [this] at w'; exact w'.elim
      | some env1 =>
        have hT : forT t gb x env' st' = gb env1 st' := by unfold forT; rw [has]
        rw [hT] at w'
        refine ⟨B, M', env', st', x, env1, re'.evo e2, rs2, rx, has, fun σ2 re2 _ => ⟨B, M', env1, st', re2, rs2, ?_⟩⟩
        have e02 := e0.trans e2
        cases hgb : gb env1 st' with
        | nx e3 s3 =>
          rw [hgb] at w'
          simp only at w'
          split at w'
          · rename_i hg3
            intro σ3 H3 M3 ev3 rs3 re3
            exact ⟨items.length - (i + 1), by omega, rfl, hlt, M3, s3, e3, (e1.trans e2).trans ev3, rs3, hg3, re3, w'⟩
          · exact w'.elim
        | bk e3 s3 =>
          rw [hgb] at w'
          exact WantS.evo e02 w'
        | rt d s3 =>
          rw [hgb] at w'
          exact Want.evo e02 w'
        | ex _ _ _ _ => rw [hgb] at w'; exact w'.elim
        | bad => rw [hgb] at w'; exact w'.elim
    · have ei : i = items.length := by omega
      refine .inl ⟨wstop ei, ?_⟩
      rw [ei, List.drop_length] at w'
      exact WantS.here rs' re' (WantS.evo e0 w')
def whC (fc : EV) : MEnv → Store → R Bool := fun env st => (fc env st).bind fun x st1 => ofO (truth x) st1
def exWhl (fc : EV) (gb : XS) : XS := fun env st => whlL (whC fc) gb WF env st
theorem s_while {body : List Stmt} (hp : PassesOwn (model X.prog X.w) X.A X.env X.xe) (hc : PT X c (rdT T fc)) (hb : PSs X body (rdS T gb)) : PS X (.While c body [] pos) (rdS T (exWhl fc gb)) := by
  refine PS.imp (ps_while hp hc hb) fun D σ H ⟨B, M0, env, st, re, rs, w⟩ => ?_
  let W : Nat → L2.St → Hp → Prop := fun m σ' H' => ∃ M' st' env', Evo H M0 H' M' ∧ RSt T H' M' B st' ∧ RE T H' M' B env' σ' ∧
      WS (whlL (whC fc) gb m env' st') (fun e s => WantS T B H M0 e s D.nx) (fun d s => Want T B H M0 s d D.rt) (fun e s => WantS T B H M0 e s D.bk)
  refine ⟨W, ⟨WF, M0, st, env, Evo.refl, rs, re, w⟩, ?_⟩
  rintro m σ' H' ⟨M', st', env', e1, rs', re', w'⟩
  cases m with
  | zero => exact w'.elim
  | succ n =>
    unfold whlL at w'
    have w2 : Wp (fc env' st') fun d st1 => Wp (ofO (truth d) st1) fun k st1 => WS (if k = true then match gb env' st1 with
      | .nx env' st' => whlL (whC fc) gb n env' st'
      | .bk env' st' => .nx env' st'
      | r => r
      else .nx env' st1) (fun e s => WantS T B H M0 e s D.nx) (fun d s => Want T B H M0 s d D.rt) (fun e s => WantS T B H M0 e s D.bk) := Wp.bind (WS.toS w')
    refine rd_goT re' rs' w2 (fun d1 st1 H1 M1 _ w3 e2 re1 rs1 k hk => ?_) fun d1 st1 w3 => ?_
    · rw [hk] at w3
      have w4 : WS (if k = true then match gb env' st1 with
      | .nx env' st' => whlL (whC fc) gb n env' st'
      | .bk env' st' => .nx env' st'
      | r => r
      else .nx env' st1) (fun e s => WantS T B H M0 e s D.nx) (fun d s => Want T B H M0 s d D.rt) (fun e s => WantS T B H M0 e s D.bk) := w3
      have e01 := e1.trans e2
      cases k with
      | false =>
        rw [if_neg Bool.false_ne_true] at w4 ⊢
        exact WantS.here rs1 re1 (WantS.evo e01 w4)
      | true =>
        rw [if_pos rfl] at w4 ⊢
        refine ⟨fun σ2 H2 => W n σ2 H2, fun σ2 H2 h2 => ⟨n, Nat.lt_succ_self _, h2⟩, B, M1, env', st1, re1, rs1, ?_⟩
        cases hgb : gb env' st1 with
        | nx e3 s3 =>
          rw [hgb] at w4
          intro σ3 H3 M3 ev3 rs3 re3
          exact ⟨M3, s3, e3, e01.trans ev3, rs3, re3, w4⟩
        | bk e3 s3 =>
          rw [hgb] at w4
          exact WantS.evo e01 w4
        | rt d s3 =>
          rw [hgb] at w4
          exact Want.evo e01 w4
        | ex _ _ _ _ => rw [hgb] at w4; exact w4.elim
        | bad => rw [hgb] at w4; exact w4.elim
    · cases ht : truth d1 with
      | none => rw [ht] at w3; exact w3.elim
      | some k => exact ⟨k, rfl⟩
/-! ### name = [..] -/
theorem s_asgLc {i : Nat} {y : Str} {py : Pos} {elt tg iter : Expr} {ifs : List Expr} {scope : Scope} {own : List (Str × Nat)} {spos : Pos} {mu : Bool} {fe : EV} {t : Tgt} {k : IK} {fs : EVs} {fc' : Option EV} (hc : X.calm = true) (hN : X.N.Nodup) (hy : X.N[i]? = some y) (hyl : X.env.scope.names.lookup y = some .local)
    (hsw : swapsWith (.ListComp elt [⟨tg, iter, ifs, 0⟩] scope pos) (some (.Name y py)) spos.line X.env = pure true) (hi : PI X tg iter (rdI T fs k)) (ok : BlkOk X.N X.env.scope scope own)
    (hg : ∀ (s : Shared) (H : Hp) (C : Addr) (cl : List (Str × Addr)) (fp : List Addr), PG (X.blk s H scope (compEnvC scope cl C X.env) fp) tg (rdG T t)) (ht : ∀ (s : Shared) (H : Hp) (C : Addr) (cl : List (Str × Addr)) (fp : List Addr), PTs (X.blk s H scope (compEnvC scope cl C X.env) fp) ifs (ttOf T fc'))
    (he : ∀ (s : Shared) (H : Hp) (C : Addr) (cl : List (Str × Addr)) (fp : List Addr), PE (X.blk s H scope (compEnvC scope cl C X.env) fp) elt (rdE T fe)) (hs : ∀ x, foldedSetIterable iter X.env x = pure x) (hown : ∀ i ∈ tgIx t, i ∈ own.map (·.2)) :
    PS X (.Assign [.Name y py] (.ListComp elt [⟨tg, iter, ifs, 0⟩] scope pos) spos) (rdS T (exAsg i (evComp mu fe t (own.map (·.2)) k fs fc'))) := by
  refine PS.imp (ps_setLc hc hN hy hyl hsw hi ok hg ht he hs) fun D σ H ⟨B, M, env, st, re, rs, w⟩ => ?_
  refine comp_rd (mu := mu) hown ⟨B, M, env, st, re, rs, (WS.toS w).mono fun d st1 w1 => ?_⟩
  intro v H' M' e rs' r
  exact WantS.here rs' ((re.evo e).set i r) (WantS.evo e w1)
theorem s_comp {elt tg iter : Expr} {ifs : List Expr} {scope : Scope} {own : List (Str × Nat)} {mu : Bool} {fe : EV} {t : Tgt} {k : IK} {fs : EVs} {fc' : Option EV} (hc : X.calm = true) (hN : X.N.Nodup) (hi : PI X tg iter (rdI T fs k)) (ok : BlkOk X.N X.env.scope scope own)
    (hg : ∀ (s : Shared) (H : Hp) (C : Addr) (cl : List (Str × Addr)) (fp : List Addr), PG (X.blk s H scope (compEnvC scope cl C X.env) fp) tg (rdG T t)) (ht : ∀ (s : Shared) (H : Hp) (C : Addr) (cl : List (Str × Addr)) (fp : List Addr), PTs (X.blk s H scope (compEnvC scope cl C X.env) fp) ifs (ttOf T fc'))
    (he : ∀ (s : Shared) (H : Hp) (C : Addr) (cl : List (Str × Addr)) (fp : List Addr), PE (X.blk s H scope (compEnvC scope cl C X.env) fp) elt (rdE T fe)) (hs : ∀ x, foldedSetIterable iter X.env x = pure x) (hown : ∀ i ∈ tgIx t, i ∈ own.map (·.2)) :
    PE X (.ListComp elt [⟨tg, iter, ifs, 0⟩] scope pos) (rdE T (evComp mu fe t (own.map (·.2)) k fs fc')) :=
  PE.imp (pe_lc hc hN hi ok hg ht he hs) fun σ H Q h => comp_rd hown h
end
end MP

set_option Elab.async false
set_option linter.all false
set_option maxRecDepth 100000
/-! MP: from the text's own tree to the compiled tree: only what the rules cover -/
namespace MP
open PySem (Str NameKind Scope Pos)

/-- a test that is read as a value's truth, or by its parts -/
def testOk : Nat → PySem.Expr → Bool
  | 0, _ => false
  | n + 1, .UnaryOp .Not a _ => testOk n a
  | n + 1, .BoolOp _ es _ => es.all (testOk n)
  | _ + 1, .IfExp _ _ _ _ => false
  | _ + 1, .NamedExpr _ _ _ => false
  | _ + 1, _ => true
def notComp : PySem.Expr → Bool
  | .ListComp _ _ _ _ => false
  | .SetComp _ _ _ _ => false
  | .DictComp _ _ _ _ _ => false
  | _ => true
def notTup : PySem.Expr → Bool
  | .Tuple _ _ _ => false
  | _ => true
def tupEs : PySem.Expr → List PySem.Expr
  | .Tuple es _ _ => es
  | _ => []
def isTupE : PySem.Expr → Bool
  | .Tuple _ _ _ => true
  | _ => false
/-- the names of a comprehension's block -/
def blkN (N : List Str) (scn : Sc) (scope : Scope) (own : List (Str × Nat)) : Bool :=
  (match scope.kind with | .function => true | _ => false) && (scope.names.all fun y => decide (scope.names.lookup y.1 = some y.2)) && (own.all fun p => decide (N[p.2]? = some p.1)) &&
    (scope.names.all fun y => match y.2 with
      | .free => (match scn.lookup y.1 with | some .cell => true | some .free => true | _ => false)
      | .local => decide (y.1 ∈ own.map (·.1)) || decide (y.1 ∉ N)
      | .cell => decide (y.1 ∈ own.map (·.1)) || decide (y.1 ∉ N)
      | _ => true)
/-- name = [..]: the new list goes straight to the name -/
def swOk (sc : Sc) (t : Str) (tp : Pos) (scope : Scope) (p : Pos) : Bool := (sc.lookup t == some .local) && (tp.line == p.line) && !(scope.names.any fun (n, k) => n == t && (k == .local || k == .cell))
/-- x, y = .., ..: plain locals, one line, not all constants -/
def parOk (sc : Sc) : List PySem.Expr → List PySem.Expr → Bool
  | [.Name x px, .Name y py], [a, b] => (sc.lookup x == some .local) && (sc.lookup y == some .local) && (px.line == py.line) && !(x == y) && noStar a && noStar b && !(PySem.foldedForSure 8 a && PySem.foldedForSure 8 b) && !(PySem.constantsAlone 8 a && PySem.constantsAlone 8 b)
  | _, _ => false
/-- a tuple's items stored one by one, as any other's: a wrong number, or a name that is no plain local -/
def noPar (sc : Sc) (ts vs : List PySem.Expr) : Bool := !(ts.length == 2 || ts.length == 3) || (vs.length != ts.length || ts.any fun t => match t with | .Name x _ => !(sc.lookup x == some .local) | _ => true)
section
variable (N : List Str)
def cNs : Sc → List PySem.Expr → Option (List Nat)
  | _, [] => some []
  | sc, .Name x _ :: es => (locOf N sc x).bind fun i => (cNs sc es).map fun is => i :: is
  | _, _ :: _ => none
def namesOf : List PySem.Expr → List Str
  | .Name x _ :: es => x :: namesOf es
  | _ => []
/-- a target, with its names and their places -/
def cT : Sc → PySem.Expr → Option (Tgt × List (Str × Nat))
  | sc, .Name x _ => (locOf N sc x).map fun i => (.nm i, [(x, i)])
  | sc, .Tuple es _ _ => (cNs N sc es).map fun is => (.tp is, (namesOf es).zip is)
  | _, _ => none
end
/-- the built-in functions that are covered -/
def bfOk (x : Str) (n : Nat) : Option Bf :=
  if n = 1 then
    (if x = ("len" : Str) then some .len else if x = ("abs" : Str) then some .abs else if x = ("int" : Str) then some .int
    else if x = ("any" : Str) then some .any else if x = ("all" : Str) then some .all else if x = ("sum" : Str) then some .sum1
    else if x = ("tuple" : Str) then some .tuple else if x = ("min" : Str) then some .min1 else if x = ("max" : Str) then some .max1 else none)
  else none
section
variable (T : CT) (N : List Str)
mutual
def cE : Nat → Sc → PySem.Expr → Option ME
  | 0, _, _ => none
  | n + 1, sc, e => match e with
    | .Constant c _ _ => (cConst c).map .con
    | .Name x _ => if isVis sc x then (varOf N sc x).map .var else if isGlo sc x && !(x == ("__debug__" : Str)) then match T.glob.lookup x with
        | some (.con d) => some (.con d)
        | some (.fn i) => some (.con (.fn i))
        | _ => none
      else none
    | .BinOp a op b p => (cBop op).bind fun o => (cE n sc a).bind fun a' => (cE n sc b).map fun b' => wrapM (T.mu p) (.bin o a' b')
    | .UnaryOp .USub a _ => (cE n sc a).map .neg
    | .UnaryOp .Not a _ => (cE n sc a).map .nt
    | .BoolOp .And es _ => cAnd n sc es
    | .BoolOp .Or es _ => cOr n sc es
    | .IfExp c a b _ => if testOk n c then (cE n sc c).bind fun c' => (cE n sc a).bind fun a' => (cE n sc b).map fun b' => .ite c' a' b' else none
    | .Compare a [op] [b] _ => (cCop op).bind fun o => (cE n sc a).bind fun a' => (cE n sc b).map fun b' => .cmp o a' b'
    | .Compare a [op, op2] [b, c] _ => (cCop op).bind fun o => (cCop op2).bind fun o2 => (cE n sc a).bind fun a' => (cE n sc b).bind fun b' => (cE n sc c).map fun c' => .chain o o2 a' b' c'
    | .Tuple es _ _ => if es.all noStar && decide (es.length ≤ 1000) then (cEs n sc es).map .tup else none
    | .List es p => if es.all noStar && decide (es.length ≤ 1000) then (cEs n sc es).map (.lst (T.mu p)) else none
    | .Dict [] [] p => if T.mu p then none else some (.dct false [])
    | .Dict [some k] [v] p => if T.mu p then none else (cE n sc k).bind fun k' => (cE n sc v).map fun v' => .dct false [(k', v')]
    | .Subscript a i _ => match i with
      | .Slice lo hi none _ => (cE n sc a).bind fun a' => (cO n sc lo).bind fun lo' => (cO n sc hi).map fun hi' => .slice a' lo' hi'
      | .Slice none none (some (.UnaryOp .USub (.Constant (.int 1) _ _) _)) _ => (cE n sc a).map .rev
      | _ => if noSlice i then (cE n sc a).bind fun a' => (cE n sc i).map fun i' => .ix a' i' else none
    | .ListComp elt [⟨tg, it, ifs, 0⟩] s p => (cIt n sc (isTupE tg) it).bind fun (k, args) => (cT N s.names tg).bind fun (t, own) => if blkN N sc s own then (cE n (relN s.names sc) elt).bind fun elt' => match ifs with
        | [] => some (.comp (T.mu p) elt' t (own.map (·.2)) k args none)
        | [c] => if testOk n c then (cE n (relN s.names sc) c).map fun c' => .comp (T.mu p) elt' t (own.map (·.2)) k args (some c') else none
        | _ => none
      else none
    | .Call (.Name f _) args [] p => if isGlo sc f && !(f == ("__debug__" : Str)) && args.all noStar then match T.glob.lookup f with
        | some (.fn i) => (cEs n sc args).map (.call i)
        | some _ => none
        | none => match args with
          | [a, .Name t _] => if f = ("isinstance" : Str) ∧ bltOf T sc t = true then (isiOf t).bind fun b => (cE n sc a).map fun a' => .blt b [a'] else none
          | [a] => if f = ("list" : Str) then (cE n sc a).map fun a' => wrapM (T.mu p) (.blt .list [a'])
              else if T.mu p then none else (bfOk f 1).bind fun b => (cE n sc a).map fun a' => .blt b [a']
          | _ => none
      else none
    | .Call (.Attribute o m ap) [] [] p => if noCall0 o && (ap.endLine == p.line) then (cE n sc o).bind fun o' =>
          if m = ("pop" : Str) then some (.pop o') else if m = ("upper" : Str) then some (.blt .upper [o']) else none
        else none
    | .Call (.Attribute o m ap) [a] [] p => if noCall0 o && noStar a && (ap.endLine == p.line) then (cE n sc o).bind fun o' => (cE n sc a).bind fun a =>
          if m = ("append" : Str) then some (.app o' a) else if m = ("extend" : Str) then some (.ext o' a) else if m = ("pop" : Str) then some (.popAt o' a)
          else if m = ("count" : Str) then some (.blt .count [o', a]) else if m = ("join" : Str) then some (.blt .join [o', a])
          else none
        else none
    | _ => none
def cEs : Nat → Sc → List PySem.Expr → Option (List ME)
  | 0, _, _ => none
  | _ + 1, _, [] => some []
  | n + 1, sc, e :: es => (cE n sc e).bind fun e' => (cEs n sc es).map fun es' => e' :: es'
def cAnd : Nat → Sc → List PySem.Expr → Option ME
  | 0, _, _ => none
  | n + 1, sc, [e] => cE n sc e
  | n + 1, sc, e :: es => (cE n sc e).bind fun e' => (cAnd n sc es).map fun r => .and e' r
  | _ + 1, _, [] => none
def cOr : Nat → Sc → List PySem.Expr → Option ME
  | 0, _, _ => none
  | n + 1, sc, [e] => cE n sc e
  | n + 1, sc, e :: es => (cE n sc e).bind fun e' => (cOr n sc es).map fun r => .or e' r
  | _ + 1, _, [] => none
def cO : Nat → Sc → Option PySem.Expr → Option (Option ME)
  | 0, _, _ => none
  | _ + 1, _, none => some none
  | n + 1, sc, some e => (cE n sc e).map some
/-- what a for or a comprehension walks; tup: the target is a tuple -/
def cIt : Nat → Sc → Bool → PySem.Expr → Option (IK × List ME)
  | 0, _, _, _ => none
  | n + 1, sc, tup, e => match e with
    | .Call (.Name f _) [a] [] _ => if f = ("range" : Str) ∧ bltOf T sc f = true ∧ noStar a = true then (cE n sc a).map fun a' => (.rng, [a'])
        else if f = ("enumerate" : Str) ∧ bltOf T sc f = true ∧ noStar a = true ∧ tup = true then (cE n sc a).map fun a' => (.enum, [a'])
        else (cE n sc e).map fun a' => (.seq, [a'])
    | .Call (.Name f _) [a, b] [] _ => if f = ("range" : Str) ∧ bltOf T sc f = true ∧ noStar a = true ∧ noStar b = true then (cE n sc a).bind fun a' => (cE n sc b).map fun b' => (.rng, [a', b'])
        else if f = ("zip" : Str) ∧ bltOf T sc f = true ∧ noStar a = true ∧ noStar b = true ∧ tup = true then (cE n sc a).bind fun a' => (cE n sc b).map fun b' => (.zip, [a', b'])
        else (cE n sc e).map fun a' => (.seq, [a'])
    | e => (cE n sc e).map fun a' => (.seq, [a'])
end
mutual
def cS : Nat → Sc → PySem.Stmt → Option MS
  | 0, _, _ => none
  | n + 1, sc, s => match s with
    | .Assign [.Name x _] e _ => (locOf N sc x).bind fun i => (cE T N n sc e).map fun e' => .asg i e'
    | .Assign [.Tuple ts _ _] e _ => if allNames ts && (notTup e || (parOk sc ts (tupEs e) || noPar sc ts (tupEs e))) then (cNs N sc ts).bind fun is => (cE T N n sc e).map fun e' => .asgT is e' else none
    | .Assign [.Subscript o i _] e _ => if noSlice i then (cE T N n sc o).bind fun o' => (cE T N n sc i).bind fun i' => (cE T N n sc e).map fun e' => .setIx o' i' e' else none
    | .Expr e _ => if notComp e then (cE T N n sc e).map .exp else none
    | .Return (some e) _ => (cE T N n sc e).map .ret
    | .Return none _ => some (.ret (.con .non))
    | .If c a b _ => if testOk n c then (cE T N n sc c).bind fun c' => (cSs n sc a).bind fun a' => (cSs n sc b).map fun b' => .ife c' a' b' else none
    | .For tg it body [] _ => (cIt T N n sc (isTupE tg) it).bind fun (k, args) => (cT N sc tg).bind fun (t, _) => (cSs n sc body).map fun b => .forr t k args b
    | .While c body [] _ => if testOk n c then (cE T N n sc c).bind fun c' => (cSs n sc body).map fun b => .whl c' b else none
    | .Break _ => some .brk
    | .Pass _ => some .pas
    | .Raise (some (.Call (.Name x _) [] [] _)) none _ => if isGlo sc x then match T.glob.lookup x with
        | some (.cls c) => some (.rse c)
        | _ => none
      else none
    | _ => none
def cSs : Nat → Sc → List PySem.Stmt → Option (List MS)
  | 0, _, _ => none
  | _ + 1, _, [] => some []
  | n + 1, sc, s :: ss => (cS n sc s).bind fun s' => (cSs n sc ss).map fun ss' => s' :: ss'
end
end
end MP

set_option Elab.async false
set_option linter.all false
set_option maxRecDepth 100000
set_option maxHeartbeats 1000000
/-! MP: the evaluator's steps as functions; a written dict; small facts of the compiler -/
namespace MP
open PySem PySem.Spec PyProof.Rows L2 TL
section
variable (C : Nat → List D → Store → R D)
theorem ev_con (d : D) : evE C (.con d) = fun _ st => .ok d st := by funext env st; first | (simp only [evE]; done) | (simp only [evE]; rfl)
theorem ev_var (i : Nat) : evE C (.var i) = evVar i := by funext env st; first | (simp only [evE, evVar]; done) | (simp only [evE, evVar]; rfl)
theorem ev_bin (op : Bop) (a b : ME) : evE C (.bin op a b) = fun env st => (evE C a env st).bind fun x st1 => (evE C b env st1).bind fun y st2 => ofO ((view st2 x).bind fun x' => (view st2 y).bind fun y' => evBin op x' y') st2 := by funext env st; first | (simp only [evE]; done) | (simp only [evE]; rfl)
theorem ev_mutl (a : ME) : evE C (.mutl a) = fun env st => (evE C a env st).bind fun x st1 => alloc true x st1 := by funext env st; first | (simp only [evE]; done) | (simp only [evE]; rfl)
theorem ev_neg (a : ME) : evE C (.neg a) = fun env st => (evE C a env st).bind fun x st1 => match x with | .int i => .ok (.int (-i)) st1 | _ => .bad := by funext env st; first | (simp only [evE]; done) | (simp only [evE]; rfl)
theorem ev_nt (a : ME) : evE C (.nt a) = fun env st => (evE C a env st).bind fun x st1 => ofO ((truth x).map fun b => .bl (!b)) st1 := by funext env st; first | (simp only [evE]; done) | (simp only [evE]; rfl)
theorem ev_and (a b : ME) : evE C (.and a b) = evAnd (evE C a) (evE C b) := by funext env st; first | (simp only [evE, evAnd]; done) | (simp only [evE, evAnd]; rfl)
theorem ev_or (a b : ME) : evE C (.or a b) = evOr (evE C a) (evE C b) := by funext env st; first | (simp only [evE, evOr]; done) | (simp only [evE, evOr]; rfl)
theorem ev_ite (c a b : ME) : evE C (.ite c a b) = evIte (evE C c) (evE C a) (evE C b) := by funext env st; first | (simp only [evE, evIte]; done) | (simp only [evE, evIte]; rfl)
theorem ev_cmp (op : Cop) (a b : ME) : evE C (.cmp op a b) = evCm op (evE C a) (evE C b) := by funext env st; first | (simp only [evE, evCm]; done) | (simp only [evE, evCm]; rfl)
theorem ev_chain (op op2 : Cop) (a b c : ME) : evE C (.chain op op2 a b c) = evChain op op2 (evE C a) (evE C b) (evE C c) := by funext env st; first | (simp only [evE, evChain]; done) | (simp only [evE, evChain]; rfl)
theorem ev_nil : evEs C [] = evNil := by funext env st; first | (simp only [evEs, evNil]; done) | (simp only [evEs, evNil]; rfl)
theorem ev_cons (e : ME) (es : List ME) : evEs C (e :: es) = evCons (evE C e) (evEs C es) := by funext env st; first | (simp only [evEs, evCons]; done) | (simp only [evEs, evCons]; rfl)
theorem ev_call (f : Nat) (es : List ME) : evE C (.call f es) = evCall (evEs C es) (C f) := by funext env st; first | (simp only [evE, evCall]; done) | (simp only [evE, evCall]; rfl)
theorem ev_blt (f : Bf) (es : List ME) : evE C (.blt f es) = evBl f (evEs C es) := by funext env st; first | (simp only [evE, evBl]; done) | (simp only [evE, evBl]; rfl)
theorem ev_tup (es : List ME) : evE C (.tup es) = evTup (evEs C es) := by funext env st; first | (simp only [evE, evTup]; done) | (simp only [evE, evTup]; rfl)
theorem ev_lst (mu : Bool) (es : List ME) : evE C (.lst mu es) = evLst mu (evEs C es) := by funext env st; first | (simp only [evE, evLst]; done) | (simp only [evE, evLst]; rfl)
theorem ev_ix (a i : ME) : evE C (.ix a i) = evIxx (evE C a) (evE C i) := by funext env st; first | (simp only [evE, evIxx]; done) | (simp only [evE, evIxx]; rfl)
theorem ev_oN : evO C none = fun _ st => .ok none st := by funext env st; first | (simp only [evO]; done) | (simp only [evO]; rfl)
theorem ev_oS (e : ME) : evO C (some e) = evPart (evE C e) := by funext env st; first | (simp only [evO, evPart]; done) | (simp only [evO, evPart]; rfl)
theorem ev_slice (a : ME) (lo hi : Option ME) : evE C (.slice a lo hi) = evSlc (evE C a) (evO C lo) (evO C hi) := by funext env st; first | (simp only [evE, evSlc]; done) | (simp only [evE, evSlc]; rfl)
def evRv (fa : EV) : EV := fun env st => (fa env st).bind fun x st1 => ofO ((view st1 x).bind fun x' => evRev x') st1
theorem ev_rev (a : ME) : evE C (.rev a) = evRv (evE C a) := by funext env st; first | (simp only [evE, evRv]; done) | (simp only [evE, evRv]; rfl)
theorem ev_compN (mu : Bool) (elt : ME) (tg : Tgt) (own : List Nat) (k : IK) (args : List ME) : evE C (.comp mu elt tg own k args none) = evComp mu (evE C elt) tg own k (evEs C args) none := by funext env st; first | (simp only [evE, evComp]; done) | (simp only [evE, evComp]; rfl)
theorem ev_compS (mu : Bool) (elt : ME) (tg : Tgt) (own : List Nat) (k : IK) (args : List ME) (c : ME) : evE C (.comp mu elt tg own k args (some c)) = evComp mu (evE C elt) tg own k (evEs C args) (some (evE C c)) := by funext env st; first | (simp only [evE, evComp]; done) | (simp only [evE, evComp]; rfl)
theorem ev_app (o e : ME) : evE C (.app o e) = evApp (evE C o) (evE C e) := by funext env st; first | (simp only [evE, evApp]; done) | (simp only [evE, evApp]; rfl)
theorem ev_ext (o e : ME) : evE C (.ext o e) = evExt (evE C o) (evE C e) := by funext env st; first | (simp only [evE, evExt]; done) | (simp only [evE, evExt]; rfl)
theorem ev_pop (o : ME) : evE C (.pop o) = evPop (evE C o) := by funext env st; first | (simp only [evE, evPop]; done) | (simp only [evE, evPop]; rfl)
theorem ev_popAt (o e : ME) : evE C (.popAt o e) = evPopAt (evE C o) (evE C e) := by funext env st; first | (simp only [evE, evPopAt]; done) | (simp only [evE, evPopAt]; rfl)
def evD0 : EV := fun _ st => .ok (.dct []) st
def evD1 (fk fv : EV) : EV := fun env st => (fk env st).bind fun a st1 => (fv env st1).bind fun b st2 => if dctOk false [(a, b)] then .ok (.dct [(a, b)]) st2 else .bad
theorem ev_d0 : evE C (.dct false []) = evD0 := by funext env st; first | (simp only [evE, evK, evD0]; done) | (simp only [evE, evK, evD0]; rfl)
theorem ev_d1 (k v : ME) : evE C (.dct false [(k, v)]) = evD1 (evE C k) (evE C v) := by
  funext env st
  simp only [evE, evK, evD1]
  cases evE C k env st with
  | ok a st1 =>
    show ((evE C v env st1).bind fun b st2 => (R.ok [] st2).bind fun ds st3 => R.ok ((a, b) :: ds) st3).bind _ = (evE C v env st1).bind _
    cases evE C v env st1 <;> rfl
  | exc c p s => rfl
  | bad => rfl
theorem ev_len : ∀ (es : List ME) (env : MEnv) (st : Store) (ds : List D) (st' : Store), evEs C es env st = .ok ds st' → ds.length = es.length
  | [], env, st, ds, st', h => by simp only [evEs] at h; cases h; rfl
  | e :: es, env, st, ds, st', h => by
    simp only [evEs] at h
    cases h1 : evE C e env st with
    | ok d st1 =>
      rw [h1] at h
      have h : (evEs C es env st1).bind (fun ds st2 => R.ok (d :: ds) st2) = .ok ds st' := h
      cases h2 : evEs C es env st1 with
      | ok ds2 st2 =>
        rw [h2] at h
        cases h
        rw [List.length_cons, List.length_cons, ev_len es env st1 ds2 _ h2]
      | exc c p s => rw [h2] at h; cases h
      | bad => rw [h2] at h; cases h
    | exc c p s => rw [h1] at h; cases h
    | bad => rw [h1] at h; cases h
end
section
variable {T : Tb} {X : Cx} {pos : Pos} {a b c e : Expr} {fa fb fc : EV}
/-! ### a written dict -/
theorem s_d0 : PE X (.Dict [] [] pos) (rdE T evD0) := by
  refine PE.imp pe_dnewK fun σ H Q ⟨B, M, env, st, re, rs, w⟩ => fun p hp => ?_
  exact w _ _ _ (Evo.laid hp) (rs.laid hp) (.dct upd_same (rs.fresh hp).1 (rs.fresh hp).2 .nil)
theorem s_d1 {k v : Expr} {fk fv : EV} (hk : PE X k (rdE T fk)) (hv : PE X v (rdE T fv)) : PE X (.Dict [some k] [v] pos) (rdE T (evD1 fk fv)) := by
  refine PE.imp (pe_disp (pps_cons hk hv pps_nil) rfl rfl (by simp) (by simp)) fun σ H Q ⟨B, M, env, st, re, rs, w⟩ => fun p hp => ?_
  have re0 : RE T (upd H p (.dK [])) M (more B p) env σ := (re.bar (more_bar hp)).evo (Evo.laid hp)
  refine rd_go re0 (rs.barMore hp) (Wp.bind w) fun da st1 x H1 M1 _ w1 e1 re1 rs1 rx => ?_
  refine rd_go re1 rs1 (Wp.bind w1) fun db st2 y H2 M2 _ w2 e2 re2 rs2 ry => ?_
  have hm : p ∉ M := (rs.fresh hp).1
  have hp2 : H2 p = some (.dK []) := (e1.trans e2).keep _ _ upd_same hm
  have rx2 := rx.evo e2 e2.len
  by_cases hok : dctOk false [(da, db)] = true
  · rw [if_pos hok] at w2
    have w3 : Want T B H M st2 (.dct [(da, db)]) Q := w2
    obtain ⟨key, hkx, hkd⟩ : ∃ key : Key, x = kV key ∧ da = keyD key := by
      unfold dctOk at hok
      split at hok
      · rename_i h; cases h
      · rename_i h; cases h
        exact ⟨.inl _, rx2.int_inv, rfl⟩
      · rename_i s _ h; cases h
        exact ⟨.inr ⟨s.toArray⟩, rx2.str_inv.1, rfl⟩
      · cases hok
    subst hkx hkd
    refine ⟨hp2, [(key, y)], rfl, by simp, ?_⟩
    have hb : more B p p := .inr rfl
    have hm2 : p ∉ M2 := (rs2.bar p hb).2
    have ev : Evo H M (upd H2 p (.dK [(key, y)])) M2 := ((Evo.laid hp).trans (e1.trans e2)).over hp
    exact w3 _ _ M2 ev (rs2.over hb hp2 trivial).less (.dct upd_same hm2 (rs.fresh hp).2 (.cons ((ry.over hb hp2 trivial).bar fun _ _ _ z => .inl z) .nil))
  · rw [if_neg hok] at w2
    exact w2.elim
theorem s_rev {k : Nat} {p1 p2 p3 : Pos} (hK : X.K = T.K) (ha : PE X e (rdE T fa)) : PE X (.Subscript e (.Slice none none (some (.UnaryOp .USub (.Constant (.int 1) k p1) p2)) p3) pos) (rdE T (evRv fa)) := by
  refine PE.imp (pe_revX ha) fun σ H Q ⟨B, M, env, st, re, rs, w⟩ => ?_
  refine rd_go re rs (Wp.bind w) fun d1 st1 v1 H1 M1 _ w1 e1 re1 rs1 r1 => ?_
  obtain ⟨d, hd, w2⟩ := w1.ofO
  cases h1 : view st1 d1 with
  | none => rw [h1] at hd; cases hd
  | some x' =>
    rw [h1] at hd
    cases x' with
    | lst xs =>
      cases hd
      obtain ⟨p, vs, rfl, t1, q1⟩ := view_rel rs1 r1 h1
      exact .inl ⟨p, vs, rfl, SqL.of t1, fun q hq => Want.newL rs1 (Want.evo e1 w2) q1.reverse hq⟩
    | str z =>
      cases hd
      obtain ⟨rfl, hz⟩ := RD.str_inv (view_rel rs1 r1 h1 : RD T H1 M1 B M1.length (.str z) v1)
      refine .inr ⟨_, rfl, by rw [str_len, ← SZ_eq]; exact strOk_len hz, ?_⟩
      have hr : strOk z.reverse = true := strOk_of (fun c hc => strOk_mem hz c (List.mem_reverse.mp hc)) (by rw [List.length_reverse]; exact strOk_len hz)
      exact Want.here rs1 (Want.evo e1 w2) (.str hr)
    | _ => cases hd
end
/-! ### the compiler -/
theorem bind_some' {α β : Type} {o : Option α} {f : α → Option β} {r : β} (h : o.bind f = some r) : ∃ a, o = some a ∧ f a = some r := by
  cases o with
  | none => cases h
  | some a => exact ⟨a, rfl, h⟩
theorem map_some' {α β : Type} {o : Option α} {f : α → β} {r : β} (h : o.map f = some r) : ∃ a, o = some a ∧ f a = r := by
  cases o with
  | none => cases h
  | some a => exact ⟨a, rfl, Option.some.inj h⟩
theorem ixOf_get {N : List Str} {x : Str} {i : Nat} (h : ixOf N x = some i) : N[i]? = some x := by
  unfold ixOf at h
  obtain ⟨hl, hp, _⟩ := List.findIdx?_eq_some_iff_getElem.mp h
  rw [List.getElem?_eq_getElem hl]
  exact congrArg some (of_decide_eq_true hp)
theorem cBop_op {op : Operator} {o : Bop} (h : cBop op = some o) : op = opOf o := by
  cases op <;> simp [cBop] at h <;> subst h <;> rfl
theorem cCop_op {op : CmpOp} {o : Cop} (h : cCop op = some o) : op = cOf o := by
  cases op <;> simp [cCop] at h <;> subst h <;> rfl
theorem loc_of {N : List Str} {sc : Sc} {x : Str} {i : Nat} (h : locOf N sc x = some i) : N[i]? = some x ∧ (sc.lookup x = some .local ∨ sc.lookup x = some .cell) := by
  unfold locOf at h
  split at h
  · rename_i hl
    refine ⟨ixOf_get h, ?_⟩
    unfold isLoc at hl
    split at hl
    · exact .inl (by assumption)
    · exact .inr (by assumption)
    · cases hl
  · cases h
theorem var_of {N : List Str} {sc : Sc} {x : Str} {i : Nat} (h : varOf N sc x = some i) : N[i]? = some x ∧ (sc.lookup x = some .local ∨ sc.lookup x = some .cell ∨ sc.lookup x = some .free) ∧ (x == ("__debug__" : Str)) = false ∧ (x == ("__classdict__" : Str)) = false := by
  unfold varOf at h
  split at h
  · rename_i hl
    simp only [Bool.and_eq_true, Bool.not_eq_true'] at hl
    refine ⟨ixOf_get h, ?_, hl.1.2, hl.2⟩
    have := hl.1.1
    unfold isVis at this
    split at this
    · exact .inl (by assumption)
    · exact .inr (.inl (by assumption))
    · exact .inr (.inr (by assumption))
    · cases this
  · cases h
theorem glo_of {sc : Sc} {x : Str} (h : isGlo sc x = true) : sc.lookup x = some .globalImplicit := by
  unfold isGlo at h
  split at h
  · assumption
  · cases h
theorem bltOf_of {Ct : CT} {sc : Sc} {x : Str} (h : bltOf Ct sc x = true) : sc.lookup x = some .globalImplicit ∧ Ct.glob.lookup x = none := by
  unfold bltOf at h
  rw [Bool.and_eq_true] at h
  exact ⟨glo_of h.1, by simpa using h.2⟩
end MP

set_option Elab.async false
set_option linter.all false
set_option maxRecDepth 100000
set_option maxHeartbeats 4000000
/-! MP: what the compiler makes of an expression does what the expression does -/
namespace MP
open PySem PySem.Spec PyProof.Rows L2 TL
def bltNames : List Str := ["len", "abs", "int", "any", "all", "sum", "tuple", "list", "isinstance", "str", "bool", "dict", "range", "enumerate", "zip", "min", "max"]
/-- the context and the tables agree -/
structure Good (T : Tb) (Ct : CT) (N : List Str) (C : Nat → List D → Store → R D) (X : Cx) (sc : Sc) : Prop where
  K : X.K = T.K
  hN : X.N = N
  nd : N.Nodup
  kind : X.env.scope.kind = .function
  sc : X.env.scope.names = sc
  calm : X.calm = true
  un : X.A.units + 66 < cLine
  con : ∀ x d, Ct.glob.lookup x = some (.con d) → ∃ v u, X.mg x = some u ∧ RelV v u ∧ ∀ H M B n, RD T H M B n d v
  fn : ∀ x i, Ct.glob.lookup x = some (.fn i) → X.mg x = some (.ref (T.fa i)) ∧ ∃ fd ps k np, (∀ ds st d st', C i ds st = .ok d st' → ds.length = np) ∧ FnOk X.prog X.w X.K X.mg X.base CX0 k (T.fa i) fd ps (spOf T (C i) np) ∧ Room k X.A ∧ PySem.W.keepIn X.K (.ref (T.fa i)) = true ∧ Binds X.K fd ps []
  blt : ∀ x, x ∈ bltNames → Ct.glob.lookup x = none → X.mg x = none
section
variable {T : Tb} {Ct : CT} {N : List Str} {C : Nat → List D → Store → R D} {X : Cx} {sc : Sc}
theorem Good.gl (g : Good T Ct N C X sc) {x : Str} (h : sc.lookup x = some .globalImplicit) : Gl X x := by
  have : X.env.scope.names.lookup x = some .globalImplicit := by rw [g.sc]; exact h
  exact this
theorem Good.blk (g : Good T Ct N C X sc) {scope : Scope} (hk : scope.kind = .function) (s : Shared) (H : Hp) (c : Addr) (cl : List (Str × Addr)) (fp : List Addr) : Good T Ct N C (X.blk s H scope (compEnvC scope cl c X.env) fp) (relN scope.names sc) where
  K := g.K
  hN := g.hN
  nd := g.nd
  kind := hk
  sc := by
    show (scope.names.map fun (n, k) => if (k == NameKind.free && X.env.scope.kind == .function && X.env.kindOf n == some .cell) then (n, NameKind.cell) else (n, k)) = relN scope.names sc
    unfold relN
    apply List.map_congr_left
    rintro ⟨n, k⟩ _
    have e1 : (X.env.scope.kind == ScopeKind.function) = true := by rw [g.kind]; rfl
    have e2 : X.env.kindOf n = sc.lookup n := by rw [← g.sc]; rfl
    simp only [e1, e2, Bool.and_true]
  calm := g.calm
  un := g.un
  con := g.con
  fn := g.fn
  blt := g.blt
theorem notSet_marks {op : CmpOp} {b : Expr} (h : ∀ es k p, b ≠ .Set es k p) : behindInMarks op b = false := by
  cases b <;> first | rfl | exact absurd rfl (h _ _ _)
/-- nothing compiles to a set -/
theorem cE_set {n : Nat} {es : List Expr} {k : Nat} {p : Pos} {m : ME} (h : cE Ct N n sc (.Set es k p) = some m) : False := by
  cases n with
  | zero => simp [cE] at h
  | succ n => simp [cE] at h
theorem marks_of {n : Nat} {op : CmpOp} {b : Expr} {m : ME} (h : cE Ct N n sc b = some m) : behindInMarks op b = false :=
  notSet_marks fun es k p e => by subst e; exact cE_set h
theorem foldSet {e : Expr} (h : ∀ es k p, e ≠ .Set es k p) (env : Env) (x : Value) : foldedSetIterable e env x = pure x := by
  cases e <;> first | rfl | exact absurd rfl (h _ _ _)
theorem blkN_of {scn : Sc} {sc0 scope : Scope} {own : List (Str × Nat)} (hs : sc0.names = scn) (h : blkN N scn scope own = true) : BlkOk N sc0 scope own := by
  apply blkOk_by
  unfold blkC
  rw [hs]
  exact h
/-- what is to be shown of the compiler at one depth -/
structure Snd (T : Tb) (Ct : CT) (N : List Str) (C : Nat → List D → Store → R D) (n : Nat) : Prop where
  e : ∀ X sc e m, Good T Ct N C X sc → cE Ct N n sc e = some m → PE X e (rdE T (evE C m))
  es : ∀ X sc es ms, Good T Ct N C X sc → es.all noStar = true → cEs Ct N n sc es = some ms → PA X es (rdA T (evEs C ms)) ∧ ms.length = es.length
  and : ∀ X sc es m pos, Good T Ct N C X sc → cAnd Ct N n sc es = some m → PE X (.BoolOp .And es pos) (rdE T (evE C m))
  or : ∀ X sc es m pos, Good T Ct N C X sc → cOr Ct N n sc es = some m → PE X (.BoolOp .Or es pos) (rdE T (evE C m))
  o : ∀ X sc oe om, Good T Ct N C X sc → cO Ct N n sc oe = some om → PO X oe (rdO T (evO C om))
  it : ∀ X sc tg tup it k args, Good T Ct N C X sc → (tup = true → isTupE tg = true) → cIt Ct N n sc tup it = some (k, args) → PI X tg it (rdI T (evEs C args) k) ∧ ∀ es k p, it ≠ .Set es k p
  t : ∀ X sc e m j, Good T Ct N C X sc → testOk j e = true → cE Ct N n sc e = some m → PT X e (rdT T (evE C m))
  andT : ∀ X sc es m j pos, Good T Ct N C X sc → es.all (testOk j) = true → cAnd Ct N n sc es = some m → PW X (.BoolOp .And es pos) (rdT T (evE C m))
  orT : ∀ X sc es m j pos, Good T Ct N C X sc → es.all (testOk j) = true → cOr Ct N n sc es = some m → PW X (.BoolOp .Or es pos) (rdT T (evE C m))
theorem snd_zero : Snd T Ct N C 0 where
  e := fun _ _ _ _ _ h => by simp [cE] at h
  es := fun _ _ _ _ _ _ h => by simp [cEs] at h
  and := fun _ _ _ _ _ _ h => by simp [cAnd] at h
  or := fun _ _ _ _ _ _ h => by simp [cOr] at h
  o := fun _ _ _ _ _ h => by simp [cO] at h
  it := fun _ _ _ _ _ _ _ _ _ h => by simp [cIt] at h
  t := fun _ _ _ _ _ _ _ h => by simp [cE] at h
  andT := fun _ _ _ _ _ _ _ _ h => by simp [cAnd] at h
  orT := fun _ _ _ _ _ _ _ _ h => by simp [cOr] at h
theorem snd_es {n : Nat} (S : Snd T Ct N C n) (g : Good T Ct N C X sc) {es : List Expr} {ms : List ME} (hs : es.all noStar = true) (h : cEs Ct N (n + 1) sc es = some ms) : PA X es (rdA T (evEs C ms)) ∧ ms.length = es.length := by
  cases es with
  | nil =>
    simp [cEs] at h
    subst h
    rw [ev_nil]
    exact ⟨s_nil, rfl⟩
  | cons e es =>
    simp only [cEs] at h
    rw [List.all_cons, Bool.and_eq_true] at hs
    obtain ⟨m, h1, h⟩ := bind_some' h
    obtain ⟨ms', h2, rfl⟩ := map_some' h
    obtain ⟨q1, q2⟩ := S.es X sc es ms' g hs.2 h2
    rw [ev_cons]
    exact ⟨s_cons (S.e X sc e m g h1) q1 hs.1, by rw [List.length_cons, List.length_cons, q2]⟩
theorem snd_and {n : Nat} (S : Snd T Ct N C n) (g : Good T Ct N C X sc) {es : List Expr} {m : ME} {pos : Pos} (h : cAnd Ct N (n + 1) sc es = some m) : PE X (.BoolOp .And es pos) (rdE T (evE C m)) := by
  cases es with
  | nil => simp [cAnd] at h
  | cons a es =>
    cases es with
    | nil =>
      simp only [cAnd] at h
      exact pe_one (S.e X sc a m g h)
    | cons b es =>
      simp only [cAnd] at h
      obtain ⟨ma, h1, h⟩ := bind_some' h
      obtain ⟨mr, h2, rfl⟩ := map_some' h
      rw [ev_and]
      exact s_and (S.e X sc a ma g h1) (S.and X sc (b :: es) mr pos g h2)
theorem snd_or {n : Nat} (S : Snd T Ct N C n) (g : Good T Ct N C X sc) {es : List Expr} {m : ME} {pos : Pos} (h : cOr Ct N (n + 1) sc es = some m) : PE X (.BoolOp .Or es pos) (rdE T (evE C m)) := by
  cases es with
  | nil => simp [cOr] at h
  | cons a es =>
    cases es with
    | nil =>
      simp only [cOr] at h
      exact pe_one (S.e X sc a m g h)
    | cons b es =>
      simp only [cOr] at h
      obtain ⟨ma, h1, h⟩ := bind_some' h
      obtain ⟨mr, h2, rfl⟩ := map_some' h
      rw [ev_or]
      exact s_or (S.e X sc a ma g h1) (S.or X sc (b :: es) mr pos g h2)
theorem snd_andT {n : Nat} (S : Snd T Ct N C n) (g : Good T Ct N C X sc) {es : List Expr} {m : ME} {j : Nat} {pos : Pos} (ht : es.all (testOk j) = true) (h : cAnd Ct N (n + 1) sc es = some m) : PW X (.BoolOp .And es pos) (rdT T (evE C m)) := by
  cases es with
  | nil => simp [cAnd] at h
  | cons a es =>
    rw [List.all_cons, Bool.and_eq_true] at ht
    cases es with
    | nil =>
      simp only [cAnd] at h
      exact pw_and1 (S.t X sc a m j g ht.1 h)
    | cons b es =>
      simp only [cAnd] at h
      obtain ⟨ma, h1, h⟩ := bind_some' h
      obtain ⟨mr, h2, rfl⟩ := map_some' h
      rw [ev_and]
      exact s_andT (S.t X sc a ma j g ht.1 h1) (S.andT X sc (b :: es) mr j pos g ht.2 h2)
theorem snd_orT {n : Nat} (S : Snd T Ct N C n) (g : Good T Ct N C X sc) {es : List Expr} {m : ME} {j : Nat} {pos : Pos} (ht : es.all (testOk j) = true) (h : cOr Ct N (n + 1) sc es = some m) : PW X (.BoolOp .Or es pos) (rdT T (evE C m)) := by
  cases es with
  | nil => simp [cOr] at h
  | cons a es =>
    rw [List.all_cons, Bool.and_eq_true] at ht
    cases es with
    | nil =>
      simp only [cOr] at h
      exact pw_or1 (S.t X sc a m j g ht.1 h)
    | cons b es =>
      simp only [cOr] at h
      obtain ⟨ma, h1, h⟩ := bind_some' h
      obtain ⟨mr, h2, rfl⟩ := map_some' h
      rw [ev_or]
      exact s_orT (S.t X sc a ma j g ht.1 h1) (S.orT X sc (b :: es) mr j pos g ht.2 h2)
theorem snd_o {n : Nat} (S : Snd T Ct N C n) (g : Good T Ct N C X sc) {oe : Option Expr} {om : Option ME} (h : cO Ct N (n + 1) sc oe = some om) : PO X oe (rdO T (evO C om)) := by
  cases oe with
  | none =>
    simp [cO] at h
    subst h
    rw [ev_oN]
    exact s_partN
  | some e =>
    simp only [cO] at h
    obtain ⟨m, h1, rfl⟩ := map_some' h
    rw [ev_oS]
    exact s_part (S.e X sc e m g h1)
theorem snd_it {n : Nat} (S : Snd T Ct N C n) (g : Good T Ct N C X sc) {tg it : Expr} {tup : Bool} {k : IK} {args : List ME} (ht : tup = true → isTupE tg = true) (h : cIt Ct N (n + 1) sc tup it = some (k, args)) : PI X tg it (rdI T (evEs C args) k) ∧ ∀ es k p, it ≠ .Set es k p := by
  have seq : ∀ {m : ME}, cE Ct N n sc it = some m → PI X tg it (rdI T (evEs C [m]) .seq) ∧ ∀ es k p, it ≠ .Set es k p := fun {m} hm => by
    rw [ev_cons, ev_nil]
    exact ⟨s_iseq g.K (S.e X sc it m g hm), fun es k p e => by subst e; exact cE_set hm⟩
  have seq' : (cE Ct N n sc it).map (fun a' => (IK.seq, [a'])) = some (k, args) → PI X tg it (rdI T (evEs C args) k) ∧ ∀ es k p, it ≠ .Set es k p := fun h => by
    obtain ⟨m, hm, e⟩ := map_some' h
    cases e
    exact seq hm
  have tupTg : ∀ (P : Expr → Prop), tup = true → (∀ elts kk tpos, P (.Tuple elts kk tpos)) → P tg := fun P e hp => by
    have := ht e
    cases tg <;> first | exact hp _ _ _ | (cases this; done)
  unfold cIt at h
  split at h
  · rename_i f _ a _
    split at h
    · rename_i hf
      obtain ⟨rfl, hb, hs⟩ := hf
      obtain ⟨hg, hl⟩ := bltOf_of hb
      obtain ⟨m, hm, e⟩ := map_some' h
      cases e
      rw [ev_cons, ev_nil]
      exact ⟨s_irng1 (g.gl hg) (g.blt _ (by simp [bltNames]) hl) (S.e X sc a m g hm) hs, fun _ _ _ e => nomatch e⟩
    · split at h
      · rename_i hf
        obtain ⟨rfl, hb, hs, htup⟩ := hf
        obtain ⟨hg, hl⟩ := bltOf_of hb
        obtain ⟨m, hm, e⟩ := map_some' h
        cases e
        rw [ev_cons, ev_nil]
        refine ⟨tupTg (fun tg => PI X tg _ _) htup fun elts kk tpos => ?_, fun _ _ _ e => nomatch e⟩
        exact s_ienum g.K (g.gl hg) (g.blt _ (by simp [bltNames]) hl) (S.e X sc a m g hm) hs
      · exact seq' h
  · rename_i f _ a b _
    split at h
    · rename_i hf
      obtain ⟨rfl, hb, hs, hs2⟩ := hf
      obtain ⟨hg, hl⟩ := bltOf_of hb
      obtain ⟨m, hm, h⟩ := bind_some' h
      obtain ⟨m2, hm2, e⟩ := map_some' h
      cases e
      rw [ev_cons, ev_cons, ev_nil]
      exact ⟨s_irng2 (g.gl hg) (g.blt _ (by simp [bltNames]) hl) (S.e X sc a m g hm) (S.e X sc b m2 g hm2) hs hs2, fun _ _ _ e => nomatch e⟩
    · split at h
      · rename_i hf
        obtain ⟨rfl, hb, hs, hs2, htup⟩ := hf
        obtain ⟨hg, hl⟩ := bltOf_of hb
        obtain ⟨m, hm, h⟩ := bind_some' h
        obtain ⟨m2, hm2, e⟩ := map_some' h
        cases e
        rw [ev_cons, ev_cons, ev_nil]
        refine ⟨tupTg (fun tg => PI X tg _ _) htup fun elts kk tpos => ?_, fun _ _ _ e => nomatch e⟩
        exact s_izip g.K (g.gl hg) (g.blt _ (by simp [bltNames]) hl) (S.e X sc a m g hm) (S.e X sc b m2 g hm2) hs hs2
      · exact seq' h
  · exact seq' h
end
end MP

set_option Elab.async false
set_option linter.all false
set_option maxRecDepth 100000
set_option maxHeartbeats 4000000
/-! MP: .. every expression -/
namespace MP
open PySem PySem.Spec PyProof.Rows L2 TL
section
variable {T : Tb} {Ct : CT} {N : List Str} {C : Nat → List D → Store → R D} {X : Cx} {sc : Sc}
theorem relN_keep {names sc : Sc} {x : Str} {k : NameKind} (hk : k ≠ .free) : ∀ {names : Sc}, names.lookup x = some k → (relN names sc).lookup x = some k := by
  intro names
  induction names with
  | nil => intro h; simp at h
  | cons p r ih =>
    intro h
    obtain ⟨n, k0⟩ := p
    show List.lookup x ((if (k0 == NameKind.free && sc.lookup n == some .cell) = true then (n, NameKind.cell) else (n, k0)) :: relN r sc) = some k
    cases hx : x == n with
    | true =>
      simp only [List.lookup_cons, hx] at h
      cases h
      have : ¬ (k == NameKind.free && sc.lookup n == some .cell) = true := by
        intro q
        rw [Bool.and_eq_true] at q
        exact hk (by simpa using q.1)
      rw [if_neg this]
      simp only [List.lookup_cons, hx]
    | false =>
      simp only [List.lookup_cons, hx] at h
      have := ih h
      by_cases hc : (k0 == NameKind.free && sc.lookup n == some .cell) = true
      · rw [if_pos hc]; simp only [List.lookup_cons, hx]; exact this
      · rw [if_neg hc]; simp only [List.lookup_cons, hx]; exact this
/-- the names that a context stores to -/
def Stores (X : Cx) (scn : Sc) : Prop := ∀ x, (scn.lookup x = some .local ∨ scn.lookup x = some .cell) → Loc X.env.scope x ∧ (X.fn x = true ∨ X.env.scope.names.lookup x = some .local)
theorem stores_blk (g : Good T Ct N C X sc) {scope : Scope} (hk : scope.kind = .function) (s : Shared) (H : Hp) (c : Addr) (cl : List (Str × Addr)) (fp : List Addr) : Stores (X.blk s H scope (compEnvC scope cl c X.env) fp) scope.names := by
  intro x hx
  have e := (g.blk hk s H c cl fp).sc
  rcases hx with h | h
  · have q : (X.blk s H scope (compEnvC scope cl c X.env) fp).env.scope.names.lookup x = some .local := by rw [e]; exact relN_keep (names := scope.names) (by decide) h
    exact ⟨.inl q, .inr q⟩
  · have q : (X.blk s H scope (compEnvC scope cl c X.env) fp).env.scope.names.lookup x = some .cell := by rw [e]; exact relN_keep (names := scope.names) (by decide) h
    exact ⟨.inr q, .inl (by show (scope.names.lookup x == some .cell) = true; rw [h]; rfl)⟩
theorem names_of {scn : Sc} (hst : Stores X scn) (hN : X.N = N) (nd : N.Nodup) : ∀ {es : List Expr} {is : List Nat}, cNs N scn es = some is → allNames es = true ∧ es.length = is.length ∧ (namesOf es).length = is.length ∧ PGs X es (rdGs T is)
  | [], is, h => by
    simp [cNs] at h
    subst h
    exact ⟨rfl, rfl, rfl, s_gnil⟩
  | e :: es, is, h => by
    cases e <;> first | (simp [cNs] at h; done) | skip
    rename_i x p
    simp only [cNs] at h
    obtain ⟨i, h1, h⟩ := bind_some' h
    obtain ⟨js, h2, rfl⟩ := map_some' h
    obtain ⟨q1, q2, q3, q4⟩ := names_of hst hN nd h2
    obtain ⟨l1, l2⟩ := loc_of h1
    obtain ⟨a1, a2⟩ := hst x l2
    refine ⟨by simpa [allNames] using q1, by rw [List.length_cons, List.length_cons, q2], by simp [namesOf, q3], ?_⟩
    exact s_gcons (fun _ => pg_name (by rw [hN]; exact nd) (by rw [hN]; exact l1) a1 a2) q4 rfl
theorem tgt_of {scn : Sc} (hst : Stores X scn) (hN : X.N = N) (nd : N.Nodup) (hc : X.calm = true) (hK : X.K = T.K) {tg : Expr} {t : Tgt} {own : List (Str × Nat)} (h : cT N scn tg = some (t, own)) : PG X tg (rdG T t) ∧ ∀ i ∈ tgIx t, i ∈ own.map (·.2) := by
  unfold cT at h
  split at h
  · rename_i x _
    obtain ⟨i, h1, e⟩ := map_some' h
    cases e
    obtain ⟨l1, l2⟩ := loc_of h1
    obtain ⟨a1, a2⟩ := hst x l2
    exact ⟨s_tgn (by rw [hN]; exact nd) (by rw [hN]; exact l1) a1 a2, fun i hi => by simpa [tgIx] using hi⟩
  · obtain ⟨is, h1, e⟩ := map_some' h
    cases e
    obtain ⟨q1, q2, q3, q4⟩ := names_of (T := T) hst hN nd h1
    refine ⟨s_tgt hc hK q4 q1 q2, fun i hi => ?_⟩
    rw [List.map_snd_zip (by rw [q3]; exact Nat.le_refl _)]
    exact hi
  · cases h
theorem cNs_len {scn : Sc} : ∀ {es : List Expr} {is : List Nat}, cNs N scn es = some is → (namesOf es).length = is.length
  | [], is, h => by simp [cNs] at h; subst h; rfl
  | e :: es, is, h => by
    cases e <;> first | (simp [cNs] at h; done) | skip
    simp only [cNs] at h
    obtain ⟨i, h1, h⟩ := bind_some' h
    obtain ⟨js, h2, rfl⟩ := map_some' h
    simp [namesOf, cNs_len h2]
theorem tgt_own {scn : Sc} {tg : Expr} {t : Tgt} {own : List (Str × Nat)} (h : cT N scn tg = some (t, own)) : ∀ i ∈ tgIx t, i ∈ own.map (·.2) := by
  unfold cT at h
  split at h
  · obtain ⟨i, h1, e⟩ := map_some' h
    cases e
    exact fun i hi => by simpa [tgIx] using hi
  · obtain ⟨is, h1, e⟩ := map_some' h
    cases e
    intro i hi
    rw [List.map_snd_zip (by rw [cNs_len h1]; exact Nat.le_refl _)]
    exact hi
  · cases h
theorem isi_of {t : Str} {b : Bf} (h : isiOf t = some b) : ∃ (f : D → Bool) (tn : String), (∀ xs, evB b xs = bIs f xs) ∧ (∀ d, kindOk d = true → kitB (kindN d) tn = some (f d)) ∧ t ∈ bltNames ∧ bootBuiltins t = some (.type tn) ∧ t ≠ "__name__" ∧ (t == ("__debug__" : Str)) = false := by
  unfold isiOf at h
  split at h
  · rename_i e; cases h; subst e
    exact ⟨isStrD, "str", fun _ => rfl, is_str, by simp [bltNames], by decide +kernel, by decide, by decide⟩
  · split at h
    · rename_i e; cases h; subst e
      exact ⟨isIntD, "int", fun _ => rfl, is_int, by simp [bltNames], by decide +kernel, by decide, by decide⟩
    · split at h
      · rename_i e; cases h; subst e
        exact ⟨isBoolD, "bool", fun _ => rfl, is_bool, by simp [bltNames], by decide +kernel, by decide, by decide⟩
      · split at h
        · rename_i e; cases h; subst e
          exact ⟨isTupD, "tuple", fun _ => rfl, is_tuple, by simp [bltNames], by decide +kernel, by decide, by decide⟩
        · split at h
          · rename_i e; cases h; subst e
            exact ⟨isLstD, "list", fun _ => rfl, is_list, by simp [bltNames], by decide +kernel, by decide, by decide⟩
          · split at h
            · rename_i e; cases h; subst e
              exact ⟨isDctD, "dict", fun _ => rfl, is_dict, by simp [bltNames], by decide +kernel, by decide, by decide⟩
            · cases h
/-- the covered built-in functions -/
theorem bf_of {x : Str} {f : Bf} (h : bfOk x 1 = some f) (g : Good T Ct N C X sc) (hgl : Gl X x) (hl : Ct.glob.lookup x = none) {a : Expr} {fa : EV} {p pos : Pos} (ha : PE X a (rdE T fa)) (hs : noStar a = true) : PE X (.Call (.Name x p) [a] [] pos) (rdE T (evBl f (evCons fa evNil))) := by
  have hA : PA X [a] (rdA T (evCons fa evNil)) := s_cons ha s_nil hs
  unfold bfOk at h
  rw [if_pos rfl] at h
  split at h
  · rename_i e; cases h; subst e
    exact s_blt (cb_len g.K) hgl (g.blt _ (by simp [bltNames]) hl) (by decide +kernel) hA (by decide) (by decide) hs rfl
  · split at h
    · rename_i e; cases h; subst e
      exact s_blt cb_abs hgl (g.blt _ (by simp [bltNames]) hl) (by decide +kernel) hA (by decide) (by decide) hs rfl
    · split at h
      · rename_i e; cases h; subst e
        exact s_bltT cb_int hgl (g.blt _ (by simp [bltNames]) hl) (by decide +kernel) hA (by decide) (by decide) hs rfl
      · split at h
        · rename_i e; cases h; subst e
          exact s_blt (cb_any g.calm) hgl (g.blt _ (by simp [bltNames]) hl) (by decide +kernel) hA (by decide) (by decide) hs rfl
        · split at h
          · rename_i e; cases h; subst e
            exact s_blt (cb_all g.calm) hgl (g.blt _ (by simp [bltNames]) hl) (by decide +kernel) hA (by decide) (by decide) hs rfl
          · split at h
            · rename_i e; cases h; subst e
              exact s_blt (cb_sum g.calm) hgl (g.blt _ (by simp [bltNames]) hl) (by decide +kernel) hA (by decide) (by decide) hs rfl
            · split at h
              · rename_i e; cases h; subst e
                exact s_bltT (cb_tuple g.K) hgl (g.blt _ (by simp [bltNames]) hl) (by decide +kernel) hA (by decide) (by decide) hs rfl
              · split at h
                · rename_i e; cases h; subst e
                  exact s_blt (cb_min g.K g.calm g.un) hgl (g.blt _ (by simp [bltNames]) hl) (by decide +kernel) hA (by decide) (by decide) hs rfl
                · split at h
                  · rename_i e; cases h; subst e
                    exact s_blt (cb_max g.K g.calm g.un) hgl (g.blt _ (by simp [bltNames]) hl) (by decide +kernel) hA (by decide) (by decide) hs rfl
                  · cases h
theorem ev_list (mu : Bool) (a : ME) : evE C (wrapM mu (.blt .list [a])) = evList mu (evCons (evE C a) evNil) := by
  unfold wrapM evList
  cases mu with
  | true => rw [if_pos rfl, if_pos rfl, ev_mutl, ev_blt, ev_cons, ev_nil]
  | false => rw [if_neg Bool.false_ne_true, if_neg Bool.false_ne_true, ev_blt, ev_cons, ev_nil]
theorem cnt_str : ∀ x y d, evB .count [x, y] = some d → ∃ z, x = .str z := fun x y d h => by
  have h : bCount [x, y] = some d := h
  unfold bCount at h
  split at h
  · rename_i e; cases e; exact ⟨_, rfl⟩
  · cases h
theorem join_str : ∀ x y d, evB .join [x, y] = some d → ∃ z, x = .str z := fun x y d h => by
  have h : bJoin [x, y] = some d := h
  unfold bJoin at h
  split at h
  · rename_i e; cases e; exact ⟨_, rfl⟩
  · rename_i e; cases e; exact ⟨_, rfl⟩
  · cases h
theorem up_str : ∀ x d, evB .upper [x] = some d → ∃ z, x = .str z := fun x d h => by
  have h : bUpper [x] = some d := h
  unfold bUpper at h
  split at h
  · rename_i e; cases e; exact ⟨_, rfl⟩
  · cases h
theorem sz1000 {k : Nat} (h : k ≤ 1000) : k ≤ SZ := Nat.le_trans h (by decide)
/-- a list comprehension's parts -/
theorem snd_comp {n : Nat} (S : Snd T Ct N C n) (g : Good T Ct N C X sc) {elt tg it : Expr} {ifs : List Expr} {s : Scope} {p : Pos} {m : ME}
    (h : (cIt Ct N n sc (isTupE tg) it).bind (fun (k, args) => (cT N s.names tg).bind fun (t, own) => if blkN N sc s own then (cE Ct N n (relN s.names sc) elt).bind fun elt' => match ifs with
        | [] => some (.comp (Ct.mu p) elt' t (own.map (·.2)) k args none)
        | [c] => if testOk n c then (cE Ct N n (relN s.names sc) c).map fun c' => .comp (Ct.mu p) elt' t (own.map (·.2)) k args (some c') else none
        | _ => none
      else none) = some m) : ∃ (mu : Bool) (fe : EV) (t : Tgt) (own : List (Str × Nat)) (k : IK) (fs : EVs) (fc : Option EV), evE C m = evComp mu fe t (own.map (·.2)) k fs fc ∧ PI X tg it (rdI T fs k) ∧ BlkOk X.N X.env.scope s own ∧
      (∀ (s0 : Shared) (H : Hp) (c : Addr) (cl : List (Str × Addr)) (fp : List Addr), PG (X.blk s0 H s (compEnvC s cl c X.env) fp) tg (rdG T t)) ∧ (∀ (s0 : Shared) (H : Hp) (c : Addr) (cl : List (Str × Addr)) (fp : List Addr), PTs (X.blk s0 H s (compEnvC s cl c X.env) fp) ifs (ttOf T fc)) ∧
      (∀ (s0 : Shared) (H : Hp) (c : Addr) (cl : List (Str × Addr)) (fp : List Addr), PE (X.blk s0 H s (compEnvC s cl c X.env) fp) elt (rdE T fe)) ∧ (∀ x, foldedSetIterable it X.env x = pure x) ∧ (∀ i ∈ tgIx t, i ∈ own.map (·.2)) := by
  obtain ⟨⟨k, args⟩, h1, h⟩ := bind_some' h
  obtain ⟨⟨t, own⟩, h2, h⟩ := bind_some' h
  simp only at h
  split at h
  · rename_i hb
    have ok : BlkOk X.N X.env.scope s own := by rw [g.hN]; exact blkN_of g.sc hb
    have hk : s.kind = .function := ok.kind
    obtain ⟨elt', h3, h⟩ := bind_some' h
    obtain ⟨i1, i2⟩ := S.it X sc tg (isTupE tg) it k args g id h1
    have tg' := fun s0 H c cl fp => tgt_of (T := T) (stores_blk g hk s0 H c cl fp) g.hN g.nd g.calm g.K h2
    have he := fun s0 H c cl fp => S.e _ _ elt elt' (g.blk hk s0 H c cl fp) h3
    have hf := fun x => foldSet i2 X.env x
    have hown : ∀ i ∈ tgIx t, i ∈ own.map (·.2) := tgt_own h2
    split at h
    · cases h
      exact ⟨Ct.mu p, _, t, own, k, _, none, ev_compN C _ _ _ _ _ _, i1, ok, fun s0 H c cl fp => (tg' s0 H c cl fp).1, fun _ _ _ _ _ => pts_nil, he, hf, hown⟩
    · split at h
      · rename_i c ht
        obtain ⟨c', h4, rfl⟩ := map_some' h
        exact ⟨Ct.mu p, _, t, own, k, _, some _, ev_compS C _ _ _ _ _ _ _, i1, ok, fun s0 H c cl fp => (tg' s0 H c cl fp).1, fun s0 H c cl fp => pts_one (S.t _ _ _ c' n (g.blk hk s0 H c cl fp) ht h4), he, hf, hown⟩
      · cases h
    · cases h
  · cases h
end
end MP

set_option Elab.async false
set_option linter.all false
set_option maxRecDepth 100000
set_option maxHeartbeats 8000000
/-! MP: .. every expression, every test -/
namespace MP
open PySem PySem.Spec PyProof.Rows L2 TL
section
variable {T : Tb} {Ct : CT} {N : List Str} {C : Nat → List D → Store → R D} {X : Cx} {sc : Sc}
theorem snd_e {n : Nat} (S : Snd T Ct N C n) (g : Good T Ct N C X sc) {e : Expr} {m : ME} (h : cE Ct N (n + 1) sc e = some m) : PE X e (rdE T (evE C m)) := by
  have hE := fun (e : Expr) (m : ME) (h : cE Ct N n sc e = some m) => S.e X sc e m g h
  unfold cE at h
  split at h
  · -- a constant
    obtain ⟨d, h1, rfl⟩ := map_some' h
    rw [ev_con]
    exact s_con h1
  · -- a name
    rename_i x _
    split at h
    · obtain ⟨i, h1, rfl⟩ := map_some' h
      obtain ⟨a1, a2, a3, a4⟩ := var_of h1
      rw [ev_var]
      refine s_var (by rw [g.hN]; exact a1) ?_ a3 a4
      unfold Vis
      rw [g.sc]; exact a2
    · split at h
      · rename_i hg
        rw [Bool.and_eq_true, Bool.not_eq_true'] at hg
        split at h
        · rename_i d hd
          cases h
          obtain ⟨v, u, b1, b2, b3⟩ := g.con x d hd
          rw [ev_con]
          exact s_glob (g.gl (glo_of hg.1)) b1 b2 hg.2 b3
        · rename_i i hi
          cases h
          rw [ev_con]
          exact s_glob (v := .ref (T.fa i)) (g.gl (glo_of hg.1)) (g.fn x i hi).1 rfl hg.2 fun _ _ _ _ => .fn i
        · cases h
      · cases h
  · -- a op b
    obtain ⟨o, h1, h⟩ := bind_some' h
    obtain ⟨a', h2, h⟩ := bind_some' h
    obtain ⟨b', h3, rfl⟩ := map_some' h
    obtain rfl := cBop_op h1
    unfold wrapM
    split
    · rw [ev_mutl, ev_bin]
      exact s_binM o (hE _ _ h2) (hE _ _ h3)
    · rw [ev_bin]
      exact s_bin g.K o (hE _ _ h2) (hE _ _ h3)
  · obtain ⟨a', h2, rfl⟩ := map_some' h
    rw [ev_neg]
    exact s_neg (hE _ _ h2)
  · obtain ⟨a', h2, rfl⟩ := map_some' h
    rw [ev_nt]
    exact s_not (hE _ _ h2)
  · exact S.and X sc _ m _ g h
  · exact S.or X sc _ m _ g h
  · -- a if c else b
    split at h
    · rename_i ht
      obtain ⟨c', h1, h⟩ := bind_some' h
      obtain ⟨a', h2, h⟩ := bind_some' h
      obtain ⟨b', h3, rfl⟩ := map_some' h
      rw [ev_ite]
      exact s_ite (S.t X sc _ _ n g ht h1) (hE _ _ h2) (hE _ _ h3)
    · cases h
  · -- a comparison
    obtain ⟨o, h1, h⟩ := bind_some' h
    obtain ⟨a', h2, h⟩ := bind_some' h
    obtain ⟨b', h3, rfl⟩ := map_some' h
    obtain rfl := cCop_op h1
    rw [ev_cmp]
    exact s_cmp g.K g.un o (hE _ _ h2) (hE _ _ h3) (marks_of h3)
  · obtain ⟨o, h1, h⟩ := bind_some' h
    obtain ⟨o2, h1', h⟩ := bind_some' h
    obtain ⟨a', h2, h⟩ := bind_some' h
    obtain ⟨b', h3, h⟩ := bind_some' h
    obtain ⟨c', h4, rfl⟩ := map_some' h
    obtain rfl := cCop_op h1
    obtain rfl := cCop_op h1'
    rw [ev_chain]
    exact s_chain g.K g.un o o2 (hE _ _ h2) (hE _ _ h3) (hE _ _ h4) (marks_of h4)
  · -- a tuple
    split at h
    · rename_i hs
      rw [Bool.and_eq_true, decide_eq_true_eq] at hs
      obtain ⟨ms, h1, rfl⟩ := map_some' h
      obtain ⟨q1, q2⟩ := S.es X sc _ ms g hs.1 h1
      rw [ev_tup]
      exact s_tup q1 fun env st ds st' e => by rw [ev_len C ms _ _ _ _ e, q2]; exact sz1000 hs.2
    · cases h
  · split at h
    · rename_i hs
      rw [Bool.and_eq_true, decide_eq_true_eq] at hs
      obtain ⟨ms, h1, rfl⟩ := map_some' h
      obtain ⟨q1, q2⟩ := S.es X sc _ ms g hs.1 h1
      rw [ev_lst]
      exact s_lst q1 fun env st ds st' e => by rw [ev_len C ms _ _ _ _ e, q2]; exact sz1000 hs.2
    · cases h
  · split at h
    · cases h
    · cases h
      rw [ev_d0]
      exact s_d0
  · split at h
    · cases h
    · obtain ⟨k', h1, h⟩ := bind_some' h
      obtain ⟨v', h2, rfl⟩ := map_some' h
      rw [ev_d1]
      exact s_d1 (hE _ _ h1) (hE _ _ h2)
  · -- subscripts
    split at h
    · obtain ⟨a', h1, h⟩ := bind_some' h
      obtain ⟨lo', h2, h⟩ := bind_some' h
      obtain ⟨hi', h3, rfl⟩ := map_some' h
      rw [ev_slice]
      exact s_slice g.K (hE _ _ h1) (S.o X sc _ _ g h2) (S.o X sc _ _ g h3)
    · obtain ⟨a', h1, rfl⟩ := map_some' h
      rw [ev_rev]
      exact s_rev g.K (hE _ _ h1)
    · split at h
      · rename_i hsl
        obtain ⟨a', h1, h⟩ := bind_some' h
        obtain ⟨i', h2, rfl⟩ := map_some' h
        rw [ev_ix]
        exact s_ix g.K (hE _ _ h1) (hE _ _ h2) fun lo hi p e => by subst e; cases hsl
      · cases h
  · -- a list comprehension
    obtain ⟨mu, fe, t, own, k, fs, fc, e1, q1, q2, q3, q4, q5, q6, q7⟩ := snd_comp S g h
    rw [e1]
    exact s_comp g.calm (by rw [g.hN]; exact g.nd) q1 q2 q3 q4 q5 q6 q7
  · -- f(..)
    rename_i f p0 args p
    split at h
    · rename_i hg
      rw [Bool.and_eq_true, Bool.and_eq_true, Bool.not_eq_true'] at hg
      have hgl := g.gl (glo_of hg.1.1)
      split at h
      · rename_i i hi
        obtain ⟨ms, h1, rfl⟩ := map_some' h
        obtain ⟨q1, q2⟩ := S.es X sc _ ms g hg.2 h1
        obtain ⟨b1, fd, ps, k, np, b2, b3, b4, b5, b6⟩ := g.fn f i hi
        rw [ev_call]
        cases args with
        | nil =>
          cases ms with
          | nil =>
            rw [ev_nil]
            exact s_call0 b2 b3 b4 hgl b1 b5 b6 hg.1.2
          | cons _ _ => cases q2
        | cons a as => exact s_call b2 b3 b4 hgl b1 b5 b6 hg.1.2 q1 hg.2
      · cases h
      · rename_i hl
        split at h
        · -- isinstance
          rename_i a t p1
          split at h
          · rename_i hf
            obtain ⟨rfl, hb⟩ := hf
            obtain ⟨hgt, hlt⟩ := bltOf_of hb
            obtain ⟨b, h1, h⟩ := bind_some' h
            obtain ⟨a', h2, rfl⟩ := map_some' h
            obtain ⟨f, tn, c1, c2, c3, c4, c5, c6⟩ := isi_of h1
            rw [ev_blt, ev_cons, ev_nil]
            have hs : noStar a = true := by
              have := hg.2
              rw [List.all_cons, Bool.and_eq_true] at this
              exact this.1
            exact s_isi g.K c1 c2 hgl (g.blt _ (by simp [bltNames]) hl) (g.gl hgt) (g.blt _ c3 hlt) c4 c5 c6 (hE _ _ h2) hs
          · cases h
        · rename_i a
          have hs : noStar a = true := by simpa using hg.2
          split at h
          · rename_i hf
            subst hf
            obtain ⟨a', h2, rfl⟩ := map_some' h
            rw [ev_list]
            exact s_list g.K g.calm hgl (g.blt _ (by simp [bltNames]) hl) (s_cons (hE _ _ h2) s_nil hs) hs
          · split at h
            · cases h
            · obtain ⟨b, h1, h⟩ := bind_some' h
              obtain ⟨a', h2, rfl⟩ := map_some' h
              rw [ev_blt, ev_cons, ev_nil]
              exact bf_of h1 g hgl hl (hE _ _ h2) hs
        · cases h
    · cases h
  · -- o.m()
    split at h
    · rename_i hc
      rw [Bool.and_eq_true] at hc
      obtain ⟨o', h1, h'⟩ := bind_some' h
      clear h
      have h := h'
      clear h'
      split at h
      · rename_i e; subst e
        cases h
        rw [ev_pop]
        exact s_pop (hE _ _ h1) hc.1 hc.2
      · split at h
        · rename_i e; subst e
          cases h
          rw [ev_blt, ev_cons, ev_nil]
          exact s_mt0 PySem.F.slot_str_upper PySem.F.type_str_upper cm_upper up_str (hE _ _ h1) hc.1 hc.2
        · cases h
    · cases h
  · -- o.m(a)
    split at h
    · rename_i hc
      rw [Bool.and_eq_true, Bool.and_eq_true] at hc
      obtain ⟨o', h1, h''⟩ := bind_some' h
      obtain ⟨a', h2, h'⟩ := bind_some' h''
      clear h h''
      have h := h'
      clear h'
      split at h
      · rename_i e; subst e
        cases h
        rw [ev_app]
        exact s_app (hE _ _ h1) (hE _ _ h2) hc.1.1 hc.1.2 hc.2
      · split at h
        · rename_i e; subst e
          cases h
          rw [ev_ext]
          exact s_ext (hE _ _ h1) (hE _ _ h2) hc.1.1 hc.1.2 hc.2
        · split at h
          · rename_i e; subst e
            cases h
            rw [ev_popAt]
            exact s_popAt (hE _ _ h1) (hE _ _ h2) hc.1.1 hc.1.2 hc.2
          · split at h
            · rename_i e; subst e
              cases h
              rw [ev_blt, ev_cons, ev_cons, ev_nil]
              exact s_mt1 PySem.F.slot_str_count PySem.F.type_str_count cm_count cnt_str (hE _ _ h1) (hE _ _ h2) hc.1.1 hc.1.2 hc.2
            · split at h
              · rename_i e; subst e
                cases h
                rw [ev_blt, ev_cons, ev_cons, ev_nil]
                exact s_mt1 PySem.F.slot_str_join PySem.F.type_str_join (cm_join g.K) join_str (hE _ _ h1) (hE _ _ h2) hc.1.1 hc.1.2 hc.2
              · cases h
    · cases h
  · cases h
theorem snd_t {n : Nat} (S : Snd T Ct N C n) (g : Good T Ct N C X sc) {e : Expr} {m : ME} {j : Nat} (ht : testOk j e = true) (h : cE Ct N (n + 1) sc e = some m) : PT X e (rdT T (evE C m)) := by
  have hE := fun (e : Expr) (m : ME) (h : cE Ct N n sc e = some m) => S.e X sc e m g h
  have h0 := snd_e S g h
  cases j with
  | zero => simp [testOk] at ht
  | succ j =>
    cases e with
    | UnaryOp op a p =>
      cases op with
      | Not =>
        simp only [testOk] at ht
        unfold cE at h
        simp only at h
        obtain ⟨a', h2, rfl⟩ := map_some' h
        rw [ev_nt]
        exact s_notT (S.t X sc _ _ j g ht h2)
      | _ => exact s_val h0 fun _ => rfl
    | BoolOp op es p =>
      simp only [testOk] at ht
      cases op with
      | And =>
        unfold cE at h
        simp only at h
        exact (S.andT X sc es m j p g ht h).pt
      | Or =>
        unfold cE at h
        simp only at h
        exact (S.orT X sc es m j p g ht h).pt
    | IfExp _ _ _ _ => simp [testOk] at ht
    | NamedExpr _ _ _ => simp [testOk] at ht
    | Compare a ops bs p =>
      unfold cE at h
      split at h <;> first
        | (rename_i hq; cases hq; done)
        | skip
      all_goals first
        | (rename_i heq; cases heq; done)
        | skip
      · rename_i heq
        cases heq
        obtain ⟨o, h1, h⟩ := bind_some' h
        obtain ⟨a', h2, h⟩ := bind_some' h
        obtain ⟨b', h3, rfl⟩ := map_some' h
        obtain rfl := cCop_op h1
        rw [ev_cmp]
        exact s_cmpT g.K g.un o (hE _ _ h2) (hE _ _ h3) (marks_of h3)
      · rename_i heq
        cases heq
        obtain ⟨o, h1, h⟩ := bind_some' h
        obtain ⟨o2, h1', h⟩ := bind_some' h
        obtain ⟨a', h2, h⟩ := bind_some' h
        obtain ⟨b', h3, h⟩ := bind_some' h
        obtain ⟨c', h4, rfl⟩ := map_some' h
        obtain rfl := cCop_op h1
        obtain rfl := cCop_op h1'
        rw [ev_chain]
        exact s_chainT g.K g.un o o2 (hE _ _ h2) (hE _ _ h3) (hE _ _ h4) (marks_of h4)
      · cases h
    | _ => exact s_val h0 fun _ => rfl
theorem snd : ∀ n, Snd T Ct N C n
  | 0 => snd_zero
  | n + 1 =>
    have S := snd n
    { e := fun X sc e m g h => snd_e S g h
      es := fun X sc es ms g hs h => snd_es S g hs h
      and := fun X sc es m pos g h => snd_and S g h
      or := fun X sc es m pos g h => snd_or S g h
      o := fun X sc oe om g h => snd_o S g h
      it := fun X sc tg tup it k args g ht h => snd_it S g ht h
      t := fun X sc e m j g ht h => snd_t S g ht h
      andT := fun X sc es m j pos g ht h => snd_andT S g ht h
      orT := fun X sc es m j pos g ht h => snd_orT S g ht h }
end
end MP

set_option Elab.async false
set_option linter.all false
set_option maxRecDepth 100000
set_option maxHeartbeats 8000000
/-! MP: .. every statement -/
namespace MP
open PySem PySem.Spec PyProof.Rows L2 TL
theorem kindOf_eq (env : Env) (x : Str) : env.kindOf x = env.scope.names.lookup x := rfl
theorem sw_none {targets : List Expr} {e : Expr} {env : Env} (h : notTup e = true) : swappedStores targets e env = pure none := by
  unfold swappedStores
  split
  · rename_i heq
    split at heq
    · cases h
    · cases h
    · cases heq
  · rfl
theorem sw_par {a b : Expr} {x y : Str} {px py pt p2 : Pos} {kt k2 : Nat} {env : Env} (hk : env.scope.kind = .function) (h : parOk env.scope.names [.Name x px, .Name y py] [a, b] = true) : swappedStores [.Tuple [.Name x px, .Name y py] kt pt] (.Tuple [a, b] k2 p2) env = pure (some [x, y]) := by
  simp only [parOk, Bool.and_eq_true, Bool.not_eq_true', beq_iff_eq] at h
  obtain ⟨⟨⟨⟨⟨⟨⟨h1, h2⟩, h3⟩, h4⟩, h5⟩, h6⟩, h7⟩, h8⟩ := h
  have hb : env.blockKind = .function := by unfold Env.blockKind; rw [hk]; rfl
  have k1 : env.kindOf x = some .local := h1
  have k2' : env.kindOf y = some .local := h2
  unfold swappedStores
  have any : ([a, b].any fun | .Starred .. => true | _ => false) = false := by
    simp only [List.any_cons, List.any_nil, Bool.or_false, Bool.or_eq_false_iff]
    exact ⟨by cases a <;> first | rfl | (cases h5; done), by cases b <;> first | rfl | (cases h6; done)⟩
  have e1 : (if x == y then [x] else [x, y]) = [x, y] := by
    rw [if_neg]; simp [h4]
  have hne : ¬ x = y := by simpa using h4
  simp only [hb, any]
  simp [k1, k2', h3, Expr.pos, h7, h8, hb, List.eraseDups_cons, hne, Ne.symm hne]
  intro q
  exfalso
  rcases q with q | q
  · cases a <;> first | (cases q; done) | (cases h5; done)
  · cases b <;> first | (cases q; done) | (cases h6; done)
theorem filterMap_short {α β : Type} {f : α → Option β} : ∀ {xs : List α}, (∃ x ∈ xs, f x = none) → (xs.filterMap f).length ≠ xs.length
  | [], ⟨x, hx, _⟩ => by cases hx
  | y :: ys, ⟨x, hx, he⟩ => by
    have hle := List.length_filterMap_le f ys
    cases hy : f y with
    | none => rw [List.filterMap_cons_none hy]; simp; omega
    | some z =>
      rw [List.filterMap_cons_some hy]
      have hx' : x ∈ ys := by
        rcases List.mem_cons.mp hx with rfl | h
        · rw [he] at hy; cases hy
        · exact h
      have := filterMap_short (xs := ys) ⟨x, hx', he⟩
      intro e
      exact this (by simpa using e)
theorem sw_non {ts vs : List Expr} {k k2 : Nat} {p p2 : Pos} {env : Env} (h : noPar env.scope.names ts vs = true) : swappedStores [.Tuple ts k p] (.Tuple vs k2 p2) env = pure none := by
  unfold swappedStores
  simp only
  split
  · rfl
  · rename_i h1
    split
    · rfl
    · split
      · rfl
      · rename_i h2 h3
        exfalso
        unfold noPar at h
        simp only [Bool.or_eq_true, Bool.not_eq_true', bne_iff_ne, ne_eq, not_or, Bool.not_eq_false] at h h1
        rcases h with h | h | h
        · have q := h1.1.1
          simp only [beq_iff_eq] at q
          rcases q with q | q <;> simp [q] at h
        · exact h (by simpa using h1.1.2)
        · apply h3
          rw [Bool.or_eq_true]
          left
          rw [bne_iff_ne]
          apply filterMap_short
          obtain ⟨t, ht, hb⟩ := List.any_eq_true.mp h
          refine ⟨t, ht, ?_⟩
          cases t <;> first | rfl | skip
          rename_i x q
          have hb : (!(env.scope.names.lookup x == some .local)) = true := hb
          rw [Bool.not_eq_true'] at hb
          have hk : (env.kindOf x == some .local) = false := hb
          simp [hk]
section
variable (C : Nat → List D → Store → R D)
theorem ex_asg (i : Nat) (e : ME) : exS C (.asg i e) = exAsg i (evE C e) := by funext env st; first | (simp only [exS, exAsg]; done) | (simp only [exS, exAsg]; rfl)
theorem ex_asgT (is : List Nat) (e : ME) : exS C (.asgT is e) = exAsgT is (evE C e) := by funext env st; first | (simp only [exS, exAsgT]; done) | (simp only [exS, exAsgT]; rfl)
theorem ex_setIx (o i e : ME) : exS C (.setIx o i e) = exSet (evE C o) (evE C i) (evE C e) := by funext env st; first | (simp only [exS, exSet]; done) | (simp only [exS, exSet]; rfl)
theorem ex_exp (e : ME) : exS C (.exp e) = fun env st => (evE C e env st).toS env fun _ st1 => .nx env st1 := by funext env st; first | (simp only [exS]; done) | (simp only [exS]; rfl)
theorem ex_ret (e : ME) : exS C (.ret e) = fun env st => (evE C e env st).toS env fun d st1 => .rt d st1 := by funext env st; first | (simp only [exS]; done) | (simp only [exS]; rfl)
theorem ex_ife (c : ME) (a b : List MS) : exS C (.ife c a b) = exIf (evE C c) (exSs C a) (exSs C b) := by funext env st; first | (simp only [exS, exIf]; done) | (simp only [exS, exIf]; rfl)
theorem ex_forr (tg : Tgt) (k : IK) (args : List ME) (body : List MS) : exS C (.forr tg k args body) = exFor tg k (evEs C args) (exSs C body) := by funext env st; first | (simp only [exS, exFor, forT]; done) | (simp only [exS, exFor]; rfl)
theorem ex_whl (c : ME) (body : List MS) : exS C (.whl c body) = exWhl (evE C c) (exSs C body) := by funext env st; first | (simp only [exS, exWhl, whC]; done) | (simp only [exS, exWhl]; rfl)
theorem ex_brk : exS C .brk = fun env st => .bk env st := by funext env st; simp only [exS]
theorem ex_pas : exS C .pas = exNil := by funext env st; simp only [exS, exNil]
theorem ex_rse (c : Nat) : exS C (.rse c) = fun env st => .ex c none env st := by funext env st; simp only [exS]
theorem ex_nil : exSs C [] = exNil := by funext env st; simp only [exSs, exNil]
theorem ex_cons (s : MS) (ss : List MS) : exSs C (s :: ss) = exCons (exS C s) (exSs C ss) := by funext env st; first | (simp only [exSs, exCons]; done) | (simp only [exSs, exCons]; rfl)
end
/-- a def's own context -/
structure GoodS (T : Tb) (Ct : CT) (N : List Str) (C : Nat → List D → Store → R D) (X : Cx) (sc : Sc) : Prop where
  g : Good T Ct N C X sc
  hp : PassesOwn (model X.prog X.w) X.A X.env X.xe
  fn : ∀ x, X.fn x = true
section
variable {T : Tb} {Ct : CT} {N : List Str} {C : Nat → List D → Store → R D} {X : Cx} {sc : Sc}
theorem GoodS.stores (G : GoodS T Ct N C X sc) : Stores X sc := fun x hx => ⟨by unfold L2.Loc; rw [G.g.sc]; exact hx, .inl (G.fn x)⟩
theorem cE_tup2 {n : Nat} {a b : Expr} {k : Nat} {p : Pos} {m : ME} (h : cE Ct N n sc (.Tuple [a, b] k p) = some m) : ∃ n1 n2 a' b', cE Ct N n1 sc a = some a' ∧ cE Ct N n2 sc b = some b' ∧ m = .tup [a', b'] := by
  cases n with
  | zero => simp [cE] at h
  | succ n =>
    unfold cE at h
    simp only at h
    split at h
    · obtain ⟨ms, h1, rfl⟩ := map_some' h
      cases n with
      | zero => simp [cEs] at h1
      | succ n =>
        simp only [cEs] at h1
        obtain ⟨a', h2, h1⟩ := bind_some' h1
        obtain ⟨ms2, h3, rfl⟩ := map_some' h1
        cases n with
        | zero => simp [cEs] at h3
        | succ n =>
          simp only [cEs] at h3
          obtain ⟨b', h4, h3⟩ := bind_some' h3
          obtain ⟨ms3, h5, rfl⟩ := map_some' h3
          cases n with
          | zero => simp [cEs] at h5
          | succ n =>
            simp only [cEs] at h5
            cases h5
            exact ⟨_, _, a', b', h2, h4, rfl⟩
    · cases h
/-- a list comprehension, whose store comes with it -/
theorem cE_comp {n : Nat} {e : Expr} {m : ME} (h : cE Ct N n sc e = some m) (hc : notComp e = false) : ∃ elt tg it ifs s p, e = .ListComp elt [⟨tg, it, ifs, 0⟩] s p := by
  cases n with
  | zero => simp [cE] at h
  | succ n =>
    cases e <;> first | (simp [notComp] at hc; done) | skip
    · unfold cE at h
      split at h <;> first
        | (rename_i heq; cases heq; done)
        | skip
      all_goals first
        | (rename_i heq; cases heq; exact ⟨_, _, _, _, _, _, rfl⟩)
        | (cases h; done)
        | skip
    · simp [cE] at h
    · simp [cE] at h
theorem sw_not {e : Expr} {t : Option Expr} {l : Nat} {env : Env} (h : notComp e = true) : swapsWith e t l env = pure false := by
  cases e <;> first | rfl | (cases h; done)
theorem sw_lc {elt : Expr} {gs : List Comprehension} {s : Scope} {p py : Pos} {y : Str} {l : Nat} {env : Env} (hk : env.scope.kind = .function) : swapsWith (.ListComp elt gs s p) (some (.Name y py)) l env = pure ((env.scope.names.lookup y == some .local) && (py.line == p.line) && !(s.names.any fun (n, k) => n == y && (k == .local || k == .cell))) := by
  have hb : env.blockKind = .function := by unfold Env.blockKind; rw [hk]; rfl
  unfold swapsWith
  simp only [hb, kindOf_eq, Expr.pos]
  rfl
theorem sole_ix {o i e : Expr} {tp : Pos} {l : Nat} {env : Env} : swapsWithSole [.Subscript o i tp] e l env = pure false := by
  cases e <;> rfl
theorem sole_tup {es : List Expr} {k : Nat} {e : Expr} {tp : Pos} {l : Nat} {env : Env} : swapsWithSole [.Tuple es k tp] e l env = pure false := by
  cases e <;> rfl
structure SndS (T : Tb) (Ct : CT) (N : List Str) (C : Nat → List D → Store → R D) (n : Nat) : Prop where
  s : ∀ X sc st m, GoodS T Ct N C X sc → cS Ct N n sc st = some m → PS X st (rdS T (exS C m))
  ss : ∀ X sc st m, GoodS T Ct N C X sc → cSs Ct N n sc st = some m → PSs X st (rdS T (exSs C m))
theorem snd_ss {n : Nat} (S : SndS T Ct N C n) (G : GoodS T Ct N C X sc) {st : List Stmt} {m : List MS} (h : cSs Ct N (n + 1) sc st = some m) : PSs X st (rdS T (exSs C m)) := by
  cases st with
  | nil =>
    simp [cSs] at h
    subst h
    rw [ex_nil]
    exact s_nils
  | cons s ss =>
    simp only [cSs] at h
    obtain ⟨a, h1, h⟩ := bind_some' h
    obtain ⟨b, h2, rfl⟩ := map_some' h
    rw [ex_cons]
    exact s_conss (S.s X sc s a G h1) (S.ss X sc ss b G h2)
theorem snd_asg {n : Nat} (G : GoodS T Ct N C X sc) {x : Str} {px pos : Pos} {e : Expr} {m : MS} (h : (locOf N sc x).bind (fun i => (cE Ct N n sc e).map fun e' => .asg i e') = some m) : PS X (.Assign [.Name x px] e pos) (rdS T (exS C m)) := by
  have g := G.g
  obtain ⟨i, h1, h⟩ := bind_some' h
  obtain ⟨e', h2, rfl⟩ := map_some' h
  obtain ⟨l1, l2⟩ := loc_of h1
  obtain ⟨a1, a2⟩ := G.stores x l2
  have hN : X.N.Nodup := by rw [g.hN]; exact g.nd
  have hi : X.N[i]? = some x := by rw [g.hN]; exact l1
  rw [ex_asg]
  cases hc : notComp e with
  | true => exact s_asg hN hi a1 a2 ((snd n).e X sc e e' g h2) (sw_not hc)
  | false =>
    obtain ⟨elt, tg, it, ifs, s, p, rfl⟩ := cE_comp h2 hc
    have sw := sw_lc (elt := elt) (gs := [⟨tg, it, ifs, 0⟩]) (s := s) (p := p) (py := px) (y := x) (l := pos.line) (env := X.env) g.kind
    cases hb : ((X.env.scope.names.lookup x == some .local) && (px.line == p.line) && !(s.names.any fun (n, k) => n == x && (k == .local || k == .cell))) with
    | false =>
      rw [hb] at sw
      exact s_asg hN hi a1 a2 ((snd n).e X sc _ e' g h2) sw
    | true =>
      rw [hb] at sw
      have hl : X.env.scope.names.lookup x = some .local := by
        rw [Bool.and_eq_true, Bool.and_eq_true] at hb
        exact eq_of_beq hb.1.1
      cases n with
      | zero => simp [cE] at h2
      | succ n =>
        unfold cE at h2
        simp only at h2
        obtain ⟨mu, fe, t, own, k, fs, fc, e1, q1, q2, q3, q4, q5, q6, q7⟩ := snd_comp (snd n) g h2
        rw [e1]
        exact s_asgLc g.calm hN hi hl sw q1 q2 q3 q4 q5 q6 q7
theorem snd_asgT {n : Nat} (G : GoodS T Ct N C X sc) {ts : List Expr} {k : Nat} {pt pos : Pos} {e : Expr} {m : MS} (h : (if allNames ts && (notTup e || (parOk sc ts (tupEs e) || noPar sc ts (tupEs e))) then (cNs N sc ts).bind fun is => (cE Ct N n sc e).map fun e' => .asgT is e' else none) = some m) : PS X (.Assign [.Tuple ts k pt] e pos) (rdS T (exS C m)) := by
  have g := G.g
  have hN : X.N.Nodup := by rw [g.hN]; exact g.nd
  split at h
  · rename_i hc
    rw [Bool.and_eq_true, Bool.or_eq_true, Bool.or_eq_true] at hc
    obtain ⟨is, h1, h⟩ := bind_some' h
    obtain ⟨e', h2, rfl⟩ := map_some' h
    obtain ⟨q1, q2, q3, q4⟩ := names_of (T := T) G.stores g.hN g.nd h1
    rw [ex_asgT]
    cases hnt : notTup e with
    | true => exact s_asgT g.calm g.K q4 q1 q2 ((snd n).e X sc e e' g h2) (sw_none hnt) sole_tup
    | false =>
      have hp : parOk sc ts (tupEs e) = true ∨ noPar sc ts (tupEs e) = true := by
        rcases hc.2 with z | z
        · rw [hnt] at z; cases z
        · exact z
      cases e <;> first | (cases hnt; done) | skip
      simp only [tupEs] at hp
      rcases hp with hp | hp
      case inr => exact s_asgT g.calm g.K q4 q1 q2 ((snd n).e X sc _ e' g h2) (sw_non (by rw [g.sc]; exact hp)) sole_tup
      unfold parOk at hp
      split at hp
      · rename_i x px y py a b _
        obtain ⟨n1, n2, a', b', c1, c2, rfl⟩ := cE_tup2 h2
        have hp' : parOk X.env.scope.names [.Name x px, .Name y py] [a, b] = true := by rw [g.sc]; exact hp
        simp only [cNs] at h1
        obtain ⟨i, i1, h1⟩ := bind_some' h1
        obtain ⟨is2, i2, rfl⟩ := map_some' h1
        obtain ⟨j, j1, i2⟩ := bind_some' i2
        cases i2
        simp only [Bool.and_eq_true, Bool.not_eq_true', beq_iff_eq] at hp
        obtain ⟨⟨⟨⟨⟨⟨⟨z1, z2⟩, z3⟩, z4⟩, z5⟩, z6⟩, z7⟩, z8⟩ := hp
        have e1 : evE C (.tup [a', b']) = evTup (evCons (evE C a') (evCons (evE C b') evNil)) := by rw [ev_tup, ev_cons, ev_cons, ev_nil]
        rw [e1]
        have l1 := (loc_of i1).1
        have l2 := (loc_of j1).1
        refine s_par g.calm hN (by rw [g.hN]; exact l1) (by rw [g.hN]; exact l2) (fun q => ?_) (by rw [g.sc]; exact z1) (by rw [g.sc]; exact z2) ((snd n1).e X sc a a' g c1) ((snd n2).e X sc b b' g c2) z5 z6 (sw_par g.kind hp')
        subst q
        rw [l1] at l2
        cases l2
        simp at z4
      · cases hp
  · cases h
theorem snd_s {n : Nat} (S : SndS T Ct N C n) (G : GoodS T Ct N C X sc) {st : Stmt} {m : MS} (h : cS Ct N (n + 1) sc st = some m) : PS X st (rdS T (exS C m)) := by
  have g := G.g
  have hE := fun (e : Expr) (m : ME) (h : cE Ct N n sc e = some m) => (snd (T := T) (C := C) n).e X sc e m g h
  unfold cS at h
  split at h
  · exact snd_asg G h
  · exact snd_asgT G h
  · split at h
    · rename_i hsl
      obtain ⟨o', h1, h⟩ := bind_some' h
      obtain ⟨i', h2, h⟩ := bind_some' h
      obtain ⟨e', h3, rfl⟩ := map_some' h
      rw [ex_setIx]
      exact s_setIx (hE _ _ h1) (hE _ _ h2) (hE _ _ h3) hsl sole_ix (by unfold swappedStores; split <;> first | rfl | (rename_i heq; split at heq <;> first | (cases heq; done) | skip) ; all_goals (rename_i h0 _ _; cases h0))
    · cases h
  · split at h
    · rename_i hc
      obtain ⟨e', h1, rfl⟩ := map_some' h
      rw [ex_exp]
      exact s_expr (hE _ _ h1) (sw_not hc)
    · cases h
  · obtain ⟨e', h1, rfl⟩ := map_some' h
    rw [ex_ret]
    exact s_ret (hE _ _ h1)
  · cases h
    rw [ex_ret]
    have : (fun (env : MEnv) (st : Store) => (evE C (.con .non) env st).toS env fun d st1 => RS.rt d st1) = fun env st => RS.rt .non st := by
      funext env st
      rw [ev_con]; rfl
    rw [this]
    exact s_retN
  · split at h
    · rename_i ht
      obtain ⟨c', h1, h⟩ := bind_some' h
      obtain ⟨a', h2, h⟩ := bind_some' h
      obtain ⟨b', h3, rfl⟩ := map_some' h
      rw [ex_ife]
      exact s_if ((snd n).t X sc _ _ n g ht h1) (S.ss X sc _ _ G h2) (S.ss X sc _ _ G h3)
    · cases h
  · obtain ⟨⟨k, args⟩, h1, h⟩ := bind_some' h
    obtain ⟨⟨t, own⟩, h2, h⟩ := bind_some' h
    obtain ⟨b, h3, rfl⟩ := map_some' h
    obtain ⟨i1, i2⟩ := (snd (T := T) (C := C) n).it X sc _ _ _ k args g id h1
    rw [ex_forr]
    exact s_for G.hp g.calm i1 (tgt_of G.stores g.hN g.nd g.calm g.K h2).1 (S.ss X sc _ _ G h3) (foldSet i2 _)
  · split at h
    · rename_i ht
      obtain ⟨c', h1, h⟩ := bind_some' h
      obtain ⟨b', h2, rfl⟩ := map_some' h
      rw [ex_whl]
      exact s_while G.hp ((snd n).t X sc _ _ n g ht h1) (S.ss X sc _ _ G h2)
    · cases h
  · cases h
    rw [ex_brk]
    exact s_break
  · cases h
    rw [ex_pas]
    exact s_pass
  · split at h
    · split at h
      · cases h
        rw [ex_rse]
        exact s_badly fun env st N R K w => w
      · cases h
    · cases h
  · cases h
theorem sndS : ∀ n, SndS T Ct N C n
  | 0 => ⟨fun _ _ _ _ _ h => by simp [cS] at h, fun _ _ _ _ _ h => by simp [cSs] at h⟩
  | n + 1 => have S := sndS n; ⟨fun X sc st m G h => snd_s S G h, fun X sc st m G h => snd_ss S G h⟩
end
end MP

set_option Elab.async false
set_option linter.all false
set_option maxRecDepth 100000
set_option maxHeartbeats 4000000
/-! MP: a def of the text does what the evaluator's call does -/
namespace MP
open PySem PySem.Spec PyProof.Rows L2 TL
section
variable {T : Tb} {H : Hp} {M M' : List Addr} {B : Addr → Prop} {n : Nat}
mutual
theorem RD.shrink (hM : ∀ (l : Nat) a, l < n → M'[l]? = some a → M[l]? = some a) (hs : ∀ a, a ∈ M → a ∈ M') : ∀ {d : D} {v : V}, RD T H M' B n d v → RD T H M B n d v
  | _, _, .non => .non
  | _, _, .bl b => .bl b
  | _, _, .int i => .int i
  | _, _, .str h => .str h
  | _, _, .tup h r => .tup h (RDs.shrink hM hs r)
  | _, _, .lst h hm hn r => .lst h (fun z => hm (hs _ z)) hn (RDs.shrink hM hs r)
  | _, _, .dct h hm hn r => .dct h (fun z => hm (hs _ z)) hn (RDk.shrink hM hs r)
  | _, _, .ref h hm => .ref h (hM _ _ h hm)
  | _, _, .fn f => .fn f
  | _, _, .scr h => .scr h
theorem RDs.shrink (hM : ∀ (l : Nat) a, l < n → M'[l]? = some a → M[l]? = some a) (hs : ∀ a, a ∈ M → a ∈ M') : ∀ {d : List D} {v : List V}, RDs T H M' B n d v → RDs T H M B n d v
  | _, _, .nil => .nil
  | _, _, .cons h r => .cons (RD.shrink hM hs h) (RDs.shrink hM hs r)
theorem RDk.shrink (hM : ∀ (l : Nat) a, l < n → M'[l]? = some a → M[l]? = some a) (hs : ∀ a, a ∈ M → a ∈ M') : ∀ {d : List (D × D)} {v : List (Key × V)}, RDk T H M' B n d v → RDk T H M B n d v
  | _, _, .nil => .nil
  | _, _, .cons h r => .cons (RD.shrink hM hs h) (RDk.shrink hM hs r)
end
theorem RO.shrink {l : Nat} {o : MObj} {a : Addr} (hM : ∀ (k : Nat) a, k < l → M'[k]? = some a → M[k]? = some a) (hs : ∀ a, a ∈ M → a ∈ M') (h : RO T H M' B l o a) : RO T H M B l o a := by
  cases o with
  | lst ds => obtain ⟨vs, q, r⟩ := h; exact ⟨vs, q, r.shrink hM hs⟩
  | dct ds => obtain ⟨vs, q, r⟩ := h; exact ⟨vs, q, r.shrink hM hs⟩
theorem mapM_rd {st : Store} {f : D → Option D} {P : D → V → Prop} {Q : D → V → Prop} : ∀ {xs ys : List D} {vs : List V} {m : Nat} {M2 : List Addr}, xs.mapM f = some ys → RDs T H M' B m xs vs → (∀ x y v, f x = some y → RD T H M' B m x v → RD T H M B n y v) → RDs T H M B n ys vs
  | [], ys, vs, _, _, h, r, w => by
    have : ys = [] := by simpa using h.symm
    subst this
    cases r
    exact .nil
  | x :: xs, ys, vs, _, M2, h, r, w => by
    rw [List.mapM_cons] at h
    cases h1 : f x with
    | none => rw [h1] at h; cases h
    | some y =>
      rw [h1] at h
      have h : (xs.mapM f).bind (fun ys' => some (y :: ys')) = some ys := h
      cases h2 : xs.mapM f with
      | none => rw [h2] at h; cases h
      | some ys' =>
        rw [h2] at h
        cases h
        cases r with
        | cons r rr => exact .cons (w _ _ _ h1 r) (mapM_rd (st := st) (P := P) (Q := Q) (M2 := M2) h2 rr w)
/-- what a def hands back, seen by its caller -/
theorem fz_rd {st' : Store} (hM : ∀ (l : Nat) a, l < n → M'[l]? = some a → M[l]? = some a) (hs : ∀ a, a ∈ M → a ∈ M') (hsm : ∀ (l : Nat) a, n ≤ l → M'[l]? = some a → a ∉ M) (rs : RSt T H M' B st') : ∀ {k : Nat} {d d' : D} {v : V}, fz st' n k d = some d' → RD T H M' B M'.length d v → RD T H M B n d' v := by
  have plainCase : ∀ {d d' : D} {v : V}, (if MP.below n d = true then some d else none) = some d' → RD T H M' B M'.length d v → RD T H M B n d' v := fun {d d' v} h r => by
    split at h
    · cases h
      exact (r.under (by assumption)).shrink hM hs
    · cases h
  have refCase : ∀ {l : Nat} {d' : D} {v : V}, (if l < n then some (D.ref l) else match st'[l]? with
    | some (.lst xs) => if MP.belows n xs then some (D.lst xs) else none
    | some (.dct kvs) => if MP.belowk n kvs then some (D.dct kvs) else none
    | none => none) = some d' → RD T H M' B M'.length (.ref l) v → RD T H M B n d' v := fun {l d' v} h r => by
    cases r with
    | @ref _ a hl hm =>
      split at h
      · rename_i hln
        cases h
        exact .ref hln (hM _ _ hln hm)
      · rename_i hln
        have hmem : a ∈ M' := List.mem_of_getElem? hm
        have hb : ¬ B a := fun z => (rs.bar a z).2 hmem
        split at h
        · rename_i xs hx
          split at h
          · cases h
            obtain ⟨vs, e1, e2⟩ := rs.at_ l a _ hm hx
            exact .lst e1 (hsm _ _ (Nat.le_of_not_lt hln) hm) hb ((e2.under (by assumption)).shrink hM hs)
          · cases h
        · rename_i xs hx
          split at h
          · cases h
            obtain ⟨vs, e1, e2⟩ := rs.at_ l a _ hm hx
            exact .dct e1 (hsm _ _ (Nat.le_of_not_lt hln) hm) hb ((e2.under (by assumption)).shrink hM hs)
          · cases h
        · cases h
  intro k
  induction k with
  | zero =>
    intro d d' v h r
    cases d with
    | ref l => unfold fz at h; exact refCase h r
    | _ => unfold fz at h; exact plainCase h r
  | succ k ih =>
    intro d d' v h r
    cases d with
    | ref l => unfold fz at h; exact refCase h r
    | tup xs =>
      unfold fz at h
      split at h
      · cases h
        exact (r.under (by simpa [MP.below])).shrink hM hs
      · obtain ⟨ys, h1, rfl⟩ := map_some' h
        obtain ⟨a, vs, rfl, hq, rr⟩ := r.tup_inv
        exact .tup hq (mapM_rd (st := st') (P := fun _ _ => True) (Q := fun _ _ => True) (M2 := M) h1 rr fun x y v e r => ih e r)
    | _ => unfold fz at h; exact plainCase h r
end
theorem env_start {T : Tb} {H : Hp} {M : List Addr} {B : Addr → Prop} {N : List Str} {ds : List D} {vs : List V} (r : RDs T H M B M.length ds vs) (hl : ds.length ≤ N.length) : RE T H M B (ds.map some ++ List.replicate (N.length - ds.length) none) (L2.start N vs) := by
  have hlen := r.length
  refine ⟨by unfold L2.start; simp [hlen], fun i d h => ?_⟩
  by_cases hi : i < ds.length
  · rw [List.getElem?_append_left (by simpa using hi), List.getElem?_map] at h
    cases e : ds[i]? with
    | none => rw [e] at h; cases h
    | some d0 =>
      rw [e] at h
      cases h
      obtain ⟨v, hv, rv⟩ := r.get e
      refine ⟨v, ?_, rv⟩
      unfold L2.start
      rw [List.getElem?_append_left (by simpa [← hlen] using hi), List.getElem?_map, hv]; rfl
  · rw [List.getElem?_append_right (by simpa using Nat.le_of_not_lt hi), List.getElem?_replicate] at h
    split at h <;> cases h
/-- a def of the text: its name, its statement, its local names (the parameters first), its parameters; whether its made objects stay mutable -/
structure DI where
  name : Str
  st : Stmt
  N : List Str
  ps : List Str
  keep : Bool
def mdef (Ct : CT) (d : DI) : Option MDef := (cSs Ct d.N 200 (defScope d.st).names (defBody d.st)).map fun b => { ps := d.ps.length, n := d.N.length, body := b, keep := d.keep }
def dtab (Ct : CT) (L : List DI) (i : Nat) : Option MDef := (L[i]?).bind (mdef Ct)
theorem runDef_len {C : Nat → List D → Store → R D} {m : MDef} {ds : List D} {st : Store} {P : D → Store → Prop} (h : Wp (runDef C m ds st) P) : ds.length = m.ps := by
  unfold runDef at h
  split at h
  · assumption
  · exact h.elim
/-- what the tables say of the module -/
structure Mods (T : Tb) (Ct : CT) (L : List DI) (mg : Str → Option Value) : Prop where
  fun_ : ∀ i d, L[i]? = some d → FnScope d.N d.ps (defScope d.st) ∧ ∃ fd, Fun T.K d.name d.name d.st (T.fa i) fd ∧ Binds T.K fd d.ps []
  glob : ∀ x i, Ct.glob.lookup x = some (.fn i) → i < L.length ∧ mg x = some (.ref (T.fa i))
  con : ∀ x d, Ct.glob.lookup x = some (.con d) → ∃ v u, mg x = some u ∧ RelV v u ∧ ∀ H M B n, RD T H M B n d v
  blt : ∀ x, x ∈ bltNames → Ct.glob.lookup x = none → mg x = none
section
variable {T : Tb} {Ct : CT} {L : List DI} {mg : Str → Option Value} {P : Program} {w : World} {base : Heap}
theorem fn_sound (O : Mods T Ct L mg) : ∀ (k i : Nat) (d : DI) (fd : FuncData), L[i]? = some d → Fun T.K d.name d.name d.st (T.fa i) fd → FnOk P w T.K mg base CX0 k (T.fa i) fd d.ps (spOf T (callK (dtab Ct L) k i) d.ps.length) := by
  intro k
  induction k with
  | zero => exact fun i d fd hd F => ⟨fun vs H Q E h => h.1, fun A outer s H args us vs Q E hr he hb hv hs => by
      obtain ⟨_, B, M, ds, st, _, _, h⟩ := hs
      exact h.elim⟩
  | succ k ih =>
    intro i d fd hd F
    cases hm : mdef Ct d with
    | none =>
      have hbad : ∀ ds st, callK (dtab Ct L) (k + 1) i ds st = .bad := fun ds st => by
        unfold callK dtab
        rw [hd]
        simp [hm]
      exact ⟨fun vs H Q E h => h.1, fun A outer s H args us vs Q E hr he hb hv hs => by
        obtain ⟨_, B, M, ds, st, _, _, h⟩ := hs
        rw [hbad] at h
        exact h.elim⟩
    | some m =>
      obtain ⟨body, hbody, rfl⟩ := map_some' hm
      obtain ⟨S, _⟩ := O.fun_ i d hd
      have hrun : ∀ ds st, callK (dtab Ct L) (k + 1) i ds st = runDef (callK (dtab Ct L) k) { ps := d.ps.length, n := d.N.length, body := body, keep := d.keep } ds st := fun ds st => by
        unfold callK dtab
        rw [hd]
        simp [hm]
      refine F.ok S (fun vs H Q E h => h.1) (fun cdv A outer s H vs Q E hr hsp => ?_)
      obtain ⟨_, B, M, ds, st, rd, rs, hw⟩ := hsp
      rw [hrun] at hw
      refine ⟨rdS T (exSs (callK (dtab Ct L) k) body), ?_, B, M, ds.map some ++ List.replicate (d.N.length - ds.length) none, st, env_start rd ?_, rs, ?_⟩
      · -- the body
        refine (sndS (T := T) (C := callK (dtab Ct L) k) 200).ss _ (defScope d.st).names _ _ ⟨?_, PassesOwn.never, fun _ => rfl⟩ hbody
        refine ⟨rfl, rfl, S.nd, S.kind, rfl, rfl, ?_, O.con, fun x j hx => ?_, O.blt⟩
        · have := hr.un
          show (A.deeper _).units + 66 < cLine
          omega
        · obtain ⟨hj, hmg⟩ := O.glob x j hx
          obtain ⟨dj, hdj⟩ : ∃ dj, L[j]? = some dj := ⟨_, List.getElem?_eq_getElem hj⟩
          obtain ⟨_, fdj, Fj, bj⟩ := O.fun_ j dj hdj
          refine ⟨hmg, fdj, dj.ps, k, dj.ps.length, fun ds st e st' h => ?_, ih j dj fdj hdj Fj, hr, Fj.kp, bj⟩
          cases k with
          | zero => cases h
          | succ k =>
            unfold callK at h
            have hd' : dtab Ct L j = mdef Ct dj := by unfold dtab; rw [hdj]; rfl
            rw [hd'] at h
            cases hm' : mdef Ct dj with
            | none => rw [hm'] at h; cases h
            | some m' =>
              rw [hm'] at h
              obtain ⟨b', _, rfl⟩ := map_some' hm'
              have : Wp (runDef (callK (dtab Ct L) k) { ps := dj.ps.length, n := dj.N.length, body := b', keep := dj.keep } ds st) fun _ _ => True := by
                have h : runDef (callK (dtab Ct L) k) { ps := dj.ps.length, n := dj.N.length, body := b', keep := dj.keep } ds st = .ok e st' := h
                rw [h]; trivial
              exact runDef_len this
      · have h1 := runDef_len hw
        have h2 : d.ps.length ≤ d.N.length := by have := congrArg List.length S.pre; rw [List.length_take] at this; omega
        rw [h1]; exact h2
      · have h1 := runDef_len hw
        unfold runDef at hw
        rw [if_pos h1] at hw
        simp only at hw
        -- the end of the run
        have fin : ∀ {e : D} {st' : Store}, Wp (finish d.keep st.length e st') (fun d' s' => Want T B H M s' d' Q) → Want T B H M st' e Q := fun {e st'} hf v H' M' ev rs' r => by
          unfold finish at hf
          split at hf
          · exact hf v H' M' ev rs' r
          · split at hf
            · rename_i d' hd'
              have hlen := rs.len
              have hM : ∀ (l : Nat) a, l < M.length → M'[l]? = some a → M[l]? = some a := fun l a hl e => by
                have := ev.pre l _ (List.getElem?_eq_getElem hl)
                rw [e] at this; cases this
                exact List.getElem?_eq_getElem hl
              have hs' : ∀ a, a ∈ M → a ∈ M' := fun a ha => ev.sub ha
              have hsm : ∀ (l : Nat) a, M.length ≤ l → M'[l]? = some a → a ∉ M := fun l a hl e ha => by
                obtain ⟨j, hj, ej⟩ := List.mem_iff_getElem.mp ha
                have q := ev.pre j a (by rw [List.getElem?_eq_getElem hj, ej])
                have := nodup_get rs'.nd e q
                omega
              have rs2 : RSt T H' M B (st'.take st.length) := by
                refine ⟨?_, rs.nd, fun l a o e1 e2 => ?_, fun b hb => ⟨(rs'.bar b hb).1, fun z => (rs'.bar b hb).2 (hs' b z)⟩⟩
                · have := ev.len
                  rw [List.length_take, ← rs'.len]
                  omega
                · have hl : l < M.length := (List.getElem?_eq_some_iff.mp e1).1
                  rw [List.getElem?_take_of_lt (by omega)] at e2
                  exact (rs'.at_ l a o (ev.pre l a e1) e2).shrink (fun k a hk e => hM k a (by omega) e) hs'
              refine hf v H' M ⟨ev.keep, ev.tups, ev.frzs, fun _ _ h => h, fun _ h h' => absurd h h'⟩ rs2 ?_
              rw [← hlen] at hd'
              exact fz_rd hM hs' hsm rs' hd' r
            · exact hf.elim
        cases hex : exSs (callK (dtab Ct L) k) body (ds.map some ++ List.replicate (d.N.length - ds.length) none) st with
        | nx e s' =>
          rw [hex] at hw
          intro σ' H' M' ev rs' _
          exact fin hw _ H' M' ev rs' .non
        | rt d s' =>
          rw [hex] at hw
          exact fin hw
        | bk e s' => rw [hex] at hw; exact hw.elim
        | ex _ _ _ _ => rw [hex] at hw; exact hw.elim
        | bad => rw [hex] at hw; exact hw.elim
end
end MP

set_option Elab.async false
set_option linter.all false
set_option maxRecDepth 100000
set_option maxHeartbeats 4000000
/-! MP: the module's tables by lists; a law's own promise -/
namespace MP
open PySem PySem.Spec PyProof.Rows L2 TL
def conOk (K : PySem.W.Frag) : Nat → D → Value → Bool
  | 0, _, _ => false
  | n + 1, d, u => match d, u with
    | .non, .none => true
    | .bl b, .bool c => b == c
    | .int i, .int j _ => decide (i = j)
    | .str s, .str x _ => decide (x.cps.toList = s) && strOk s
    | .tup ds, .ref a => match K.lookup a with
      | some ⟨.type c, _, .seq its _, _⟩ => decide (c = "tuple") && (decide (its.size ≤ sizeLine) && ((its.size == ds.length) && (ds.zip its.toList).all fun p => conOk K n p.1 p.2))
      | _ => false
    | _, _ => false
theorem conOk_rd {T : Tb} : ∀ {n : Nat} {d : D} {u : Value}, conOk T.K n d u = true → ∃ v, RelV v u ∧ ∀ H M B m, RD T H M B m d v
  | 0, _, _, h => by cases h
  | n + 1, d, u, h => by
    unfold conOk at h
    split at h
    · exact ⟨.non, rfl, fun _ _ _ _ => .non⟩
    · rename_i b c
      exact ⟨.bl b, by rw [eq_of_beq h]; rfl, fun _ _ _ _ => .bl b⟩
    · rename_i i j t
      exact ⟨.int i, ⟨t, by rw [of_decide_eq_true h]⟩, fun _ _ _ _ => .int i⟩
    · rename_i s x t
      rw [Bool.and_eq_true] at h
      have e := of_decide_eq_true h.1
      refine ⟨.str x, ⟨t, rfl⟩, fun H M B m => ?_⟩
      have q : RD T H M B m (.str s) (.str ⟨s.toArray⟩) := .str h.2
      have e2 : (⟨s.toArray⟩ : Str) = x := by cases x; simp [← e]
      rw [e2] at q
      exact q
    · rename_i ds a
      split at h
      · rename_i c od its nn osl hl
        simp only [Bool.and_eq_true, decide_eq_true_eq] at h
        obtain ⟨h1, h2, h3, h4⟩ := h
        have all : ∀ (ds : List D) (us : List Value), us.length = ds.length → (ds.zip us).all (fun p => conOk T.K n p.1 p.2) = true → ∃ vs, Vals vs us ∧ ∀ H M B m, RDs T H M B m ds vs := by
          intro ds
          induction ds with
          | nil =>
            intro us hl _
            cases us with
            | nil => exact ⟨[], .nil, fun _ _ _ _ => .nil⟩
            | cons _ _ => cases hl
          | cons d ds ih =>
            intro us hl ha
            cases us with
            | nil => cases hl
            | cons u us =>
              rw [List.zip_cons_cons, List.all_cons, Bool.and_eq_true] at ha
              obtain ⟨v, r1, r2⟩ := conOk_rd ha.1
              obtain ⟨vs, r3, r4⟩ := ih us (by simpa using hl) ha.2
              exact ⟨v :: vs, .cons r1 r3, fun H M B m => .cons (r2 H M B m) (r4 H M B m)⟩
        obtain ⟨vs, r1, r2⟩ := all ds its.toList (by simpa using eq_of_beq h3) h4
        exact ⟨.ref a, rfl, fun H M B m => .tup (.inr ⟨_, its, nn, hl, by rw [h1], rfl, h2, r1⟩) (r2 H M B m)⟩
      · cases h
    · cases h
def AllL (f : Nat → DI → Prop) : Nat → List DI → Prop
  | _, [] => True
  | i, d :: r => f i d ∧ AllL f (i + 1) r
def AllG (f : Str → GV → Prop) : List (Str × GV) → Prop
  | [] => True
  | p :: r => f p.1 p.2 ∧ AllG f r
theorem allL_get {f : Nat → DI → Prop} : ∀ {L : List DI} {i j : Nat} {d : DI}, AllL f j L → L[i]? = some d → f (j + i) d
  | [], i, j, d, _, h => by simp at h
  | e :: L, 0, j, d, hf, h => by simp at h; subst h; exact hf.1
  | e :: L, i + 1, j, d, hf, h => by
    have := allL_get (i := i) hf.2 (by simpa using h)
    rw [show j + (i + 1) = j + 1 + i by omega]
    exact this
theorem allG_get {f : Str → GV → Prop} : ∀ {g : List (Str × GV)} {x : Str} {v : GV}, AllG f g → g.lookup x = some v → f x v
  | [], x, v, _, h => by simp at h
  | p :: g, x, v, hf, h => by
    obtain ⟨y, u⟩ := p
    rw [List.lookup_cons] at h
    cases e : x == y with
    | true =>
      rw [e] at h
      cases h
      rw [eq_of_beq e]
      exact hf.1
    | false =>
      rw [e] at h
      exact allG_get hf.2 h
def GlOk (T : Tb) (n : Nat) (mg : Str → Option Value) (x : Str) : GV → Prop
  | .fn i => i < n ∧ mg x = some (.ref (T.fa i))
  | .con d => ∃ v u, mg x = some u ∧ RelV v u ∧ ∀ H M B n, RD T H M B n d v
  | .cls _ => True
theorem con_of {T : Tb} {K : PySem.W.Frag} (hK : T.K = K) {n k : Nat} {mg : Str → Option Value} {x : Str} {d : D} {u : Value} (h : mg x = some u) (hc : conOk K k d u = true) : GlOk T n mg x (.con d) := by
  subst hK
  obtain ⟨v, r1, r2⟩ := conOk_rd hc
  exact ⟨v, u, h, r1, r2⟩
theorem Mods.mk_lists {T : Tb} {Ct : CT} {L : List DI} {mg : Str → Option Value} (h1 : AllL (fun i d => FnScope d.N d.ps (defScope d.st) ∧ ∃ fd, Fun T.K d.name d.name d.st (T.fa i) fd ∧ Binds T.K fd d.ps []) 0 L)
    (h2 : AllG (GlOk T L.length mg) Ct.glob) (h3 : ∀ x, x ∈ bltNames → Ct.glob.lookup x = none → mg x = none) : Mods T Ct L mg where
  fun_ := fun i d hd => by have := allL_get h1 hd; rwa [Nat.zero_add] at this
  glob := fun x i hx => allG_get h2 hx
  con := fun x d hx => allG_get h2 hx
  blt := h3
/-- the law's promise: it answers True at every script -/
def spLaw (K : PySem.W.Frag) : Sp := fun vs H Q _ => ∃ (a : Addr) (ns : List Int), vs = [.ref a] ∧ SqL K H a (ns.map V.int) ∧ Only H ∧ ns.length ≤ 63 ∧ ∀ H', Q (.bl true) H'
theorem law_imp {T : Tb} {P : Program} {w : World} {mg : Str → Option Value} {base : Heap} {k : Nat} {f : Addr} {fd : FuncData} {ps : List Str} {cl : List D → Store → R D} (F : FnOk P w T.K mg base CX0 k f fd ps (spOf T cl 1))
    (h : ∀ ns : List Int, ns.length ≤ 63 → Wp (cl [.scr ns] []) fun d _ => d = .bl true) : FnOk P w T.K mg base CX0 k f fd ps (spLaw T.K) := by
  refine F.imp fun vs H Q E hs => ?_
  obtain ⟨a, ns, rfl, hS, hO, hl, q⟩ := hs
  refine ⟨rfl, fun _ => False, [], [.scr ns], [], .cons (.scr ?_) .nil, ⟨rfl, List.nodup_nil, fun l a o e _ => by simp at e, fun b hb => hb.elim⟩, (h ns hl).mono fun d st hd => ?_⟩
  · rcases hS with (h1 | h1) | h1
    · rcases hO a with z | ⟨o, xs, z⟩
      · rw [h1] at z; cases z
      · rw [h1] at z; cases z
    · exact .inl h1
    · exact .inr h1
  · subst hd
    intro v H' M' _ _ r
    rw [r.bl_inv]
    exact q H'
end MP

set_option Elab.async false
set_option linter.all false
set_option maxRecDepth 100000
set_option maxHeartbeats 4000000
/-! MP: the evaluator's runs, by what is wanted of their ends -/
namespace MP
section
variable {C : Nat → List D → Store → R D} {env : MEnv} {st : Store}
@[simp] theorem wp_ok {α : Type} {a : α} {P : α → Store → Prop} : Wp (.ok a st) P ↔ P a st := Iff.rfl
@[simp] theorem wp_bad {α : Type} {P : α → Store → Prop} : Wp (.bad : R α) P ↔ False := Iff.rfl
theorem wp_bind {α β : Type} {r : R α} {f : α → Store → R β} {P : β → Store → Prop} : Wp (r.bind f) P ↔ Wp r fun a s => Wp (f a s) P := by cases r <;> exact Iff.rfl
theorem wp_ofO {α : Type} {o : Option α} {P : α → Store → Prop} : Wp (ofO o st) P ↔ ∃ a, o = some a ∧ P a st := by
  cases o with
  | none => exact ⟨fun h => h.elim, fun ⟨a, e, _⟩ => by cases e⟩
  | some a => exact ⟨fun h => ⟨a, rfl, h⟩, fun ⟨b, e, h⟩ => by cases e; exact h⟩
theorem ws_toS {α : Type} {r : R α} {f : α → Store → RS} {N : MEnv → Store → Prop} {R' : D → Store → Prop} {K : MEnv → Store → Prop} : WS (r.toS env f) N R' K ↔ Wp r fun a s => WS (f a s) N R' K := by cases r <;> exact Iff.rfl
/-- a known end -/
theorem eq_of_wp {r : R D} {v : D} {s : Store} (h : Wp r fun d s' => d = v ∧ s' = s) : r = .ok v s := by
  obtain ⟨d, s', e, rfl, rfl⟩ := h.ok
  exact e
theorem wp_of_eq {r : R D} {v : D} {s : Store} (h : r = .ok v s) {P : D → Store → Prop} (p : P v s) : Wp r P := by rw [h]; exact p
theorem wp_congr {α : Type} {r : R α} {P Q : α → Store → Prop} (h : ∀ a s, P a s ↔ Q a s) : Wp r P ↔ Wp r Q := ⟨fun w => w.mono fun a s => (h a s).mp, fun w => w.mono fun a s => (h a s).mpr⟩
/-- by a truth -/
def Two (d : D) (A B : Prop) : Prop := match d with
  | .bl true => A
  | .bl false => B
  | _ => False
@[simp] theorem two_bl {b : Bool} {A B : Prop} : Two (.bl b) A B ↔ (if b = true then A else B) := by cases b <;> simp [Two]
theorem wp_truth {α : Type} {d : D} {x y : R α} {P : α → Store → Prop} : Wp (match truth d with | some true => x | some false => y | none => .bad) P ↔ Two d (Wp x P) (Wp y P) := by
  cases d with
  | bl b => cases b <;> exact Iff.rfl
  | _ => exact Iff.rfl
theorem ws_truth {d : D} {x y : RS} {N : MEnv → Store → Prop} {R' : D → Store → Prop} {K : MEnv → Store → Prop} : WS (match truth d with | some true => x | some false => y | none => .bad) N R' K ↔ Two d (WS x N R' K) (WS y N R' K) := by
  cases d with
  | bl b => cases b <;> exact Iff.rfl
  | _ => exact Iff.rfl
/-- by the items -/
def Itm (o : Option (List D × Guard)) (Q : List D → Guard → Prop) : Prop := ∃ q, o = some q ∧ Q q.1 q.2
@[simp] theorem itm_some {xs : List D} {g : Guard} {Q : List D → Guard → Prop} : Itm (some (xs, g)) Q ↔ Q xs g := ⟨fun ⟨q, e, h⟩ => by cases e; exact h, fun h => ⟨_, rfl, h⟩⟩
/-! ### expressions -/
variable {P : D → Store → Prop} {a b c e : ME} {es : List ME}
@[simp] theorem wp_con {d : D} : Wp (evE C (.con d) env st) P ↔ P d st := by rw [ev_con]; exact Iff.rfl
@[simp] theorem wp_var {i : Nat} : Wp (evE C (.var i) env st) P ↔ ∃ d, env[i]? = some (some d) ∧ P d st := by
  rw [ev_var]; unfold evVar
  cases h : env[i]? with
  | none => simp
  | some o => cases o <;> simp
@[simp] theorem wp_bin {op : Bop} : Wp (evE C (.bin op a b) env st) P ↔ Wp (evE C a env st) fun x s1 => Wp (evE C b env s1) fun y s2 => ∃ d, ((view s2 x).bind fun x' => (view s2 y).bind fun y' => evBin op x' y') = some d ∧ P d s2 := by
  rw [ev_bin]; simp only [wp_bind, wp_ofO]
@[simp] theorem wp_nt : Wp (evE C (.nt a) env st) P ↔ Wp (evE C a env st) fun x s1 => ∃ b, x = .bl b ∧ P (.bl (!b)) s1 := by
  rw [ev_nt]; simp only [wp_bind, wp_ofO]
  constructor
  · intro h
    refine h.mono fun x s ⟨d, h1, h2⟩ => ?_
    cases x with
    | bl b => cases h1; exact ⟨b, rfl, h2⟩
    | _ => cases h1
  · intro h
    refine h.mono fun x s ⟨b, h1, h2⟩ => ?_
    subst h1
    exact ⟨_, rfl, h2⟩
@[simp] theorem wp_neg : Wp (evE C (.neg a) env st) P ↔ Wp (evE C a env st) fun x s1 => ∃ i, x = .int i ∧ P (.int (-i)) s1 := by
  rw [ev_neg]; simp only [wp_bind]
  constructor
  · intro h
    refine h.mono fun x s h1 => ?_
    cases x with
    | int i => exact ⟨i, rfl, h1⟩
    | _ => exact h1.elim
  · intro h
    refine h.mono fun x s ⟨b, h1, h2⟩ => ?_
    subst h1
    exact h2
@[simp] theorem wp_and : Wp (evE C (.and a b) env st) P ↔ Wp (evE C a env st) fun x s1 => Two x (Wp (evE C b env s1) P) (P x s1) := by
  rw [ev_and]; unfold evAnd; exact wp_bind.trans (wp_congr fun x s => wp_truth)
@[simp] theorem wp_or : Wp (evE C (.or a b) env st) P ↔ Wp (evE C a env st) fun x s1 => Two x (P x s1) (Wp (evE C b env s1) P) := by
  rw [ev_or]; unfold evOr; exact wp_bind.trans (wp_congr fun x s => wp_truth)
@[simp] theorem wp_ite : Wp (evE C (.ite c a b) env st) P ↔ Wp (evE C c env st) fun x s1 => Two x (Wp (evE C a env s1) P) (Wp (evE C b env s1) P) := by
  rw [ev_ite]; unfold evIte; exact wp_bind.trans (wp_congr fun x s => wp_truth)
@[simp] theorem wp_cmp {op : Cop} : Wp (evE C (.cmp op a b) env st) P ↔ Wp (evE C a env st) fun x s1 => Wp (evE C b env s1) fun y s2 => ∃ k, ((view s2 x).bind fun x' => (view s2 y).bind fun y' => evCmp op x' y') = some k ∧ P (.bl k) s2 := by
  rw [ev_cmp]; unfold evCm; simp only [wp_bind, wp_ofO]
  constructor
  · intro h
    refine h.mono fun x s h => h.mono fun y s ⟨d, h1, h2⟩ => ?_
    obtain ⟨x', y', e1, e2, e3⟩ := bind2_some h1
    obtain ⟨k, e4, rfl⟩ := map_some' e3
    exact ⟨k, by rw [e1, e2]; exact e4, h2⟩
  · intro h
    refine h.mono fun x s h => h.mono fun y s ⟨k, h1, h2⟩ => ?_
    obtain ⟨x', y', e1, e2, e3⟩ := bind2_some h1
    exact ⟨_, by rw [e1, e2]; show (evCmp op x' y').map D.bl = _; rw [e3]; rfl, h2⟩
@[simp] theorem wp_chain {op op2 : Cop} : Wp (evE C (.chain op op2 a b c) env st) P ↔ Wp (evE C a env st) fun x s1 => Wp (evE C b env s1) fun y s2 => ∃ k, ((view s2 x).bind fun x' => (view s2 y).bind fun y' => evCmp op x' y') = some k ∧
    if k = true then Wp (evE C c env s2) fun z s3 => ∃ k, ((view s3 y).bind fun x' => (view s3 z).bind fun y' => evCmp op2 x' y') = some k ∧ P (.bl k) s3 else P (.bl false) s2 := by
  rw [ev_chain]; unfold evChain; simp only [wp_bind, wp_ofO]
  have key : ∀ (y : D) (s : Store), (Wp (if (true : Bool) = true then (evE C c env s).bind fun z st4 => ofO ((view st4 y).bind fun y' => (view st4 z).bind fun z' => (evCmp op2 y' z').map .bl) st4 else .ok (.bl false) s) P) ↔ Wp (evE C c env s) fun z s3 => ∃ k, ((view s3 y).bind fun x' => (view s3 z).bind fun y' => evCmp op2 x' y') = some k ∧ P (.bl k) s3 := fun y s => by
    rw [if_pos rfl]
    simp only [wp_bind, wp_ofO]
    constructor
    · intro h
      refine h.mono fun z s ⟨d, h1, h2⟩ => ?_
      obtain ⟨x', y', e1, e2, e3⟩ := bind2_some h1
      obtain ⟨k, e4, rfl⟩ := map_some' e3
      exact ⟨k, by rw [e1, e2]; exact e4, h2⟩
    · intro h
      refine h.mono fun z s ⟨k, h1, h2⟩ => ?_
      obtain ⟨x', y', e1, e2, e3⟩ := bind2_some h1
      exact ⟨_, by rw [e1, e2]; show (evCmp op2 x' y').map D.bl = _; rw [e3]; rfl, h2⟩
  constructor
  · intro h
    refine h.mono fun x s h => h.mono fun y s ⟨k, h1, h2⟩ => ⟨k, h1, ?_⟩
    cases k with
    | true => rw [if_pos rfl]; exact (key y s).mp h2
    | false => exact h2
  · intro h
    refine h.mono fun x s h => h.mono fun y s ⟨k, h1, h2⟩ => ⟨k, h1, ?_⟩
    cases k with
    | true => rw [if_pos rfl] at h2; exact (key y s).mpr h2
    | false => exact h2
@[simp] theorem wp_nil {P : List D → Store → Prop} : Wp (evEs C [] env st) P ↔ P [] st := by rw [ev_nil]; exact Iff.rfl
@[simp] theorem wp_cons {P : List D → Store → Prop} : Wp (evEs C (e :: es) env st) P ↔ Wp (evE C e env st) fun d s1 => Wp (evEs C es env s1) fun ds s2 => P (d :: ds) s2 := by
  rw [ev_cons]; unfold evCons; simp only [wp_bind, wp_ok]
@[simp] theorem wp_callE {f : Nat} : Wp (evE C (.call f es) env st) P ↔ Wp (evEs C es env st) fun ds s1 => Wp (C f ds s1) P := by
  rw [ev_call]; unfold evCall; simp only [wp_bind]
@[simp] theorem wp_blt {f : Bf} : Wp (evE C (.blt f es) env st) P ↔ Wp (evEs C es env st) fun ds s1 => ∃ d, ((views s1 ds).bind fun xs => evB f xs) = some d ∧ P d s1 := by
  rw [ev_blt]; unfold evBl; simp only [wp_bind, wp_ofO]
@[simp] theorem wp_tup : Wp (evE C (.tup es) env st) P ↔ Wp (evEs C es env st) fun ds s1 => P (.tup ds) s1 := by
  rw [ev_tup]; unfold evTup; simp only [wp_bind, wp_ok]
@[simp] theorem wp_lstF : Wp (evE C (.lst false es) env st) P ↔ Wp (evEs C es env st) fun ds s1 => P (.lst ds) s1 := by
  rw [ev_lst]; unfold evLst; simp only [wp_bind]; exact Iff.rfl
@[simp] theorem wp_lstT : Wp (evE C (.lst true es) env st) P ↔ Wp (evEs C es env st) fun ds s1 => P (.ref s1.length) (s1 ++ [.lst ds]) := by
  rw [ev_lst]; unfold evLst; simp only [wp_bind]; exact Iff.rfl
@[simp] theorem wp_d1 {k v : ME} : Wp (evE C (.dct false [(k, v)]) env st) P ↔ Wp (evE C k env st) fun x s1 => Wp (evE C v env s1) fun y s2 => dctOk false [(x, y)] = true ∧ P (.dct [(x, y)]) s2 := by
  rw [ev_d1]; unfold evD1; simp only [wp_bind]
  constructor
  · intro h
    refine h.mono fun x s h => h.mono fun y s h => ?_
    split at h
    · exact ⟨by assumption, h⟩
    · exact h.elim
  · intro h
    refine h.mono fun x s h => h.mono fun y s h => ?_
    rw [if_pos h.1]
    exact h.2
@[simp] theorem wp_ix {i : ME} : Wp (evE C (.ix a i) env st) P ↔ Wp (evE C a env st) fun x s1 => Wp (evE C i env s1) fun y s2 => ∃ d, ((view s2 x).bind fun x' => evIx x' y) = some d ∧ P d s2 := by
  rw [ev_ix]; unfold evIxx; simp only [wp_bind, wp_ofO]
@[simp] theorem wp_oN {P : Option Int → Store → Prop} : Wp (evO C none env st) P ↔ P none st := by rw [ev_oN]; exact Iff.rfl
@[simp] theorem wp_oS {P : Option Int → Store → Prop} : Wp (evO C (some e) env st) P ↔ Wp (evE C e env st) fun d s1 => ∃ i, d = .int i ∧ P (some i) s1 := by
  rw [ev_oS]; unfold evPart; simp only [wp_bind, wp_ofO]
  constructor
  · intro h
    refine h.mono fun x s ⟨o, h1, h2⟩ => ?_
    cases x with
    | int i => cases h1; exact ⟨i, rfl, h2⟩
    | _ => cases h1
  · intro h
    refine h.mono fun x s ⟨b, h1, h2⟩ => ?_
    subst h1
    exact ⟨_, rfl, h2⟩
@[simp] theorem wp_slice {lo hi : Option ME} : Wp (evE C (.slice a lo hi) env st) P ↔ Wp (evE C a env st) fun x s1 => Wp (evO C lo env s1) fun l s2 => Wp (evO C hi env s2) fun h s3 => ∃ d, ((view s3 x).bind fun x' => evSl x' l h) = some d ∧ P d s3 := by
  rw [ev_slice]; unfold evSlc; simp only [wp_bind, wp_ofO]
@[simp] theorem wp_rev : Wp (evE C (.rev a) env st) P ↔ Wp (evE C a env st) fun x s1 => ∃ d, ((view s1 x).bind evRev) = some d ∧ P d s1 := by
  rw [ev_rev]; unfold evRv; simp only [wp_bind, wp_ofO]
@[simp] theorem wp_compN {elt : ME} {tg : Tgt} {own : List Nat} {k : IK} : Wp (evE C (.comp false elt tg own k es none) env st) P ↔ Wp (evEs C es env st) fun ds s1 => Itm (itemsOf s1 k ds) fun xs g => Wp (compL (compT (evE C elt) none tg own env) g xs [] s1) fun ds s2 => P (.lst ds) s2 := by
  rw [ev_compN]; unfold evComp; simp only [wp_bind]
  constructor
  · intro h
    refine h.mono fun ds s h => ?_
    cases hi : itemsOf s k ds with
    | none => rw [hi] at h; exact h.elim
    | some q => rw [hi] at h; exact ⟨q, rfl, (wp_bind.mp h)⟩
  · intro h
    refine h.mono fun ds s ⟨q, hi, h⟩ => ?_
    rw [hi]
    exact wp_bind.mpr h
@[simp] theorem wp_compS {elt : ME} {tg : Tgt} {own : List Nat} {k : IK} : Wp (evE C (.comp false elt tg own k es (some c)) env st) P ↔ Wp (evEs C es env st) fun ds s1 => Itm (itemsOf s1 k ds) fun xs g => Wp (compL (compT (evE C elt) (some (evE C c)) tg own env) g xs [] s1) fun ds s2 => P (.lst ds) s2 := by
  rw [ev_compS]; unfold evComp; simp only [wp_bind]
  constructor
  · intro h
    refine h.mono fun ds s h => ?_
    cases hi : itemsOf s k ds with
    | none => rw [hi] at h; exact h.elim
    | some q => rw [hi] at h; exact ⟨q, rfl, (wp_bind.mp h)⟩
  · intro h
    refine h.mono fun ds s ⟨q, hi, h⟩ => ?_
    rw [hi]
    exact wp_bind.mpr h
/-- a comprehension's turn -/
@[simp] theorem wp_turnN {fe : EV} {tg : Tgt} {own : List Nat} {x : D} {P : Option D → Store → Prop} : Wp (compT fe none tg own env x st) P ↔ ∃ env1, asgTgt (wipeE env own) tg x = some env1 ∧ Wp (fe env1 st) fun d s => P (some d) s := by
  unfold compT
  cases asgTgt (wipeE env own) tg x with
  | none => simp
  | some env1 => simp [wp_bind]
@[simp] theorem wp_turnS {fe fc : EV} {tg : Tgt} {own : List Nat} {x : D} {P : Option D → Store → Prop} : Wp (compT fe (some fc) tg own env x st) P ↔ ∃ env1, asgTgt (wipeE env own) tg x = some env1 ∧ Wp (fc env1 st) fun b s1 => Two b (Wp (fe env1 s1) fun d s => P (some d) s) (P none s1) := by
  unfold compT
  cases asgTgt (wipeE env own) tg x with
  | none => simp
  | some env1 =>
    constructor
    · intro h
      refine ⟨env1, rfl, (wp_bind.mp h).mono fun b s h => ?_⟩
      have h := wp_truth.mp h
      rwa [wp_bind] at h
    · rintro ⟨e1, e, h⟩
      cases e
      refine wp_bind.mpr (h.mono fun b s h => wp_truth.mpr ?_)
      rw [wp_bind]
      exact h
/-- each turn is known, and changes nothing -/
theorem wp_compL {f : D → Store → R (Option D)} {G : D → Option D} {P : List D → Store → Prop} : ∀ {items acc : List D}, (∀ x ∈ items, Wp (f x st) fun o s => o = G x ∧ s = st) → acc.length + items.length ≤ SZ → P (acc ++ items.filterMap G) st → Wp (compL f [] items acc st) P
  | [], acc, _, _, p => by unfold compL; simpa using p
  | x :: items, acc, h, hl, p => by
    obtain ⟨o, s, e, e1, e2⟩ := (h x List.mem_cons_self).ok
    rw [e1, e2] at e
    have hg : gok [] st = true := rfl
    unfold compL
    rw [e]
    simp only [hg, if_true]
    have hl' : acc.length + (items.length + 1) ≤ SZ := by simpa using hl
    cases hG : G x with
    | none =>
      rw [List.filterMap_cons_none hG] at p
      exact wp_compL (fun y hy => h y (List.mem_cons_of_mem _ hy)) (by omega) p
    | some d =>
      rw [List.filterMap_cons_some hG] at p
      simp only
      rw [if_pos (by omega)]
      refine wp_compL (fun y hy => h y (List.mem_cons_of_mem _ hy)) (by simp; omega) ?_
      rw [List.append_assoc]
      exact p
/-! ### statements -/
variable {N : MEnv → Store → Prop} {R' : D → Store → Prop} {K : MEnv → Store → Prop} {s : MS} {ss as bs : List MS}
@[simp] theorem ws_nil : WS (exSs C [] env st) N R' K ↔ N env st := by rw [ex_nil]; exact Iff.rfl
@[simp] theorem ws_cons : WS (exSs C (s :: ss) env st) N R' K ↔ WS (exS C s env st) (fun e1 s1 => WS (exSs C ss e1 s1) N R' K) R' K := by
  rw [ex_cons]; unfold exCons
  cases exS C s env st <;> exact Iff.rfl
@[simp] theorem ws_asg {i : Nat} : WS (exS C (.asg i e) env st) N R' K ↔ Wp (evE C e env st) fun d s1 => N (setV env i d) s1 := by
  rw [ex_asg]; unfold exAsg; simp only [ws_toS]; exact Iff.rfl
@[simp] theorem ws_exp : WS (exS C (.exp e) env st) N R' K ↔ Wp (evE C e env st) fun d s1 => N env s1 := by
  rw [ex_exp]; simp only [ws_toS]; exact Iff.rfl
@[simp] theorem ws_ret : WS (exS C (.ret e) env st) N R' K ↔ Wp (evE C e env st) fun d s1 => R' d s1 := by
  rw [ex_ret]; simp only [ws_toS]; exact Iff.rfl
@[simp] theorem ws_ife : WS (exS C (.ife c as bs) env st) N R' K ↔ Wp (evE C c env st) fun x s1 => Two x (WS (exSs C as env s1) N R' K) (WS (exSs C bs env s1) N R' K) := by
  rw [ex_ife]; unfold exIf; exact ws_toS.trans (wp_congr fun x s => ws_truth)
@[simp] theorem ws_setIx {o i : ME} : WS (exS C (.setIx o i e) env st) N R' K ↔ Wp (evE C e env st) fun v s1 => Wp (evE C o env s1) fun d s2 => Wp (evE C i env s2) fun k s3 => Wp (setObj s3 d k v) fun _ s4 => N env s4 := by
  rw [ex_setIx]; unfold exSet; simp only [ws_toS]; exact Iff.rfl
@[simp] theorem ws_forr {tg : Tgt} {k : IK} {body : List MS} : WS (exS C (.forr tg k es body) env st) N R' K ↔ Wp (evEs C es env st) fun ds s1 => Itm (itemsOf s1 k ds) fun xs g => WS (forL (forT tg (exSs C body)) g xs env s1) N R' K := by
  rw [ex_forr]; unfold exFor; simp only [ws_toS]
  constructor
  · intro h
    refine h.mono fun ds s h => ?_
    cases hi : itemsOf s k ds with
    | none => rw [hi] at h; exact h.elim
    | some q => rw [hi] at h; exact ⟨q, rfl, h⟩
  · intro h
    refine h.mono fun ds s ⟨q, hi, h⟩ => ?_
    rw [hi]
    exact h
@[simp] theorem ws_brk : WS (exS C .brk env st) N R' K ↔ K env st := by rw [ex_brk]; exact Iff.rfl
@[simp] theorem ws_pas : WS (exS C .pas env st) N R' K ↔ N env st := by rw [ex_pas]; exact Iff.rfl
@[simp] theorem ws_rse {i : Nat} : WS (exS C (.rse i) env st) N R' K ↔ False := by rw [ex_rse]; exact Iff.rfl
/-- a for's turn -/
@[simp] theorem ws_turn {tg : Tgt} {gb : XS} {x : D} : WS (forT tg gb x env st) N R' K ↔ ∃ env1, asgTgt env tg x = some env1 ∧ WS (gb env1 st) N R' K := by
  unfold forT
  cases asgTgt env tg x with
  | none =>
    constructor
    · exact fun h => h.elim
    · rintro ⟨_, e, _⟩; cases e
  | some env1 =>
    constructor
    · exact fun h => ⟨_, rfl, h⟩
    · rintro ⟨_, e, h⟩; cases e; exact h
theorem forL_nil {f : D → MEnv → Store → RS} {g : Guard} : WS (forL f g [] env st) N R' K ↔ N env st := by unfold forL; exact Iff.rfl
theorem forL_cons {f : D → MEnv → Store → RS} {g : Guard} {x : D} {xs : List D} : WS (forL f g (x :: xs) env st) N R' K ↔ WS (f x env st) (fun e1 s1 => gok g s1 = true ∧ WS (forL f g xs e1 s1) N R' K) R' N := by
  rw [show forL f g (x :: xs) env st = (match f x env st with
    | .nx env' st' => if gok g st' then forL f g xs env' st' else .bad
    | .bk env' st' => .nx env' st'
    | r => r) by rw [forL] <;> rfl]
  cases f x env st with
  | nx e1 s1 =>
    simp only
    constructor
    · intro h
      split at h
      · exact ⟨by assumption, h⟩
      · exact h.elim
    · rintro ⟨h1, h2⟩
      rw [if_pos h1]; exact h2
  | bk e1 s1 => exact Iff.rfl
  | rt d s1 => exact Iff.rfl
  | ex _ _ _ _ => exact Iff.rfl
  | bad => exact Iff.rfl
/-- a loop by what holds at each turn: I by the items that are still to come -/
theorem forL_inv {f : D → MEnv → Store → RS} (I : List D → MEnv → Store → Prop) (hd : ∀ env st, I [] env st → N env st) (hs : ∀ x xs env st, I (x :: xs) env st → WS (f x env st) (fun e1 s1 => I xs e1 s1) R' N) : ∀ {xs : List D} {env : MEnv} {st : Store}, I xs env st → WS (forL f [] xs env st) N R' K
  | [], env, st, h => forL_nil.mpr (hd _ _ h)
  | x :: xs, env, st, h => forL_cons.mpr ((hs x xs env st h).mono (fun e1 s1 h => ⟨rfl, forL_inv I hd hs h⟩) (fun _ _ h => h) fun _ _ h => h)
/-! ### calls -/
theorem wp_call {defs : Nat → Option MDef} {k i : Nat} {m : MDef} {ds : List D} (h : defs i = some m) : Wp (callK defs (k + 1) i ds st) P ↔ ds.length = m.ps ∧ WS (exSs (callK defs k) m.body (ds.map some ++ List.replicate (m.n - ds.length) none) st) (fun _ s => Wp (finish m.keep st.length .non s) P) (fun d s => Wp (finish m.keep st.length d s) P) (fun _ _ => False) := by
  have : callK defs (k + 1) i ds st = runDef (callK defs k) m ds st := by rw [callK, h]
  rw [this]
  unfold runDef
  by_cases hl : ds.length = m.ps
  · rw [if_pos hl]
    cases exSs (callK defs k) m.body (ds.map some ++ List.replicate (m.n - ds.length) none) st with
    | nx _ _ => exact ⟨fun h => ⟨hl, h⟩, fun h => h.2⟩
    | rt _ _ => exact ⟨fun h => ⟨hl, h⟩, fun h => h.2⟩
    | bk _ _ => exact ⟨fun h => h.elim, fun h => h.2.elim⟩
    | ex _ _ _ _ => exact ⟨fun h => h.elim, fun h => h.2.elim⟩
    | bad => exact ⟨fun h => h.elim, fun h => h.2.elim⟩
  · rw [if_neg hl]
    exact ⟨fun h => h.elim, fun h => (hl h.1).elim⟩
@[simp] theorem wp_keep {n : Nat} {d : D} : Wp (finish true n d st) P ↔ P d st := by unfold finish; exact Iff.rfl
/-- no mutable object within -/
theorem wp_fin {n : Nat} {d : D} (h : MP.below n d = true) (hr : ∀ l, d ≠ .ref l) : Wp (finish false n d st) P ↔ P d (st.take n) := by
  have : fz st n 3 d = some d := by
    cases d with
    | ref l => exact absurd rfl (hr l)
    | tup xs =>
      unfold fz
      rw [if_pos (by simpa [MP.below] using h)]
    | _ => unfold fz; rw [if_pos h]
  unfold finish
  rw [if_neg Bool.false_ne_true, this]
  exact Iff.rfl
@[simp] theorem wp_finB {n : Nat} {b : Bool} : Wp (finish false n (.bl b) st) P ↔ P (.bl b) (st.take n) := wp_fin (by simp [MP.below]) (fun _ e => nomatch e)
@[simp] theorem wp_finI {n : Nat} {b : Int} : Wp (finish false n (.int b) st) P ↔ P (.int b) (st.take n) := wp_fin (by simp [MP.below]) (fun _ e => nomatch e)
@[simp] theorem wp_finS {n : Nat} {b : List Nat} : Wp (finish false n (.str b) st) P ↔ P (.str b) (st.take n) := wp_fin (by simp [MP.below]) (fun _ e => nomatch e)
@[simp] theorem wp_finN {n : Nat} : Wp (finish false n .non st) P ↔ P .non (st.take n) := wp_fin (by simp [MP.below]) (fun _ e => nomatch e)
end
/-! ### values -/
@[simp] theorem view_int {st : Store} {i : Int} : view st (.int i) = some (.int i) := rfl
@[simp] theorem view_bl {st : Store} {i : Bool} : view st (.bl i) = some (.bl i) := rfl
@[simp] theorem view_str {st : Store} {i : List Nat} : view st (.str i) = some (.str i) := rfl
@[simp] theorem view_tup {st : Store} {i : List D} : view st (.tup i) = some (.tup i) := rfl
@[simp] theorem view_lst {st : Store} {i : List D} : view st (.lst i) = some (.lst i) := rfl
@[simp] theorem view_dct {st : Store} {i : List (D × D)} : view st (.dct i) = some (.dct i) := rfl
@[simp] theorem view_scr {st : Store} {i : List Int} : view st (.scr i) = some (.scr i) := rfl
@[simp] theorem view_non {st : Store} : view st .non = some .non := rfl
theorem view_ref {st : Store} {l : Nat} {xs : List D} (h : st[l]? = some (.lst xs)) : view st (.ref l) = some (.lst xs) := by unfold view; simp only [h]
@[simp] theorem views_nil {st : Store} : views st [] = some [] := rfl
@[simp] theorem views_cons {st : Store} {d : D} {ds : List D} : views st (d :: ds) = (view st d).bind fun x => (views st ds).bind fun xs => some (x :: xs) := rfl
@[simp] theorem cmp_eqI {a b : Int} : evCmp .eq (.int a) (.int b) = some (a == b) := by simp [evCmp, cmpOk, plain, depth, eqD]
@[simp] theorem cmp_neI {a b : Int} : evCmp .ne (.int a) (.int b) = some (!(a == b)) := by simp [evCmp, cmpOk, plain, depth, eqD]
@[simp] theorem cmp_eqS {a b : List Nat} : evCmp .eq (.str a) (.str b) = some (a == b) := by simp [evCmp, cmpOk, plain, depth, eqD]
@[simp] theorem cmp_neS {a b : List Nat} : evCmp .ne (.str a) (.str b) = some (!(a == b)) := by simp [evCmp, cmpOk, plain, depth, eqD]
@[simp] theorem cmp_eqB {a b : Bool} : evCmp .eq (.bl a) (.bl b) = some (a == b) := by simp [evCmp, cmpOk, plain, depth, eqD]
@[simp] theorem cmp_neB {a b : Bool} : evCmp .ne (.bl a) (.bl b) = some (!(a == b)) := by simp [evCmp, cmpOk, plain, depth, eqD]
@[simp] theorem cmp_isB {a b : Bool} : evCmp .is (.bl a) (.bl b) = some (a == b) := rfl
@[simp] theorem cmp_isnB {a b : Bool} : evCmp .isnot (.bl a) (.bl b) = some (!(a == b)) := rfl
@[simp] theorem cmp_ltI {a b : Int} : evCmp .lt (.int a) (.int b) = some (decide (a < b)) := rfl
@[simp] theorem cmp_leI {a b : Int} : evCmp .le (.int a) (.int b) = some (decide (a ≤ b)) := rfl
@[simp] theorem cmp_gtI {a b : Int} : evCmp .gt (.int a) (.int b) = some (decide (b < a)) := rfl
@[simp] theorem cmp_geI {a b : Int} : evCmp .ge (.int a) (.int b) = some (decide (b ≤ a)) := rfl
@[simp] theorem cmp_inS {a : Nat} {b : List Nat} : evCmp .isin (.str [a]) (.str b) = some (b.contains a) := rfl
@[simp] theorem cmp_ninS {a : Nat} {b : List Nat} : evCmp .notin (.str [a]) (.str b) = some (!b.contains a) := rfl
@[simp] theorem bin_addI {a b : Int} : evBin .add (.int a) (.int b) = some (.int (a + b)) := rfl
@[simp] theorem bin_subI {a b : Int} : evBin .sub (.int a) (.int b) = some (.int (a - b)) := rfl
@[simp] theorem bin_mulI {a b : Int} : evBin .mul (.int a) (.int b) = if mulOk a b then some (.int (a * b)) else none := rfl
@[simp] theorem bin_addS {a b : List Nat} : evBin .add (.str a) (.str b) = if a.length + b.length ≤ SZ then some (.str (a ++ b)) else none := rfl
@[simp] theorem bin_divI {a b : Int} : evBin .fdiv (.int a) (.int b) = if 0 < b ∧ b < 1073741824 then some (.int (a / b)) else none := rfl
@[simp] theorem bin_modI {a b : Int} : evBin .mod (.int a) (.int b) = if 0 < b then some (.int (a % b)) else none := rfl
@[simp] theorem ix_lst {xs : List D} {i : Int} : evIx (.lst xs) (.int i) = atL xs i := rfl
@[simp] theorem ix_tup {xs : List D} {i : Int} : evIx (.tup xs) (.int i) = atL xs i := rfl
@[simp] theorem ix_str {xs : List Nat} {i : Int} : evIx (.str xs) (.int i) = (atL xs i).map fun c => .str [c] := rfl
@[simp] theorem sl_str {xs : List Nat} {l h : Option Int} : evSl (.str xs) l h = some (.str (cut xs l h)) := rfl
@[simp] theorem sl_lst {xs : List D} {l h : Option Int} : evSl (.lst xs) l h = some (.lst (cut xs l h)) := rfl
@[simp] theorem sl_tup {xs : List D} {l h : Option Int} : evSl (.tup xs) l h = some (.tup (cut xs l h)) := rfl
@[simp] theorem sl_scr {xs : List Int} {l h : Option Int} : evSl (.scr xs) l h = some (.lst ((cut xs l h).map D.int)) := rfl
@[simp] theorem b_count {s : List Nat} {c : Nat} : evB .count [.str s, .str [c]] = some (.int (s.count c)) := rfl
@[simp] theorem b_lenS {s : List Nat} : evB .len [.str s] = some (.int s.length) := rfl
@[simp] theorem b_lenL {s : List D} : evB .len [.lst s] = some (.int s.length) := rfl
@[simp] theorem b_lenT {s : List D} : evB .len [.tup s] = some (.int s.length) := rfl
@[simp] theorem b_any {s : List D} : evB .any [.lst s] = (boolsOf s).map fun q => .bl (q.any id) := rfl
@[simp] theorem b_all {s : List D} : evB .all [.lst s] = (boolsOf s).map fun q => .bl (q.all id) := rfl
@[simp] theorem b_abs {i : Int} : evB .abs [.int i] = some (.int (if i < 0 then -i else i)) := rfl
@[simp] theorem b_int {i : Int} : evB .int [.int i] = some (.int i) := rfl
@[simp] theorem bools_map {xs : List Bool} : boolsOf (xs.map D.bl) = some xs := by
  induction xs with
  | nil => rfl
  | cons x xs ih => simp [boolsOf, ih]
@[simp] theorem bools_nil : boolsOf [] = some [] := rfl
@[simp] theorem bools_cons {b : Bool} {xs : List D} : boolsOf (.bl b :: xs) = (boolsOf xs).bind fun q => some (b :: q) := rfl
@[simp] theorem items_seqS {st : Store} {s : List Nat} : itemsOf st .seq [.str s] = some (s.map fun c => .str [c], []) := rfl
@[simp] theorem items_seqL {st : Store} {s : List D} : itemsOf st .seq [.lst s] = some (s, []) := rfl
@[simp] theorem items_seqT {st : Store} {s : List D} : itemsOf st .seq [.tup s] = some (s, []) := rfl
@[simp] theorem items_rng {st : Store} {j : Int} : itemsOf st .rng [.int j] = if smallI j then some (rangeN 0 j.toNat, []) else none := rfl
@[simp] theorem asg_nm {env : MEnv} {i : Nat} {d : D} : asgTgt env (.nm i) d = some (setV env i d) := rfl
end MP
namespace MP
@[simp] theorem items_enumS {st : Store} {s : List Nat} : itemsOf st .enum [.str s] = some (enumN 0 (s.map fun c => .str [c]), []) := rfl
@[simp] theorem items_enumL {st : Store} {s : List D} : itemsOf st .enum [.lst s] = some (enumN 0 s, []) := rfl
@[simp] theorem items_enumT {st : Store} {s : List D} : itemsOf st .enum [.tup s] = some (enumN 0 s, []) := rfl
@[simp] theorem asg_tp {env : MEnv} {is : List Nat} {ds : List D} : asgTgt env (.tp is) (.tup ds) = setVs env is ds := rfl
@[simp] theorem setVs_nil {env : MEnv} : setVs env [] [] = some env := rfl
@[simp] theorem setVs_cons {env : MEnv} {i : Nat} {is : List Nat} {d : D} {ds : List D} : setVs env (i :: is) (d :: ds) = setVs (setV env i d) is ds := rfl
theorem cut_take {α : Type} (xs : List α) (i : Nat) : cut xs none (some (i : Int)) = xs.take i := by
  unfold cut clip
  have h : ¬ ((i : Int) < 0) := by omega
  simp only [h, if_false]
  rw [List.drop_zero]
  by_cases hi : i ≤ xs.length
  · rw [show (min (i : Int) (xs.length : Int)).toNat - 0 = i by omega]
  · rw [show (min (i : Int) (xs.length : Int)).toNat - 0 = xs.length by omega, List.take_length, List.take_of_length_le (by omega)]
theorem cut_drop {α : Type} (xs : List α) (i : Nat) : cut xs (some (i : Int)) none = xs.drop i := by
  unfold cut clip
  have h : ¬ ((i : Int) < 0) := by omega
  simp only [h, if_false]
  by_cases hi : i ≤ xs.length
  · rw [show (min (i : Int) (xs.length : Int)).toNat = i by omega]
    exact List.take_of_length_le (by simp)
  · rw [show (min (i : Int) (xs.length : Int)).toNat = xs.length by omega, List.drop_length, List.drop_eq_nil_of_le (by omega)]
    simp
theorem atL_nat {α : Type} (xs : List α) (i : Nat) : atL xs (i : Int) = xs[i]? := by
  unfold atL
  rw [if_pos (by omega)]
  simp
theorem enumN_cons {i : Nat} {xs ys : List D} {y : D} (h : y :: ys = enumN i xs) : ∃ x r, xs = x :: r ∧ y = .tup [.int (i : Nat), x] ∧ ys = enumN (i + 1) r := by
  cases xs with
  | nil => cases h
  | cons x r => cases h; exact ⟨x, r, rfl, rfl, rfl⟩
end MP
namespace MP
section
variable {C : Nat → List D → Store → R D} {env : MEnv} {st : Store} {P : D → Store → Prop} {N : MEnv → Store → Prop} {R' : D → Store → Prop} {K : MEnv → Store → Prop}
/-- the items of a tuple or a list -/
def tupOf : Option D → Option (List D)
  | some (.tup ds) => some ds
  | some (.lst ds) => some ds
  | _ => none
@[simp] theorem tupOf_tup {ds : List D} : tupOf (some (.tup ds)) = some ds := rfl
@[simp] theorem tupOf_lst {ds : List D} : tupOf (some (.lst ds)) = some ds := rfl
@[simp] theorem ws_asgT {is : List Nat} {e : ME} : WS (exS C (.asgT is e) env st) N R' K ↔ Wp (evE C e env st) fun d s1 => ∃ ds, tupOf (view s1 d) = some ds ∧ ∃ env', setVs env is ds = some env' ∧ N env' s1 := by
  rw [ex_asgT]; unfold exAsgT; simp only [ws_toS]
  constructor
  · intro h
    refine h.mono fun d s h => ?_
    obtain ⟨ds, env', hv, hs, hn⟩ := exAsgT_inv h
    refine ⟨ds, ?_, env', hs, hn⟩
    rcases hv with hv | hv <;> rw [hv] <;> rfl
  · intro h
    refine h.mono fun d s ⟨ds, hv, env', hs, hn⟩ => ?_
    cases e : view s d with
    | none => rw [e] at hv; cases hv
    | some x =>
      rw [e] at hv
      cases x <;> first | (cases hv; done) | skip
      · cases hv; simp only [hs]; exact hn
      · cases hv; simp only [hs]; exact hn
@[simp] theorem wp_ext {o e : ME} : Wp (evE C (.ext o e) env st) P ↔ Wp (evE C o env st) fun x s1 => (mutList s1 x).isSome = true ∧ Wp (evE C e env s1) fun y s2 => ∃ q, mutList s2 x = some q ∧ ∃ ys, tupOf ((view s2 y).bind fun z => match z with | .lst w => some (.lst w) | _ => none) = some ys ∧ (belows q.1 ys = true ∧ q.2.length + ys.length ≤ SZ) ∧ P .non (s2.set q.1 (.lst (q.2 ++ ys))) := by
  rw [ev_ext]; unfold evExt; simp only [wp_bind]
  apply wp_congr
  intro x s1
  cases hm : (mutList s1 x).isSome with
  | false => simp
  | true =>
    simp only [if_true, true_and, wp_bind]
    apply wp_congr
    intro y s2
    cases h1 : mutList s2 x with
    | none => simp
    | some q =>
      obtain ⟨l, xs⟩ := q
      cases h2 : view s2 y with
      | none => simp [tupOf]
      | some z =>
        cases z <;> simp [tupOf]
        rename_i ys
        by_cases hc : belows l ys = true ∧ xs.length + ys.length ≤ SZ
        · rw [if_pos hc]; exact ⟨fun h => ⟨hc, h⟩, fun h => h.2⟩
        · rw [if_neg hc]; exact ⟨fun h => h.elim, fun h => hc h.1⟩
@[simp] theorem wp_app {o e : ME} : Wp (evE C (.app o e) env st) P ↔ Wp (evE C o env st) fun x s1 => (mutList s1 x).isSome = true ∧ Wp (evE C e env s1) fun y s2 => ∃ q, mutList s2 x = some q ∧ (MP.below q.1 y = true ∧ q.2.length < SZ) ∧ P .non (s2.set q.1 (.lst (q.2 ++ [y]))) := by
  rw [ev_app]; unfold evApp; simp only [wp_bind]
  apply wp_congr
  intro x s1
  cases hm : (mutList s1 x).isSome with
  | false => simp
  | true =>
    simp only [if_true, true_and, wp_bind]
    apply wp_congr
    intro y s2
    cases h1 : mutList s2 x with
    | none => simp
    | some q =>
      obtain ⟨l, xs⟩ := q
      simp
      by_cases hc : MP.below l y = true ∧ xs.length < SZ
      · rw [if_pos hc]; exact ⟨fun h => ⟨hc, h⟩, fun h => h.2⟩
      · rw [if_neg hc]; exact ⟨fun h => h.elim, fun h => hc h.1⟩
end
/-- the same over a list that stays as it is -/
theorem wp_compLg {st : Store} {f : D → Store → R (Option D)} {G : D → Option D} {g : Guard} (hg : gok g st = true) {P : List D → Store → Prop} : ∀ {items acc : List D}, (∀ x ∈ items, Wp (f x st) fun o s => o = G x ∧ s = st) → acc.length + items.length ≤ SZ → P (acc ++ items.filterMap G) st → Wp (compL f g items acc st) P
  | [], acc, _, _, p => by unfold compL; simpa using p
  | x :: items, acc, h, hl, p => by
    obtain ⟨o, s, e, e1, e2⟩ := (h x List.mem_cons_self).ok
    rw [e1, e2] at e
    unfold compL
    rw [e]
    simp only [hg, if_true]
    have hl' : acc.length + (items.length + 1) ≤ SZ := by simpa using hl
    cases hG : G x with
    | none =>
      rw [List.filterMap_cons_none hG] at p
      exact wp_compLg hg (fun y hy => h y (List.mem_cons_of_mem _ hy)) (by omega) p
    | some d =>
      rw [List.filterMap_cons_some hG] at p
      simp only
      rw [if_pos (by omega)]
      refine wp_compLg hg (fun y hy => h y (List.mem_cons_of_mem _ hy)) (by simp; omega) ?_
      rw [List.append_assoc]
      exact p
/-! ### the youngest list -/
theorem mut_last {st : Store} {xs : List D} : mutList (st ++ [.lst xs]) (.ref st.length) = some (st.length, xs) := by
  unfold mutList
  simp
theorem view_last {st : Store} {xs : List D} : view (st ++ [.lst xs]) (.ref st.length) = some (.lst xs) := view_ref (by simp)
theorem set_last {st : Store} {o o' : MObj} : (st ++ [o]).set st.length o' = st ++ [o'] := by
  rw [List.set_append_right _ _ (Nat.le_refl _)]
  simp
theorem take_last {st : Store} {o : MObj} : (st ++ [o]).take st.length = st := List.take_left
theorem cut_mid {α : Type} (xs : List α) (i j : Nat) (hi : i ≤ xs.length) (hj : j ≤ xs.length) : cut xs (some (i : Int)) (some (j : Int)) = (xs.drop i).take (j - i) := by
  unfold cut clip
  have h1 : ¬ ((i : Int) < 0) := by omega
  have h2 : ¬ ((j : Int) < 0) := by omega
  simp only [h1, h2, if_false]
  rw [show (min (i : Int) (xs.length : Int)).toNat = i by omega, show (min (j : Int) (xs.length : Int)).toNat = j by omega]
end MP

set_option Elab.async false
set_option linter.all false
set_option maxRecDepth 100000
namespace K61
open PySem PySem.Spec PyProof.Rows L2 MP
/-! the text of k61: its defs by places, names, constants (printed by gen.py) -/
def topS (i : Nat) : PySem.Stmt := PySem.Challenge.pw_fewtoys_k61_whole_threats_and_turned_gam.main.body.getD i (.Pass ⟨0, 0, 0, 0⟩)
def tb : CT := { glob := [(("has_three" : Str), .fn 0), (("can_come" : Str), .fn 1), (("is_last" : Str), .fn 2), (("is_game" : Str), .fn 3), (("check_game" : Str), .fn 4), (("end_of" : Str), .fn 5), (("next_of" : Str), .fn 6), (("free_in" : Str), .fn 7), (("threats_of" : Str), .fn 8), (("threats" : Str), .fn 9), (("turned_game" : Str), .fn 10), (("least_game" : Str), .fn 11), (("forced" : Str), .fn 12), (("_law_hand" : Str), .fn 13), (("_law_draw" : Str), .fn 14), (("_law_some" : Str), .fn 15), (("_law_lines" : Str), .fn 16), (("_law_has" : Str), .fn 17), (("_law_next" : Str), .fn 18), (("_law_put" : Str), .fn 19), (("_law_game" : Str), .fn 20), (("_law_threats" : Str), .fn 21), (("_law_turned" : Str), .fn 22), (("_law_eight" : Str), .fn 23), (("law" : Str), .fn 24), (("ROWS" : Str), .con (.tup [.tup [.int (0), .int (1), .int (2)], .tup [.int (3), .int (4), .int (5)], .tup [.int (6), .int (7), .int (8)], .tup [.int (0), .int (3), .int (6)], .tup [.int (1), .int (4), .int (7)], .tup [.int (2), .int (5), .int (8)], .tup [.int (0), .int (4), .int (8)], .tup [.int (2), .int (4), .int (6)]])), (("TURN" : Str), .con (.tup [.int (6), .int (3), .int (0), .int (7), .int (4), .int (1), .int (8), .int (5), .int (2)])), (("MIRROR" : Str), .con (.tup [.int (2), .int (1), .int (0), .int (5), .int (4), .int (3), .int (8), .int (7), .int (6)])), (("SIZE" : Str), .con (.int (9))), (("ToyError" : Str), .cls 0), (("NoGame" : Str), .cls 1), (("NoSign" : Str), .cls 2)], mus := [(63, 19), (77, 11), (117, 12)] }
def N_has_three : List Str := ["game", "sign", "at", "row"]
def N_can_come : List Str := ["game", "more"]
def N_is_last : List Str := ["game", "sign", "at", "one", "ahead"]
def N_is_game : List Str := ["thing", "sign"]
def N_check_game : List Str := ["game"]
def N_end_of : List Str := ["game", "sign"]
def N_next_of : List Str := ["game"]
def N_free_in : List Str := ["game", "at", "sign"]
def N_threats_of : List Str := ["game", "sign", "at"]
def N_threats : List Str := ["game", "sign"]
def N_turned_game : List Str := ["game", "at"]
def N_least_game : List Str := ["game", "found", "here", "turn", "at"]
def N_forced : List Str := ["game", "some"]
def N__law_hand : List Str := ["script", "cells", "cell"]
def N__law_draw : List Str := ["hand", "many", "cell", "digit", "number"]
def N__law_some : List Str := ["hand", "things"]
def N__law_lines : List Str := []
def N__law_has : List Str := ["game", "sign", "place", "line"]
def N__law_next : List Str := ["game"]
def N__law_put : List Str := ["game", "place", "sign"]
def N__law_game : List Str := ["hand", "plays", "game", "play", "free", "place"]
def N__law_threats : List Str := ["game", "sign", "place"]
def N__law_turned : List Str := ["game", "place"]
def N__law_eight : List Str := ["game", "found", "turn_now", "at", "one"]
def N_law : List Str := ["script", "hand", "turn_now", "game", "mine", "other", "danger"]

def L : List DI := [⟨"has_three", topS 9, N_has_three, ["game", "sign"], false⟩, ⟨"can_come", topS 10, N_can_come, ["game"], false⟩, ⟨"is_last", topS 11, N_is_last, ["game", "sign"], false⟩, ⟨"is_game", topS 12, N_is_game, ["thing"], false⟩, ⟨"check_game", topS 13, N_check_game, ["game"], false⟩, ⟨"end_of", topS 14, N_end_of, ["game"], false⟩, ⟨"next_of", topS 15, N_next_of, ["game"], false⟩, ⟨"free_in", topS 16, N_free_in, ["game"], false⟩, ⟨"threats_of", topS 17, N_threats_of, ["game", "sign"], false⟩, ⟨"threats", topS 18, N_threats, ["game", "sign"], false⟩, ⟨"turned_game", topS 19, N_turned_game, ["game"], false⟩, ⟨"least_game", topS 20, N_least_game, ["game"], false⟩, ⟨"forced", topS 21, N_forced, ["game"], false⟩, ⟨"_law_hand", topS 23, N__law_hand, ["script"], true⟩, ⟨"_law_draw", topS 24, N__law_draw, ["hand", "many"], false⟩, ⟨"_law_some", topS 25, N__law_some, ["hand", "things"], false⟩, ⟨"_law_lines", topS 26, N__law_lines, [], false⟩, ⟨"_law_has", topS 27, N__law_has, ["game", "sign"], false⟩, ⟨"_law_next", topS 28, N__law_next, ["game"], false⟩, ⟨"_law_put", topS 29, N__law_put, ["game", "place", "sign"], false⟩, ⟨"_law_game", topS 30, N__law_game, ["hand", "plays"], false⟩, ⟨"_law_threats", topS 31, N__law_threats, ["game", "sign"], false⟩, ⟨"_law_turned", topS 32, N__law_turned, ["game"], false⟩, ⟨"_law_eight", topS 33, N__law_eight, ["game"], false⟩, ⟨"law", topS 34, N_law, ["script"], false⟩]
def b_has_three : List MS := [.ret (.blt .any [(.comp false (.blt .all [(.comp false (.cmp .eq (.ix (.var 0) (.var 2)) (.var 1)) (.nm 2) [2] .seq [(.var 3)] none)]) (.nm 3) [3] .seq [(.con (.tup [(.tup [(.int 0), (.int 1), (.int 2)]), (.tup [(.int 3), (.int 4), (.int 5)]), (.tup [(.int 6), (.int 7), (.int 8)]), (.tup [(.int 0), (.int 3), (.int 6)]), (.tup [(.int 1), (.int 4), (.int 7)]), (.tup [(.int 2), (.int 5), (.int 8)]), (.tup [(.int 0), (.int 4), (.int 8)]), (.tup [(.int 2), (.int 4), (.int 6)])]))] none)])]
def b_can_come : List MS := [.asg 1 (.bin .sub (.blt .count [(.var 0), (.con (.str [120]))]) (.blt .count [(.var 0), (.con (.str [111]))])), .ife (.cmp .notin (.var 1) (.tup [(.con (.int 0)), (.con (.int 1))])) [.ret (.con (.bl false))] [], .ife (.call 0 [(.var 0), (.con (.str [120]))]) [.ret (.and (.cmp .eq (.var 1) (.con (.int 1))) (.call 2 [(.var 0), (.con (.str [120]))]))] [], .ret (.or (.nt (.call 0 [(.var 0), (.con (.str [111]))])) (.and (.cmp .eq (.var 1) (.con (.int 0))) (.call 2 [(.var 0), (.con (.str [111]))])))]
def b_is_last : List MS := [.forr (.tp [2, 3]) .enum [(.var 0)] [.ife (.cmp .eq (.var 3) (.var 1)) [.asg 4 (.bin .add (.bin .add (.slice (.var 0) none (some (.var 2))) (.con (.str [46]))) (.slice (.var 0) (some (.bin .add (.var 2) (.con (.int 1)))) none)), .ife (.and (.nt (.call 0 [(.var 4), (.con (.str [120]))])) (.nt (.call 0 [(.var 4), (.con (.str [111]))]))) [.ret (.con (.bl true))] []] []], .ret (.con (.bl false))]
def b_is_game : List MS := [.ife (.or (.nt (.blt .isStr [(.var 0)])) (.or (.cmp .ne (.blt .len [(.var 0)]) (.con (.int 9))) (.nt (.blt .all [(.comp false (.cmp .isin (.var 1) (.con (.str [46, 120, 111]))) (.nm 1) [1] .seq [(.var 0)] none)])))) [.ret (.con (.bl false))] [], .ret (.call 1 [(.var 0)])]
def b_check_game : List MS := [.ife (.nt (.call 3 [(.var 0)])) [.rse 1] []]
def b_end_of : List MS := [.forr (.nm 1) .seq [(.con (.str [120, 111]))] [.ife (.call 0 [(.var 0), (.var 1)]) [.ret (.var 1)] []], .ret (.ite (.cmp .notin (.con (.str [46])) (.var 0)) (.con (.str [102, 117, 108, 108])) (.con (.str [])))]
def b_next_of : List MS := [.ife (.cmp .ne (.call 5 [(.var 0)]) (.con (.str []))) [.ret (.con (.str []))] [], .ret (.ite (.cmp .eq (.blt .count [(.var 0), (.con (.str [120]))]) (.blt .count [(.var 0), (.con (.str [111]))])) (.con (.str [120])) (.con (.str [111])))]
def b_free_in : List MS := [.ret (.comp false (.var 1) (.tp [1, 2]) [1, 2] .enum [(.var 0)] (some (.cmp .eq (.var 2) (.con (.str [46])))))]
def b_threats_of : List MS := [.ret (.comp false (.var 2) (.nm 2) [2] .seq [(.call 7 [(.var 0)])] (some (.call 0 [(.bin .add (.bin .add (.slice (.var 0) none (some (.var 2))) (.var 1)) (.slice (.var 0) (some (.bin .add (.var 2) (.con (.int 1)))) none)), (.var 1)])))]
def b_threats : List MS := [.exp (.call 4 [(.var 0)]), .ife (.or (.nt (.blt .isStr [(.var 1)])) (.cmp .notin (.var 1) (.tup [(.con (.str [120])), (.con (.str [111]))]))) [.rse 2] [], .ret (.blt .tuple [(.call 8 [(.var 0), (.var 1)])])]
def b_turned_game : List MS := [.exp (.call 4 [(.var 0)]), .ret (.blt .join [(.con (.str [])), (.comp false (.ix (.var 0) (.var 1)) (.nm 1) [1] .seq [(.con (.tup [(.int 6), (.int 3), (.int 0), (.int 7), (.int 4), (.int 1), (.int 8), (.int 5), (.int 2)]))] none)])]
def b_least_game : List MS := [.exp (.call 4 [(.var 0)]), .asgT [1, 2] (.tup [(.lst true []), (.var 0)]), .forr (.nm 3) .rng [(.con (.int 4))] [.asg 2 (.blt .join [(.con (.str [])), (.comp false (.ix (.var 2) (.var 4)) (.nm 4) [4] .seq [(.con (.tup [(.int 6), (.int 3), (.int 0), (.int 7), (.int 4), (.int 1), (.int 8), (.int 5), (.int 2)]))] none)]), .exp (.ext (.var 1) (.lst false [(.var 2), (.blt .join [(.con (.str [])), (.comp false (.ix (.var 2) (.var 4)) (.nm 4) [4] .seq [(.con (.tup [(.int 2), (.int 1), (.int 0), (.int 5), (.int 4), (.int 3), (.int 8), (.int 7), (.int 6)]))] none)])]))], .ret (.blt .min1 [(.var 1)])]
def b_forced : List MS := [.exp (.call 4 [(.var 0)]), .ife (.cmp .ne (.call 5 [(.var 0)]) (.con (.str []))) [.ret (.con .non)] [], .asg 1 (.call 8 [(.var 0), (.ite (.cmp .eq (.call 6 [(.var 0)]) (.con (.str [120]))) (.con (.str [111])) (.con (.str [120])))]), .ret (.ite (.cmp .eq (.blt .len [(.var 1)]) (.con (.int 1))) (.ix (.var 1) (.con (.int 0))) (.con .non))]
def b__law_hand : List MS := [.asg 1 (.comp false (.blt .abs [(.blt .int [(.var 2)])]) (.nm 2) [2] .seq [(.slice (.var 0) none (some (.con (.int 63))))] none), .ret (.lst true [(.var 1), (.con (.int 0)), (.con (.int 0)), (.bin .add (.con (.int 83)) (.bin .mul (.con (.int 5)) (.blt .len [(.var 1)]))), (.con (.int 0))])]
def b__law_draw : List MS := [.ife (.and (.cmp .eq (.ix (.var 0) (.con (.int 2))) (.con (.int 0))) (.cmp .lt (.ix (.var 0) (.con (.int 1))) (.blt .len [(.ix (.var 0) (.con (.int 0)))]))) [.asg 2 (.ix (.ix (.var 0) (.con (.int 0))) (.ix (.var 0) (.con (.int 1)))), .setIx (.var 0) (.con (.int 1)) (.bin .add (.ix (.var 0) (.con (.int 1))) (.con (.int 1))), .setIx (.var 0) (.con (.int 3)) (.bin .mod (.blt .int [(.bin .add (.bin .add (.bin .mul (.ix (.var 0) (.con (.int 3))) (.con (.int 48271))) (.bin .mul (.var 2) (.con (.int 5)))) (.con (.int 29)))]) (.con (.int 2147483587))), .setIx (.var 0) (.con (.int 2)) (.ite (.cmp .ge (.var 2) (.bin .pow (.con (.int 10)) (.con (.int 18)))) (.var 2) (.con (.int 0)))] [], .ife (.cmp .gt (.ix (.var 0) (.con (.int 2))) (.con (.int 0))) [.asg 3 (.bin .mod (.blt .int [(.ix (.var 0) (.con (.int 2)))]) (.var 1)), .setIx (.var 0) (.con (.int 2)) (.bin .fdiv (.ix (.var 0) (.con (.int 2))) (.var 1)), .ret (.var 3)] [], .setIx (.var 0) (.con (.int 4)) (.bin .add (.ix (.var 0) (.con (.int 4))) (.con (.int 1))), .asg 4 (.bin .mod (.blt .int [(.bin .mul (.blt .int [(.bin .add (.ix (.var 0) (.con (.int 3))) (.bin .mul (.con (.int 7877)) (.ix (.var 0) (.con (.int 4)))))]) (.con (.int 69621)))]) (.con (.int 2147483647))), .asg 4 (.bin .mod (.blt .int [(.bin .mul (.var 4) (.bin .add (.bin .fdiv (.var 4) (.con (.int 1103))) (.con (.int 40692))))]) (.con (.int 2147483399))), .asg 4 (.bin .mod (.blt .int [(.bin .mul (.var 4) (.bin .add (.bin .fdiv (.var 4) (.con (.int 2311))) (.con (.int 48271))))]) (.con (.int 2147483629))), .ret (.bin .mod (.blt .int [(.bin .fdiv (.var 4) (.con (.int 16)))]) (.var 1))]
def b__law_some : List MS := [.ret (.ix (.var 1) (.call 14 [(.var 0), (.blt .len [(.var 1)])]))]
def b__law_lines : List MS := [.ret (.lst false [(.tup [(.con (.int 0)), (.con (.int 1)), (.con (.int 2))]), (.tup [(.con (.int 3)), (.con (.int 4)), (.con (.int 5))]), (.tup [(.con (.int 6)), (.con (.int 7)), (.con (.int 8))]), (.tup [(.con (.int 0)), (.con (.int 3)), (.con (.int 6))]), (.tup [(.con (.int 1)), (.con (.int 4)), (.con (.int 7))]), (.tup [(.con (.int 2)), (.con (.int 5)), (.con (.int 8))]), (.tup [(.con (.int 0)), (.con (.int 4)), (.con (.int 8))]), (.tup [(.con (.int 2)), (.con (.int 4)), (.con (.int 6))])])]
def b__law_has : List MS := [.ret (.blt .any [(.comp false (.blt .all [(.comp false (.cmp .eq (.ix (.var 0) (.var 2)) (.var 1)) (.nm 2) [2] .seq [(.var 3)] none)]) (.nm 3) [3] .seq [(.call 16 [])] none)])]
def b__law_next : List MS := [.ife (.or (.call 17 [(.var 0), (.con (.str [120]))]) (.or (.call 17 [(.var 0), (.con (.str [111]))]) (.cmp .notin (.con (.str [46])) (.var 0)))) [.ret (.con (.str []))] [], .ret (.ite (.cmp .eq (.blt .count [(.var 0), (.con (.str [120]))]) (.blt .count [(.var 0), (.con (.str [111]))])) (.con (.str [120])) (.con (.str [111])))]
def b__law_put : List MS := [.ret (.bin .add (.bin .add (.slice (.var 0) none (some (.var 1))) (.var 2)) (.slice (.var 0) (some (.bin .add (.var 1) (.con (.int 1)))) none))]
def b__law_game : List MS := [.asg 2 (.bin .mul (.con (.str [46])) (.con (.int 9))), .forr (.nm 3) .rng [(.var 1)] [.asg 4 (.comp false (.var 5) (.nm 5) [5] .rng [(.con (.int 9))] (some (.cmp .eq (.ix (.var 2) (.var 5)) (.con (.str [46]))))), .ife (.cmp .ne (.call 18 [(.var 2)]) (.con (.str []))) [.asg 2 (.call 19 [(.var 2), (.call 15 [(.var 0), (.var 4)]), (.call 18 [(.var 2)])])] []], .ret (.var 2)]
def b__law_threats : List MS := [.ret (.blt .tuple [(.comp false (.var 2) (.nm 2) [2] .rng [(.con (.int 9))] (some (.and (.cmp .eq (.ix (.var 0) (.var 2)) (.con (.str [46]))) (.call 17 [(.call 19 [(.var 0), (.var 2), (.var 1)]), (.var 1)]))))])]
def b__law_turned : List MS := [.ret (.blt .join [(.con (.str [])), (.comp false (.ix (.var 0) (.var 1)) (.nm 1) [1] .seq [(.tup [(.con (.int 6)), (.con (.int 3)), (.con (.int 0)), (.con (.int 7)), (.con (.int 4)), (.con (.int 1)), (.con (.int 8)), (.con (.int 5)), (.con (.int 2))])] none)])]
def b__law_eight : List MS := [.asg 1 (.lst true [(.var 0)]), .forr (.nm 2) .rng [(.con (.int 3))] [.exp (.app (.var 1) (.call 22 [(.ix (.var 1) (.neg (.con (.int 1))))]))], .ret (.bin .add (.var 1) (.comp false (.blt .join [(.con (.str [])), (.comp false (.rev (.slice (.var 4) (some (.var 3)) (some (.bin .add (.var 3) (.con (.int 3)))))) (.nm 3) [3] .seq [(.tup [(.con (.int 0)), (.con (.int 3)), (.con (.int 6))])] none)]) (.nm 4) [4] .seq [(.var 1)] none))]
def b_loop : List MS := [.asg 3 (.call 20 [(.var 1), (.call 14 [(.var 1), (.con (.int 9))])]), .ife (.cmp .ne (.call 18 [(.var 3)]) (.con (.str []))) [.asgT [4, 5] (.tup [(.call 18 [(.var 3)]), (.ite (.cmp .eq (.call 18 [(.var 3)]) (.con (.str [120]))) (.con (.str [111])) (.con (.str [120])))]), .ife (.cmp .ne (.call 9 [(.var 3), (.var 4)]) (.call 21 [(.var 3), (.var 4)])) [.ret (.con (.bl false))] [], .ife (.cmp .ne (.call 9 [(.var 3), (.var 5)]) (.call 21 [(.var 3), (.var 5)])) [.ret (.con (.bl false))] [], .asg 6 (.call 21 [(.var 3), (.var 5)]), .ife (.and (.cmp .eq (.var 6) (.tup [])) (.cmp .isnot (.call 12 [(.var 3)]) (.con .non))) [.ret (.con (.bl false))] [], .ife (.and (.cmp .eq (.blt .len [(.var 6)]) (.con (.int 1))) (.and (.cmp .eq (.call 21 [(.var 3), (.var 4)]) (.tup [])) (.cmp .ne (.call 12 [(.var 3)]) (.ix (.var 6) (.con (.int 0)))))) [.ret (.con (.bl false))] [], .ife (.cmp .ne (.blt .len [(.call 9 [(.call 10 [(.var 3)]), (.var 4)])]) (.blt .len [(.call 9 [(.var 3), (.var 4)])])) [.ret (.con (.bl false))] []] [], .ife (.cmp .ne (.call 10 [(.var 3)]) (.call 22 [(.var 3)])) [.ret (.con (.bl false))] [], .ife (.cmp .ne (.call 11 [(.var 3)]) (.blt .min1 [(.call 23 [(.var 3)])])) [.ret (.con (.bl false))] [], .ife (.cmp .ne (.call 11 [(.call 10 [(.var 3)])]) (.call 11 [(.var 3)])) [.ret (.con (.bl false))] []]
def b_law : List MS := [.asg 1 (.call 13 [(.var 0)]), .ife (.cmp .ne (.call 10 [(.con (.str [120, 111, 46, 46, 46, 46, 46, 46, 46]))]) (.con (.str [46, 46, 120, 46, 46, 111, 46, 46, 46]))) [.ret (.con (.bl false))] [], .ife (.cmp .ne (.call 9 [(.con (.str [120, 120, 46, 111, 111, 46, 46, 46, 46])), (.con (.str [120]))]) (.tup [(.con (.int 2))])) [.ret (.con (.bl false))] [], .ife (.cmp .ne (.call 9 [(.con (.str [120, 120, 46, 111, 111, 46, 46, 46, 46])), (.con (.str [111]))]) (.tup [(.con (.int 5))])) [.ret (.con (.bl false))] [], .ife (.cmp .ne (.call 11 [(.con (.str [46, 46, 46, 46, 46, 46, 46, 46, 120]))]) (.con (.str [46, 46, 46, 46, 46, 46, 46, 46, 120]))) [.ret (.con (.bl false))] [], .ife (.or (.cmp .ne (.call 12 [(.con (.str [120, 120, 46, 46, 111, 46, 46, 46, 46]))]) (.con (.int 2))) (.cmp .isnot (.call 12 [(.bin .mul (.con (.str [46])) (.con (.int 9)))]) (.con .non))) [.ret (.con (.bl false))] [], .forr (.nm 2) .rng [(.con (.int 6))] b_loop, .ret (.con (.bl true))]
def dfs (i : Nat) : Option MDef := match i with
  | 0 => some { ps := 2, n := 4, body := b_has_three, keep := false }
  | 1 => some { ps := 1, n := 2, body := b_can_come, keep := false }
  | 2 => some { ps := 2, n := 5, body := b_is_last, keep := false }
  | 3 => some { ps := 1, n := 2, body := b_is_game, keep := false }
  | 4 => some { ps := 1, n := 1, body := b_check_game, keep := false }
  | 5 => some { ps := 1, n := 2, body := b_end_of, keep := false }
  | 6 => some { ps := 1, n := 1, body := b_next_of, keep := false }
  | 7 => some { ps := 1, n := 3, body := b_free_in, keep := false }
  | 8 => some { ps := 2, n := 3, body := b_threats_of, keep := false }
  | 9 => some { ps := 2, n := 2, body := b_threats, keep := false }
  | 10 => some { ps := 1, n := 2, body := b_turned_game, keep := false }
  | 11 => some { ps := 1, n := 5, body := b_least_game, keep := false }
  | 12 => some { ps := 1, n := 2, body := b_forced, keep := false }
  | 13 => some { ps := 1, n := 3, body := b__law_hand, keep := true }
  | 14 => some { ps := 2, n := 5, body := b__law_draw, keep := false }
  | 15 => some { ps := 2, n := 2, body := b__law_some, keep := false }
  | 16 => some { ps := 0, n := 0, body := b__law_lines, keep := false }
  | 17 => some { ps := 2, n := 4, body := b__law_has, keep := false }
  | 18 => some { ps := 1, n := 1, body := b__law_next, keep := false }
  | 19 => some { ps := 3, n := 3, body := b__law_put, keep := false }
  | 20 => some { ps := 2, n := 6, body := b__law_game, keep := false }
  | 21 => some { ps := 2, n := 3, body := b__law_threats, keep := false }
  | 22 => some { ps := 1, n := 2, body := b__law_turned, keep := false }
  | 23 => some { ps := 1, n := 5, body := b__law_eight, keep := false }
  | 24 => some { ps := 1, n := 7, body := b_law, keep := false }
  | _ => none
theorem t_has_three : mdef tb ⟨"has_three", topS 9, N_has_three, ["game", "sign"], false⟩ = some { ps := 2, n := 4, body := b_has_three, keep := false } := by kernel_rfl
theorem t_can_come : mdef tb ⟨"can_come", topS 10, N_can_come, ["game"], false⟩ = some { ps := 1, n := 2, body := b_can_come, keep := false } := by kernel_rfl
theorem t_is_last : mdef tb ⟨"is_last", topS 11, N_is_last, ["game", "sign"], false⟩ = some { ps := 2, n := 5, body := b_is_last, keep := false } := by kernel_rfl
theorem t_is_game : mdef tb ⟨"is_game", topS 12, N_is_game, ["thing"], false⟩ = some { ps := 1, n := 2, body := b_is_game, keep := false } := by kernel_rfl
theorem t_check_game : mdef tb ⟨"check_game", topS 13, N_check_game, ["game"], false⟩ = some { ps := 1, n := 1, body := b_check_game, keep := false } := by kernel_rfl
theorem t_end_of : mdef tb ⟨"end_of", topS 14, N_end_of, ["game"], false⟩ = some { ps := 1, n := 2, body := b_end_of, keep := false } := by kernel_rfl
theorem t_next_of : mdef tb ⟨"next_of", topS 15, N_next_of, ["game"], false⟩ = some { ps := 1, n := 1, body := b_next_of, keep := false } := by kernel_rfl
theorem t_free_in : mdef tb ⟨"free_in", topS 16, N_free_in, ["game"], false⟩ = some { ps := 1, n := 3, body := b_free_in, keep := false } := by kernel_rfl
theorem t_threats_of : mdef tb ⟨"threats_of", topS 17, N_threats_of, ["game", "sign"], false⟩ = some { ps := 2, n := 3, body := b_threats_of, keep := false } := by kernel_rfl
theorem t_threats : mdef tb ⟨"threats", topS 18, N_threats, ["game", "sign"], false⟩ = some { ps := 2, n := 2, body := b_threats, keep := false } := by kernel_rfl
theorem t_turned_game : mdef tb ⟨"turned_game", topS 19, N_turned_game, ["game"], false⟩ = some { ps := 1, n := 2, body := b_turned_game, keep := false } := by kernel_rfl
theorem t_least_game : mdef tb ⟨"least_game", topS 20, N_least_game, ["game"], false⟩ = some { ps := 1, n := 5, body := b_least_game, keep := false } := by kernel_rfl
theorem t_forced : mdef tb ⟨"forced", topS 21, N_forced, ["game"], false⟩ = some { ps := 1, n := 2, body := b_forced, keep := false } := by kernel_rfl
theorem t__law_hand : mdef tb ⟨"_law_hand", topS 23, N__law_hand, ["script"], true⟩ = some { ps := 1, n := 3, body := b__law_hand, keep := true } := by kernel_rfl
theorem t__law_draw : mdef tb ⟨"_law_draw", topS 24, N__law_draw, ["hand", "many"], false⟩ = some { ps := 2, n := 5, body := b__law_draw, keep := false } := by kernel_rfl
theorem t__law_some : mdef tb ⟨"_law_some", topS 25, N__law_some, ["hand", "things"], false⟩ = some { ps := 2, n := 2, body := b__law_some, keep := false } := by kernel_rfl
theorem t__law_lines : mdef tb ⟨"_law_lines", topS 26, N__law_lines, [], false⟩ = some { ps := 0, n := 0, body := b__law_lines, keep := false } := by kernel_rfl
theorem t__law_has : mdef tb ⟨"_law_has", topS 27, N__law_has, ["game", "sign"], false⟩ = some { ps := 2, n := 4, body := b__law_has, keep := false } := by kernel_rfl
theorem t__law_next : mdef tb ⟨"_law_next", topS 28, N__law_next, ["game"], false⟩ = some { ps := 1, n := 1, body := b__law_next, keep := false } := by kernel_rfl
theorem t__law_put : mdef tb ⟨"_law_put", topS 29, N__law_put, ["game", "place", "sign"], false⟩ = some { ps := 3, n := 3, body := b__law_put, keep := false } := by kernel_rfl
theorem t__law_game : mdef tb ⟨"_law_game", topS 30, N__law_game, ["hand", "plays"], false⟩ = some { ps := 2, n := 6, body := b__law_game, keep := false } := by kernel_rfl
theorem t__law_threats : mdef tb ⟨"_law_threats", topS 31, N__law_threats, ["game", "sign"], false⟩ = some { ps := 2, n := 3, body := b__law_threats, keep := false } := by kernel_rfl
theorem t__law_turned : mdef tb ⟨"_law_turned", topS 32, N__law_turned, ["game"], false⟩ = some { ps := 1, n := 2, body := b__law_turned, keep := false } := by kernel_rfl
theorem t__law_eight : mdef tb ⟨"_law_eight", topS 33, N__law_eight, ["game"], false⟩ = some { ps := 1, n := 5, body := b__law_eight, keep := false } := by kernel_rfl
theorem t_law : mdef tb ⟨"law", topS 34, N_law, ["script"], false⟩ = some { ps := 1, n := 7, body := b_law, keep := false } := by kernel_rfl
theorem dtab_eq : dtab tb L = dfs := by
  funext i
  cases i with
  | zero => exact t_has_three
  | succ i =>
  cases i with
  | zero => exact t_can_come
  | succ i =>
  cases i with
  | zero => exact t_is_last
  | succ i =>
  cases i with
  | zero => exact t_is_game
  | succ i =>
  cases i with
  | zero => exact t_check_game
  | succ i =>
  cases i with
  | zero => exact t_end_of
  | succ i =>
  cases i with
  | zero => exact t_next_of
  | succ i =>
  cases i with
  | zero => exact t_free_in
  | succ i =>
  cases i with
  | zero => exact t_threats_of
  | succ i =>
  cases i with
  | zero => exact t_threats
  | succ i =>
  cases i with
  | zero => exact t_turned_game
  | succ i =>
  cases i with
  | zero => exact t_least_game
  | succ i =>
  cases i with
  | zero => exact t_forced
  | succ i =>
  cases i with
  | zero => exact t__law_hand
  | succ i =>
  cases i with
  | zero => exact t__law_draw
  | succ i =>
  cases i with
  | zero => exact t__law_some
  | succ i =>
  cases i with
  | zero => exact t__law_lines
  | succ i =>
  cases i with
  | zero => exact t__law_has
  | succ i =>
  cases i with
  | zero => exact t__law_next
  | succ i =>
  cases i with
  | zero => exact t__law_put
  | succ i =>
  cases i with
  | zero => exact t__law_game
  | succ i =>
  cases i with
  | zero => exact t__law_threats
  | succ i =>
  cases i with
  | zero => exact t__law_turned
  | succ i =>
  cases i with
  | zero => exact t__law_eight
  | succ i =>
  cases i with
  | zero => exact t_law
  | succ i =>
  rfl
end K61

set_option Elab.async false
set_option linter.all false
set_option maxRecDepth 100000
set_option maxHeartbeats 4000000
namespace K61
open MP
/-! ### the rows -/
def rows : List (List Nat) := [[0, 1, 2], [3, 4, 5], [6, 7, 8], [0, 3, 6], [1, 4, 7], [2, 5, 8], [0, 4, 8], [2, 4, 6]]
def has (g : List Nat) (s : Nat) : Bool := (rows.map fun r => (r.map fun i => ([g.getD i 0] == [s])).all id).any id
theorem has2' (k : Nat) (c0 c1 c2 c3 c4 c5 c6 c7 c8 s : Nat) (st : Store) : callK dfs (k + 1) 0 [.str [c0, c1, c2, c3, c4, c5, c6, c7, c8], .str [s]] st = .ok (.bl (has [c0, c1, c2, c3, c4, c5, c6, c7, c8] s)) st := by
  have h : callK dfs (k + 1) 0 [.str [c0, c1, c2, c3, c4, c5, c6, c7, c8], .str [s]] st = .ok (.bl (has [c0, c1, c2, c3, c4, c5, c6, c7, c8] s)) (st.take st.length) := by kernel_rfl
  rw [h, List.take_length]
theorem has18' (k : Nat) (c0 c1 c2 c3 c4 c5 c6 c7 c8 s : Nat) (st : Store) : callK dfs (k + 2) 17 [.str [c0, c1, c2, c3, c4, c5, c6, c7, c8], .str [s]] st = .ok (.bl (has [c0, c1, c2, c3, c4, c5, c6, c7, c8] s)) st := by
  have h : callK dfs (k + 2) 17 [.str [c0, c1, c2, c3, c4, c5, c6, c7, c8], .str [s]] st = .ok (.bl (has [c0, c1, c2, c3, c4, c5, c6, c7, c8] s)) ((st.take st.length).take st.length) := by kernel_rfl
  rw [h, List.take_length, List.take_length]
theorem nine {g : List Nat} (h : g.length = 9) : ∃ c0 c1 c2 c3 c4 c5 c6 c7 c8, g = [c0, c1, c2, c3, c4, c5, c6, c7, c8] := by
  match g, h with
  | [c0, c1, c2, c3, c4, c5, c6, c7, c8], _ => exact ⟨_, _, _, _, _, _, _, _, _, rfl⟩
theorem has2 (k : Nat) {g : List Nat} (h : g.length = 9) (s : Nat) (st : Store) : callK dfs (k + 1) 0 [.str g, .str [s]] st = .ok (.bl (has g s)) st := by
  obtain ⟨c0, c1, c2, c3, c4, c5, c6, c7, c8, rfl⟩ := nine h
  exact has2' ..
theorem has18 (k : Nat) {g : List Nat} (h : g.length = 9) (s : Nat) (st : Store) : callK dfs (k + 2) 17 [.str g, .str [s]] st = .ok (.bl (has g s)) st := by
  obtain ⟨c0, c1, c2, c3, c4, c5, c6, c7, c8, rfl⟩ := nine h
  exact has18' ..
def more (g : List Nat) : Int := (g.count 120 : Int) - (g.count 111 : Int)
/-! ### is_last -/
def ahead (g : List Nat) (i : Nat) : List Nat := g.take i ++ [46] ++ g.drop (i + 1)
def lastAt (g : List Nat) (s i : Nat) : Bool := ([g.getD i 0] == [s]) && (!has (ahead g i) 120 && !has (ahead g i) 111)
def isLast (g : List Nat) (s : Nat) : Bool := (List.range 9).any (lastAt g s)
theorem ahead_len {g : List Nat} (h : g.length = 9) {i : Nat} (hi : i < 9) : (ahead g i).length = 9 := by
  unfold ahead
  simp [h]
  omega
theorem sz (n : Nat) (h : n ≤ 1000) : n ≤ SZ := Nat.le_trans h (by decide)
theorem last4 (k : Nat) {g : List Nat} (h : g.length = 9) (s : Nat) (st : Store) : callK dfs (k + 2) 2 [.str g, .str [s]] st = .ok (.bl (isLast g s)) st := by
  refine eq_of_wp ((wp_call (m := { ps := 2, n := 5, body := b_is_last, keep := false }) rfl).mpr ⟨rfl, ?_⟩)
  simp [b_is_last]
  obtain ⟨I, hI⟩ : ∃ I : List D → MEnv → Store → Prop, ∀ xs env s1, I xs env s1 ↔ ∃ i, i ≤ 9 ∧ xs = enumN i ((g.drop i).map fun c => .str [c]) ∧ s1 = st ∧ (∃ a b c, env = [some (.str g), some (.str [s]), a, b, c]) ∧ ∀ j < i, lastAt g s j = false := ⟨_, fun _ _ _ => Iff.rfl⟩
  refine forL_inv I ?_ ?_ ((hI _ _ _).mpr ⟨0, by omega, by simp, rfl, ⟨_, _, _, rfl⟩, fun j hj => by omega⟩)
  · intro env s1 hi
    obtain ⟨i, hi, hx, rfl, _, hl⟩ := (hI _ _ _).mp hi
    have hi9 : i = 9 := by
      have := congrArg List.length hx
      rw [enumN_len] at this
      simp [h] at this
      omega
    subst hi9
    refine ⟨?_, List.take_length⟩
    unfold isLast
    rw [List.any_eq_false]
    intro j hj
    rw [hl j (by simpa using hj)]
    exact Bool.false_ne_true
  · intro x xs env s1 hi
    obtain ⟨i, hi, hx, rfl, ⟨a, b, c, rfl⟩, hl⟩ := (hI _ _ _).mp hi
    obtain ⟨y, r, h1, rfl, rfl⟩ := enumN_cons hx
    have hi9 : i < 9 := by
      have := congrArg List.length h1
      simp [h] at this
      omega
    have hd : g.drop i = g[i]'(by omega) :: g.drop (i + 1) := List.drop_eq_getElem_cons (by omega)
    rw [hd] at h1
    simp only [List.map_cons, List.cons.injEq] at h1
    obtain ⟨rfl, rfl⟩ := h1
    have hg : g.getD i 0 = g[i]'(by omega) := by simp [h, hi9]
    have e2 := has2 k (ahead_len h hi9)
    have ct := cut_take g i
    have cd : cut g (some ((i : Int) + 1)) none = g.drop (i + 1) := cut_drop g (i + 1)
    have l1 : i + 1 ≤ SZ := sz _ (by omega)
    have l2 : i + 1 + (9 - (i + 1)) ≤ SZ := sz _ (by omega)
    have l3 : i + 1 + (8 - i) ≤ SZ := sz _ (by omega)
    have em : min i 9 = i := by omega
    have ea : g.take i ++ 46 :: g.drop (i + 1) = ahead g i := by unfold ahead; simp
    have la : lastAt g s i = (([g[i]'(by omega)] == [s]) && (!has (ahead g i) 120 && !has (ahead g i) 111)) := by unfold lastAt; rw [hg]
    have nxt : ∀ a b c, (lastAt g s i = false) → I (enumN (i + 1) ((g.drop (i + 1)).map fun c => .str [c])) [some (.str g), some (.str [s]), a, b, c] s1 := fun a b c hf => (hI _ _ _).mpr ⟨i + 1, by omega, rfl, rfl, ⟨_, _, _, rfl⟩, fun j hj => by
      by_cases e : j = i
      · rw [e]; exact hf
      · exact hl j (by omega)⟩
    have tru : lastAt g s i = true → isLast g s = true := fun ht => List.any_eq_true.mpr ⟨i, by simpa using hi9, ht⟩
    rw [la] at nxt tru
    have q0 : ([g[i]'(by omega)] == [s]) = decide (g[i]'(by omega) = s) := by simp; rfl
    rw [q0] at nxt tru
    simp only [List.map_drop] at nxt
    simp [setV, ct, cd, h, em, l1, l2, l3, ea, e2]
    by_cases hc : g[i]'(by omega) = s
    · refine .inr ⟨hc, ?_⟩
      rw [hc] at nxt tru ⊢
      cases hx1 : has (ahead g i) 120 <;> cases hx2 : has (ahead g i) 111 <;> simp [hx1, hx2] at nxt tru <;> simp [e2, hx1, hx2, nxt, tru]
    · exact .inl ⟨hc, nxt _ _ _ (by simp [hc])⟩
def canCome (g : List Nat) : Bool := if more g = 0 ∨ more g = 1 then (if has g 120 then decide (more g = 1) && isLast g 120 else !has g 111 || (decide (more g = 0) && isLast g 111)) else false
theorem in01 (a : Int) : evCmp .notin (.int a) (.tup [.int 0, .int 1]) = some (!(decide (a = 0) || decide (a = 1))) := by
  show (inD (.int a) (.tup [.int 0, .int 1])).map (!·) = _
  have : inD (.int a) (.tup [.int 0, .int 1]) = some ((0 == a) || ((1 == a) || false)) := by
    simp [inD, plains, plain, depths, depth, eqD]
  rw [this]
  have e0 : ((0 : Int) == a) = decide (a = 0) := by
    by_cases h : a = 0
    · subst h; rfl
    · rw [decide_eq_false h]; exact beq_eq_false_iff_ne.mpr (Ne.symm h)
  have e1 : ((1 : Int) == a) = decide (a = 1) := by
    by_cases h : a = 1
    · subst h; rfl
    · rw [decide_eq_false h]; exact beq_eq_false_iff_ne.mpr (Ne.symm h)
  rw [e0, e1, Bool.or_false]
  rfl
theorem come3 (k : Nat) {g : List Nat} (h : g.length = 9) (st : Store) : callK dfs (k + 3) 1 [.str g] st = .ok (.bl (canCome g)) st := by
  refine eq_of_wp ((wp_call (m := { ps := 1, n := 2, body := b_can_come, keep := false }) rfl).mpr ⟨rfl, ?_⟩)
  have e2 := has2 (k + 1) h
  have e4 := last4 k h
  simp [b_can_come, setV, e2, e4, in01]
  have em : (g.count 120 : Int) - (g.count 111 : Int) = more g := rfl
  rw [em]
  unfold canCome
  by_cases h0 : more g = 0 <;> by_cases h1 : more g = 1 <;> cases has g 120 <;> cases has g 111 <;> simp [h0, h1]
/-! ### is_game -/
def sign (c : Nat) : Bool := [46, 120, 111].contains c
def isGame : D → Bool
  | .str g => (g.length == 9) && (g.all sign && canCome g)
  | _ => false
def signD : D → Option D
  | .str [c] => some (.bl (sign c))
  | _ => none
theorem sign_map (g : List Nat) : (g.map fun c => D.str [c]).filterMap signD = (g.map sign).map D.bl := by
  induction g with
  | nil => rfl
  | cons c g ih => simp [signD, ih]
theorem bsg (g : List Nat) : boolsOf (List.map (D.bl ∘ sign) g) = some (g.map sign) := by rw [← List.map_map]; exact bools_map
theorem fin_pl {n : Nat} {st : Store} : st.take st.length = st := List.take_length
theorem all_sign {C : Nat → List D → Store → R D} {g : List Nat} {env : MEnv} {st : Store} {P : List D → Store → Prop} {tl : MEnv} (he : env = some (.str g) :: none :: tl) (hl : g.length ≤ 1000) (p : P ((g.map sign).map D.bl) st) :
    Wp (compL (compT (evE C (.cmp .isin (.var 1) (.con (.str [46, 120, 111])))) none (.nm 1) [1] env) [] (g.map fun c => D.str [c]) [] st) P := by
  refine wp_compL (G := signD) (fun x hx => ?_) (by simpa using sz _ hl) (by rw [List.nil_append, sign_map]; exact p)
  obtain ⟨c, _, rfl⟩ := List.mem_map.mp hx
  subst he
  simp [wipeE, setV, signD, sign]
  omega
theorem game5 (k : Nat) (d : D) (hk : kindOk d = true) (hs : ∀ g, d = .str g → g.length ≤ 1000) (st : Store) : callK dfs (k + 4) 3 [d] st = .ok (.bl (isGame d)) st := by
  refine eq_of_wp ((wp_call (m := { ps := 1, n := 2, body := b_is_game, keep := false }) rfl).mpr ⟨rfl, ?_⟩)
  have v : view st d = some d := by cases d <;> first | rfl | (cases hk; done)
  simp [b_is_game, v, evB, bIs, hk]
  cases d with
  | str g =>
    have hl := hs g rfl
    simp [isStrD, isGame, bLen]
    by_cases h9 : g.length = 9
    · simp [h9]
      refine all_sign rfl (by omega) ?_
      have e3 := come3 k h9 st
      have hb : bAll [.lst (List.map (D.bl ∘ sign) g)] = some (.bl (g.all sign)) := by
        simp only [bAll, bsg]
        simp
      rw [List.map_map]
      simp [hb, e3]
      cases ha : g.all sign
      · obtain ⟨x, hx, hf⟩ : ∃ x, x ∈ g ∧ sign x = false := by simpa using ha
        exact .inl ⟨⟨x, hx, hf⟩, fun h => by rw [h x hx] at hf; cases hf⟩
      · have hall : ∀ x, x ∈ g → sign x = true := by simpa using ha
        exact .inr ⟨hall, fun _ => hall⟩
    · have : ¬ ((g.length : Int) = 9) := by omega
      simp [h9, this]
  | _ => simp [isStrD, isGame]
/-! ### check_game, end_of, next_of, .. -/
theorem game_len {g : List Nat} (h : isGame (.str g) = true) : g.length = 9 := by
  unfold isGame at h
  rw [Bool.and_eq_true] at h
  exact eq_of_beq h.1
theorem check6 (k : Nat) {g : List Nat} (h : isGame (.str g) = true) (st : Store) : callK dfs (k + 5) 4 [.str g] st = .ok .non st := by
  refine eq_of_wp ((wp_call (m := { ps := 1, n := 1, body := b_check_game, keep := false }) rfl).mpr ⟨rfl, ?_⟩)
  have e5 := game5 k (.str g) rfl (fun g' e => by cases e; rw [game_len h]; decide) st
  simp [b_check_game, e5, h]
def endOf (g : List Nat) : List Nat := if has g 120 then [120] else if has g 111 then [111] else if g.contains 46 then [] else [102, 117, 108, 108]
def nextOf (g : List Nat) : List Nat := if endOf g = [] then (if g.count 120 = g.count 111 then [120] else [111]) else []
theorem end7 (k : Nat) {g : List Nat} (h : g.length = 9) (st : Store) : callK dfs (k + 2) 5 [.str g] st = .ok (.str (endOf g)) st := by
  refine eq_of_wp ((wp_call (m := { ps := 1, n := 2, body := b_end_of, keep := false }) rfl).mpr ⟨rfl, ?_⟩)
  have e2 := has2 k h
  simp [b_end_of, forL_cons, forL_nil, setV, e2, gok]
  unfold endOf
  cases has g 120 <;> cases has g 111 <;> simp
  by_cases hc : 46 ∈ g <;> simp [hc]
theorem next8 (k : Nat) {g : List Nat} (h : g.length = 9) (st : Store) : callK dfs (k + 3) 6 [.str g] st = .ok (.str (nextOf g)) st := by
  refine eq_of_wp ((wp_call (m := { ps := 1, n := 1, body := b_next_of, keep := false }) rfl).mpr ⟨rfl, ?_⟩)
  have e7 := end7 k h
  simp [b_next_of, e7]
  unfold nextOf
  by_cases he : endOf g = [] <;> simp [he]
  by_cases hc : g.count 120 = g.count 111
  · simp [hc]
  · have : ¬ ((g.count 120 : Int) = (g.count 111 : Int)) := by omega
    simp [hc, this]
def put (g : List Nat) (p : Nat) (s : List Nat) : List Nat := g.take p ++ s ++ g.drop (p + 1)
theorem next_len (g : List Nat) : (nextOf g).length ≤ 1 := by
  unfold nextOf
  split
  · split <;> simp
  · simp
theorem put20 (k : Nat) {g s : List Nat} (h : g.length = 9) (hs : s.length ≤ 1) {p : Nat} (hp : p < 9) (st : Store) : callK dfs (k + 1) 19 [.str g, .int p, .str s] st = .ok (.str (put g p s)) st := by
  refine eq_of_wp ((wp_call (m := { ps := 3, n := 3, body := b__law_put, keep := false }) rfl).mpr ⟨rfl, ?_⟩)
  have ct := cut_take g p
  have cd : cut g (some ((p : Int) + 1)) none = g.drop (p + 1) := cut_drop g (p + 1)
  have em : min p 9 = p := by omega
  have l1 : p + s.length ≤ SZ := sz _ (by omega)
  have l2 : p + s.length + (9 - (p + 1)) ≤ SZ := sz _ (by omega)
  have l3 : p + s.length + (8 - p) ≤ SZ := sz _ (by omega)
  simp [b__law_put, ct, cd, h, em, l1, l2, l3, put]
/-! ### the law's own -/
def lawNext (g : List Nat) : List Nat := if has g 120 = true ∨ has g 111 = true ∨ g.contains 46 = false then [] else (if g.count 120 = g.count 111 then [120] else [111])
theorem law_next (g : List Nat) : nextOf g = lawNext g := by
  unfold nextOf lawNext endOf
  cases has g 120 <;> cases has g 111 <;> cases g.contains 46 <;> simp
theorem next19 (k : Nat) {g : List Nat} (h : g.length = 9) (st : Store) : callK dfs (k + 3) 18 [.str g] st = .ok (.str (lawNext g)) st := by
  refine eq_of_wp ((wp_call (m := { ps := 1, n := 1, body := b__law_next, keep := false }) rfl).mpr ⟨rfl, ?_⟩)
  have e18 := has18 k h
  simp [b__law_next, e18]
  unfold lawNext
  have hcc : ((g.count 120 : Int) = (g.count 111 : Int)) ↔ g.count 120 = g.count 111 := by omega
  cases has g 120 <;> cases has g 111 <;> by_cases hc : 46 ∈ g <;> by_cases hq : g.count 120 = g.count 111 <;> simp [hc, hq, hcc]
def lawGame (g : List Nat) : Bool := decide (more g = 0 ∨ more g = 1) && (!(has g 120 && has g 111) && (!(has g 120 && decide (more g = 0)) && !(has g 111 && decide (more g = 1))))
def lawIs : D → Bool
  | .str g => (g.length == 9) && (g.all sign && lawGame g)
  | _ => false
end K61

set_option Elab.async false
set_option linter.all false
set_option maxRecDepth 100000
set_option maxHeartbeats 4000000
namespace K61
open MP
/-! ### all games -/
def allG : Nat → (List Nat → Bool) → Bool
  | 0, p => p []
  | n + 1, p => allG n (fun g => p (46 :: g)) && (allG n (fun g => p (120 :: g)) && allG n (fun g => p (111 :: g)))
theorem allG_get : ∀ {n : Nat} {p : List Nat → Bool}, allG n p = true → ∀ g : List Nat, g.length = n → g.all sign = true → p g = true
  | 0, p, h, g, hl, _ => by
    have : g = [] := by simpa using hl
    rw [this]; exact h
  | n + 1, p, h, g, hl, hs => by
    cases g with
    | nil => simp at hl
    | cons c g =>
      rw [allG, Bool.and_eq_true, Bool.and_eq_true] at h
      rw [List.all_cons, Bool.and_eq_true] at hs
      have hl' : g.length = n := by simpa using hl
      have hc : c = 46 ∨ c = 120 ∨ c = 111 := by simpa [sign] using hs.1
      rcases hc with rfl | rfl | rfl
      · exact allG_get h.1 g hl' hs.2
      · exact allG_get h.2.1 g hl' hs.2
      · exact allG_get h.2.2 g hl' hs.2
theorem allG_mk {n : Nat} {p : List Nat → Bool} (h1 : allG n (fun g => p (46 :: g)) = true) (h2 : allG n (fun g => p (120 :: g)) = true) (h3 : allG n (fun g => p (111 :: g)) = true) : allG (n + 1) p = true := by rw [allG, h1, h2, h3]; rfl
def eqG (g : List Nat) : Bool := canCome g == lawGame g
theorem g_46_46_46_46 : allG 5 (fun g => eqG (46 :: 46 :: 46 :: 46 :: g)) = true := by decide +kernel
theorem g_46_46_46_120 : allG 5 (fun g => eqG (46 :: 46 :: 46 :: 120 :: g)) = true := by decide +kernel
theorem g_46_46_46_111 : allG 5 (fun g => eqG (46 :: 46 :: 46 :: 111 :: g)) = true := by decide +kernel
theorem g_46_46_120_46 : allG 5 (fun g => eqG (46 :: 46 :: 120 :: 46 :: g)) = true := by decide +kernel
theorem g_46_46_120_120 : allG 5 (fun g => eqG (46 :: 46 :: 120 :: 120 :: g)) = true := by decide +kernel
theorem g_46_46_120_111 : allG 5 (fun g => eqG (46 :: 46 :: 120 :: 111 :: g)) = true := by decide +kernel
theorem g_46_46_111_46 : allG 5 (fun g => eqG (46 :: 46 :: 111 :: 46 :: g)) = true := by decide +kernel
theorem g_46_46_111_120 : allG 5 (fun g => eqG (46 :: 46 :: 111 :: 120 :: g)) = true := by decide +kernel
theorem g_46_46_111_111 : allG 5 (fun g => eqG (46 :: 46 :: 111 :: 111 :: g)) = true := by decide +kernel
theorem g_46_120_46_46 : allG 5 (fun g => eqG (46 :: 120 :: 46 :: 46 :: g)) = true := by decide +kernel
theorem g_46_120_46_120 : allG 5 (fun g => eqG (46 :: 120 :: 46 :: 120 :: g)) = true := by decide +kernel
theorem g_46_120_46_111 : allG 5 (fun g => eqG (46 :: 120 :: 46 :: 111 :: g)) = true := by decide +kernel
theorem g_46_120_120_46 : allG 5 (fun g => eqG (46 :: 120 :: 120 :: 46 :: g)) = true := by decide +kernel
theorem g_46_120_120_120 : allG 5 (fun g => eqG (46 :: 120 :: 120 :: 120 :: g)) = true := by decide +kernel
theorem g_46_120_120_111 : allG 5 (fun g => eqG (46 :: 120 :: 120 :: 111 :: g)) = true := by decide +kernel
theorem g_46_120_111_46 : allG 5 (fun g => eqG (46 :: 120 :: 111 :: 46 :: g)) = true := by decide +kernel
theorem g_46_120_111_120 : allG 5 (fun g => eqG (46 :: 120 :: 111 :: 120 :: g)) = true := by decide +kernel
theorem g_46_120_111_111 : allG 5 (fun g => eqG (46 :: 120 :: 111 :: 111 :: g)) = true := by decide +kernel
theorem g_46_111_46_46 : allG 5 (fun g => eqG (46 :: 111 :: 46 :: 46 :: g)) = true := by decide +kernel
theorem g_46_111_46_120 : allG 5 (fun g => eqG (46 :: 111 :: 46 :: 120 :: g)) = true := by decide +kernel
theorem g_46_111_46_111 : allG 5 (fun g => eqG (46 :: 111 :: 46 :: 111 :: g)) = true := by decide +kernel
theorem g_46_111_120_46 : allG 5 (fun g => eqG (46 :: 111 :: 120 :: 46 :: g)) = true := by decide +kernel
theorem g_46_111_120_120 : allG 5 (fun g => eqG (46 :: 111 :: 120 :: 120 :: g)) = true := by decide +kernel
theorem g_46_111_120_111 : allG 5 (fun g => eqG (46 :: 111 :: 120 :: 111 :: g)) = true := by decide +kernel
theorem g_46_111_111_46 : allG 5 (fun g => eqG (46 :: 111 :: 111 :: 46 :: g)) = true := by decide +kernel
theorem g_46_111_111_120 : allG 5 (fun g => eqG (46 :: 111 :: 111 :: 120 :: g)) = true := by decide +kernel
theorem g_46_111_111_111 : allG 5 (fun g => eqG (46 :: 111 :: 111 :: 111 :: g)) = true := by decide +kernel
theorem g_120_46_46_46 : allG 5 (fun g => eqG (120 :: 46 :: 46 :: 46 :: g)) = true := by decide +kernel
theorem g_120_46_46_120 : allG 5 (fun g => eqG (120 :: 46 :: 46 :: 120 :: g)) = true := by decide +kernel
theorem g_120_46_46_111 : allG 5 (fun g => eqG (120 :: 46 :: 46 :: 111 :: g)) = true := by decide +kernel
theorem g_120_46_120_46 : allG 5 (fun g => eqG (120 :: 46 :: 120 :: 46 :: g)) = true := by decide +kernel
theorem g_120_46_120_120 : allG 5 (fun g => eqG (120 :: 46 :: 120 :: 120 :: g)) = true := by decide +kernel
theorem g_120_46_120_111 : allG 5 (fun g => eqG (120 :: 46 :: 120 :: 111 :: g)) = true := by decide +kernel
theorem g_120_46_111_46 : allG 5 (fun g => eqG (120 :: 46 :: 111 :: 46 :: g)) = true := by decide +kernel
theorem g_120_46_111_120 : allG 5 (fun g => eqG (120 :: 46 :: 111 :: 120 :: g)) = true := by decide +kernel
theorem g_120_46_111_111 : allG 5 (fun g => eqG (120 :: 46 :: 111 :: 111 :: g)) = true := by decide +kernel
theorem g_120_120_46_46 : allG 5 (fun g => eqG (120 :: 120 :: 46 :: 46 :: g)) = true := by decide +kernel
theorem g_120_120_46_120 : allG 5 (fun g => eqG (120 :: 120 :: 46 :: 120 :: g)) = true := by decide +kernel
theorem g_120_120_46_111 : allG 5 (fun g => eqG (120 :: 120 :: 46 :: 111 :: g)) = true := by decide +kernel
theorem g_120_120_120_46 : allG 5 (fun g => eqG (120 :: 120 :: 120 :: 46 :: g)) = true := by decide +kernel
theorem g_120_120_120_120 : allG 5 (fun g => eqG (120 :: 120 :: 120 :: 120 :: g)) = true := by decide +kernel
theorem g_120_120_120_111 : allG 5 (fun g => eqG (120 :: 120 :: 120 :: 111 :: g)) = true := by decide +kernel
theorem g_120_120_111_46 : allG 5 (fun g => eqG (120 :: 120 :: 111 :: 46 :: g)) = true := by decide +kernel
theorem g_120_120_111_120 : allG 5 (fun g => eqG (120 :: 120 :: 111 :: 120 :: g)) = true := by decide +kernel
theorem g_120_120_111_111 : allG 5 (fun g => eqG (120 :: 120 :: 111 :: 111 :: g)) = true := by decide +kernel
theorem g_120_111_46_46 : allG 5 (fun g => eqG (120 :: 111 :: 46 :: 46 :: g)) = true := by decide +kernel
theorem g_120_111_46_120 : allG 5 (fun g => eqG (120 :: 111 :: 46 :: 120 :: g)) = true := by decide +kernel
theorem g_120_111_46_111 : allG 5 (fun g => eqG (120 :: 111 :: 46 :: 111 :: g)) = true := by decide +kernel
theorem g_120_111_120_46 : allG 5 (fun g => eqG (120 :: 111 :: 120 :: 46 :: g)) = true := by decide +kernel
theorem g_120_111_120_120 : allG 5 (fun g => eqG (120 :: 111 :: 120 :: 120 :: g)) = true := by decide +kernel
theorem g_120_111_120_111 : allG 5 (fun g => eqG (120 :: 111 :: 120 :: 111 :: g)) = true := by decide +kernel
theorem g_120_111_111_46 : allG 5 (fun g => eqG (120 :: 111 :: 111 :: 46 :: g)) = true := by decide +kernel
theorem g_120_111_111_120 : allG 5 (fun g => eqG (120 :: 111 :: 111 :: 120 :: g)) = true := by decide +kernel
theorem g_120_111_111_111 : allG 5 (fun g => eqG (120 :: 111 :: 111 :: 111 :: g)) = true := by decide +kernel
theorem g_111_46_46_46 : allG 5 (fun g => eqG (111 :: 46 :: 46 :: 46 :: g)) = true := by decide +kernel
theorem g_111_46_46_120 : allG 5 (fun g => eqG (111 :: 46 :: 46 :: 120 :: g)) = true := by decide +kernel
theorem g_111_46_46_111 : allG 5 (fun g => eqG (111 :: 46 :: 46 :: 111 :: g)) = true := by decide +kernel
theorem g_111_46_120_46 : allG 5 (fun g => eqG (111 :: 46 :: 120 :: 46 :: g)) = true := by decide +kernel
theorem g_111_46_120_120 : allG 5 (fun g => eqG (111 :: 46 :: 120 :: 120 :: g)) = true := by decide +kernel
theorem g_111_46_120_111 : allG 5 (fun g => eqG (111 :: 46 :: 120 :: 111 :: g)) = true := by decide +kernel
theorem g_111_46_111_46 : allG 5 (fun g => eqG (111 :: 46 :: 111 :: 46 :: g)) = true := by decide +kernel
theorem g_111_46_111_120 : allG 5 (fun g => eqG (111 :: 46 :: 111 :: 120 :: g)) = true := by decide +kernel
theorem g_111_46_111_111 : allG 5 (fun g => eqG (111 :: 46 :: 111 :: 111 :: g)) = true := by decide +kernel
theorem g_111_120_46_46 : allG 5 (fun g => eqG (111 :: 120 :: 46 :: 46 :: g)) = true := by decide +kernel
theorem g_111_120_46_120 : allG 5 (fun g => eqG (111 :: 120 :: 46 :: 120 :: g)) = true := by decide +kernel
theorem g_111_120_46_111 : allG 5 (fun g => eqG (111 :: 120 :: 46 :: 111 :: g)) = true := by decide +kernel
theorem g_111_120_120_46 : allG 5 (fun g => eqG (111 :: 120 :: 120 :: 46 :: g)) = true := by decide +kernel
theorem g_111_120_120_120 : allG 5 (fun g => eqG (111 :: 120 :: 120 :: 120 :: g)) = true := by decide +kernel
theorem g_111_120_120_111 : allG 5 (fun g => eqG (111 :: 120 :: 120 :: 111 :: g)) = true := by decide +kernel
theorem g_111_120_111_46 : allG 5 (fun g => eqG (111 :: 120 :: 111 :: 46 :: g)) = true := by decide +kernel
theorem g_111_120_111_120 : allG 5 (fun g => eqG (111 :: 120 :: 111 :: 120 :: g)) = true := by decide +kernel
theorem g_111_120_111_111 : allG 5 (fun g => eqG (111 :: 120 :: 111 :: 111 :: g)) = true := by decide +kernel
theorem g_111_111_46_46 : allG 5 (fun g => eqG (111 :: 111 :: 46 :: 46 :: g)) = true := by decide +kernel
theorem g_111_111_46_120 : allG 5 (fun g => eqG (111 :: 111 :: 46 :: 120 :: g)) = true := by decide +kernel
theorem g_111_111_46_111 : allG 5 (fun g => eqG (111 :: 111 :: 46 :: 111 :: g)) = true := by decide +kernel
theorem g_111_111_120_46 : allG 5 (fun g => eqG (111 :: 111 :: 120 :: 46 :: g)) = true := by decide +kernel
theorem g_111_111_120_120 : allG 5 (fun g => eqG (111 :: 111 :: 120 :: 120 :: g)) = true := by decide +kernel
theorem g_111_111_120_111 : allG 5 (fun g => eqG (111 :: 111 :: 120 :: 111 :: g)) = true := by decide +kernel
theorem g_111_111_111_46 : allG 5 (fun g => eqG (111 :: 111 :: 111 :: 46 :: g)) = true := by decide +kernel
theorem g_111_111_111_120 : allG 5 (fun g => eqG (111 :: 111 :: 111 :: 120 :: g)) = true := by decide +kernel
theorem g_111_111_111_111 : allG 5 (fun g => eqG (111 :: 111 :: 111 :: 111 :: g)) = true := by decide +kernel
theorem same9 : allG 9 eqG = true := (allG_mk (allG_mk (allG_mk (allG_mk g_46_46_46_46 g_46_46_46_120 g_46_46_46_111) (allG_mk g_46_46_120_46 g_46_46_120_120 g_46_46_120_111) (allG_mk g_46_46_111_46 g_46_46_111_120 g_46_46_111_111)) (allG_mk (allG_mk g_46_120_46_46 g_46_120_46_120 g_46_120_46_111) (allG_mk g_46_120_120_46 g_46_120_120_120 g_46_120_120_111) (allG_mk g_46_120_111_46 g_46_120_111_120 g_46_120_111_111)) (allG_mk (allG_mk g_46_111_46_46 g_46_111_46_120 g_46_111_46_111) (allG_mk g_46_111_120_46 g_46_111_120_120 g_46_111_120_111) (allG_mk g_46_111_111_46 g_46_111_111_120 g_46_111_111_111))) (allG_mk (allG_mk (allG_mk g_120_46_46_46 g_120_46_46_120 g_120_46_46_111) (allG_mk g_120_46_120_46 g_120_46_120_120 g_120_46_120_111) (allG_mk g_120_46_111_46 g_120_46_111_120 g_120_46_111_111)) (allG_mk (allG_mk g_120_120_46_46 g_120_120_46_120 g_120_120_46_111) (allG_mk g_120_120_120_46 g_120_120_120_120 g_120_120_120_111) (allG_mk g_120_120_111_46 g_120_120_111_120 g_120_120_111_111)) (allG_mk (allG_mk g_120_111_46_46 g_120_111_46_120 g_120_111_46_111) (allG_mk g_120_111_120_46 g_120_111_120_120 g_120_111_120_111) (allG_mk g_120_111_111_46 g_120_111_111_120 g_120_111_111_111))) (allG_mk (allG_mk (allG_mk g_111_46_46_46 g_111_46_46_120 g_111_46_46_111) (allG_mk g_111_46_120_46 g_111_46_120_120 g_111_46_120_111) (allG_mk g_111_46_111_46 g_111_46_111_120 g_111_46_111_111)) (allG_mk (allG_mk g_111_120_46_46 g_111_120_46_120 g_111_120_46_111) (allG_mk g_111_120_120_46 g_111_120_120_120 g_111_120_120_111) (allG_mk g_111_120_111_46 g_111_120_111_120 g_111_120_111_111)) (allG_mk (allG_mk g_111_111_46_46 g_111_111_46_120 g_111_111_46_111) (allG_mk g_111_111_120_46 g_111_111_120_120 g_111_111_120_111) (allG_mk g_111_111_111_46 g_111_111_111_120 g_111_111_111_111))))
theorem same {g : List Nat} (h : g.length = 9) (hs : g.all sign = true) : canCome g = lawGame g := eq_of_beq (show eqG g = true from allG_get same9 g h hs)
end K61

set_option Elab.async false
set_option linter.all false
set_option maxRecDepth 100000
set_option maxHeartbeats 4000000
namespace K61
open MP
/-! ### the hand -/
structure Hand (o : MObj) (cells : List Int) (a b c d : Int) : Prop where
  eq : o = .lst [.lst (cells.map .int), .int a, .int b, .int c, .int d]
  cells : ∀ x ∈ cells, 0 ≤ x
  a : 0 ≤ a
  b : 0 ≤ b
  c : 0 ≤ c
  d : 0 ≤ d
def IsHand (st : Store) (l : Nat) : Prop := ∃ o cells a b c d, st[l]? = some o ∧ Hand o cells a b c d
theorem view_set {st : Store} {l : Nat} {xs : List D} (h : l < st.length) : view (st.set l (.lst xs)) (.ref l) = some (.lst xs) := view_ref (List.getElem?_set_self h)
theorem setObj_lst {st : Store} {l : Nat} {xs : List D} {k : Int} {v : D} {P : D → Store → Prop} (h : st[l]? = some (.lst xs)) (h0 : 0 ≤ k) (hk : k < xs.length) (hb : MP.below l v = true) : Wp (setObj st (.ref l) (.int k) v) P ↔ P .non (st.set l (.lst (xs.set k.toNat v))) := by
  unfold setObj
  simp only [h]
  rw [if_pos h0, if_pos hk]
  simp [hb]
theorem mul_big {i j : Int} (h1 : -(2 ^ 64) < j) (h2 : j < 2 ^ 64) : mulOk i j = true := by
  unfold mulOk
  rw [Bool.or_eq_true]
  exact .inr (by rw [Bool.and_eq_true]; exact ⟨decide_eq_true h1, decide_eq_true h2⟩)
theorem mul_bigL {i j : Int} (h1 : -(2 ^ 64) < i) (h2 : i < 2 ^ 64) : mulOk i j = true := by
  unfold mulOk
  rw [Bool.or_eq_true]
  exact .inl (by rw [Bool.and_eq_true]; exact ⟨decide_eq_true h1, decide_eq_true h2⟩)
theorem below_int {n : Nat} {i : Int} : MP.below n (.int i) = true := rfl
theorem set_self {st : Store} {l : Nat} {o : MObj} (h : st[l]? = some o) : st.set l o = st := by
  apply List.ext_getElem?
  intro j
  by_cases e : l = j
  · subst e
    rw [List.getElem?_set_self (List.getElem?_eq_some_iff.mp h).1, h]
  · rw [List.getElem?_set_ne e]
def HandAt (st : Store) (l : Nat) (s : Store) : Prop := (∃ o, s = st.set l o) ∧ IsHand s l
theorem HandAt.refl {st : Store} {l : Nat} (h : IsHand st l) : HandAt st l st := by
  obtain ⟨o, cells, a, b, c, e, hst, r⟩ := id h
  exact ⟨⟨o, (set_self hst).symm⟩, h⟩
theorem HandAt.trans {st s s' : Store} {l : Nat} (h : HandAt st l s) (h' : HandAt s l s') : HandAt st l s' := by
  obtain ⟨⟨o, rfl⟩, _⟩ := h
  obtain ⟨⟨o', rfl⟩, r⟩ := h'
  exact ⟨⟨o', by rw [List.set_set]⟩, r⟩
theorem HandAt.len {st s : Store} {l : Nat} (h : HandAt st l s) : s.length = st.length := by
  obtain ⟨⟨o, rfl⟩, _⟩ := h
  exact List.length_set
theorem HandAt.take {st s : Store} {l : Nat} (h : HandAt st l s) : s.take st.length = s := by rw [← h.len]; exact List.take_length
theorem mk_hand {st : Store} {l : Nat} (hl : l < st.length) {cells : List Int} {a b c e : Int} (hc : ∀ x ∈ cells, 0 ≤ x) (h1 : 0 ≤ a) (h2 : 0 ≤ b) (h3 : 0 ≤ c) (h4 : 0 ≤ e) : HandAt st l (st.set l (.lst [.lst (cells.map .int), .int a, .int b, .int c, .int e])) :=
  ⟨⟨_, rfl⟩, _, cells, a, b, c, e, List.getElem?_set_self hl, rfl, hc, h1, h2, h3, h4⟩
theorem pow18 : evBin .pow (.int 10) (.int 18) = some (.int 1000000000000000000) := by
  show (if 0 ≤ (18 : Int) ∧ (18 : Int) ≤ 1000000 ∧ (10 : Int).natAbs < 2 ^ 64 then some (D.int ((10 : Int) ^ (18 : Int).toNat)) else none) = _
  rw [if_pos (by decide)]
  rfl
section
variable {st : Store} {l : Nat} {x0 x1 x2 x3 x4 : D} {v : Int} {P : D → Store → Prop}
theorem b1 (h : st[l]? = some (.lst [x0, x1, x2, x3, x4])) : Wp (setObj st (.ref l) (.int 1) (.int v)) P ↔ P .non (st.set l (.lst [x0, .int v, x2, x3, x4])) := setObj_lst (k := 1) h (by decide) (by simp) rfl
theorem b2 (h : st[l]? = some (.lst [x0, x1, x2, x3, x4])) : Wp (setObj st (.ref l) (.int 2) (.int v)) P ↔ P .non (st.set l (.lst [x0, x1, .int v, x3, x4])) := setObj_lst (k := 2) h (by decide) (by simp) rfl
theorem b3 (h : st[l]? = some (.lst [x0, x1, x2, x3, x4])) : Wp (setObj st (.ref l) (.int 3) (.int v)) P ↔ P .non (st.set l (.lst [x0, x1, x2, .int v, x4])) := setObj_lst (k := 3) h (by decide) (by simp) rfl
theorem b4 (h : st[l]? = some (.lst [x0, x1, x2, x3, x4])) : Wp (setObj st (.ref l) (.int 4) (.int v)) P ↔ P .non (st.set l (.lst [x0, x1, x2, x3, .int v])) := setObj_lst (k := 4) h (by decide) (by simp) rfl
theorem c2 (h : l < st.length) : Wp (setObj (st.set l (.lst [x0, x1, x2, x3, x4])) (.ref l) (.int 2) (.int v)) P ↔ P .non (st.set l (.lst [x0, x1, .int v, x3, x4])) := by rw [b2 (List.getElem?_set_self h), List.set_set]
theorem c3 (h : l < st.length) : Wp (setObj (st.set l (.lst [x0, x1, x2, x3, x4])) (.ref l) (.int 3) (.int v)) P ↔ P .non (st.set l (.lst [x0, x1, x2, .int v, x4])) := by rw [b3 (List.getElem?_set_self h), List.set_set]
end
theorem draw_tail (C : Nat → List D → Store → R D) {l : Nat} {st : Store} (hh : IsHand st l) {many : Int} (h1 : 0 < many) (h2 : many < 1073741824) (x : Option D) {N : MEnv → Store → Prop} {K : MEnv → Store → Prop} :
    WS (exSs C b__law_draw.tail [some (.ref l), some (.int many), x, none, none] st) N (fun d s => ∃ r, d = .int r ∧ 0 ≤ r ∧ r < many ∧ HandAt st l s) K := by
  obtain ⟨o, cells, a, b, c, e, hst, rfl, hc, ha, hb, hcc, hd⟩ := hh
  have hl : l < st.length := (List.getElem?_eq_some_iff.mp hst).1
  have vr := view_ref hst
  have vs : ∀ xs, view (st.set l (.lst xs)) (.ref l) = some (.lst xs) := fun xs => view_set hl
  by_cases hb0 : b = 0
  · subst hb0
    have m1 : ∀ i, mulOk 7877 i = true := fun i => mul_bigL (by decide) (by decide)
    have m2 : ∀ i, mulOk i 69621 = true := fun i => mul_big (by decide) (by decide)
    have m3 : ∀ i j, mulOk (i % 2147483647) j = true := fun i j => mul_bigL (by omega) (by omega)
    have m4 : ∀ i j, mulOk (i % 2147483399) j = true := fun i j => mul_bigL (by omega) (by omega)
    simp [b__law_draw, vr, vs, atL, b1 hst, b2 hst, b4 hst, c2 hl, c3 hl, setV, pow18, m1, m2, m3, m4, h1]
    exact ⟨Int.emod_nonneg _ (by omega), Int.emod_lt_of_pos _ h1, mk_hand hl hc ha (by omega) hcc (by omega)⟩
  · have hb1 : 0 < b := by omega
    simp [b__law_draw, vr, vs, atL, b1 hst, b2 hst, b4 hst, c2 hl, c3 hl, setV, pow18, h1, h2, hb1]
    exact ⟨Int.emod_nonneg _ (by omega), Int.emod_lt_of_pos _ h1, mk_hand hl hc ha (Int.ediv_nonneg hb (by omega)) hcc hd⟩
theorem draw14 (k : Nat) {l : Nat} {st : Store} (hh : IsHand st l) {many : Int} (h1 : 0 < many) (h2 : many < 1073741824) : Wp (callK dfs (k + 1) 14 [.ref l, .int many] st) fun d s => ∃ r, d = .int r ∧ 0 ≤ r ∧ r < many ∧ HandAt st l s := by
  refine (wp_call (m := { ps := 2, n := 5, body := b__law_draw, keep := false }) rfl).mpr ⟨rfl, ?_⟩
  have hb : b__law_draw = b__law_draw.head (by simp [b__law_draw]) :: b__law_draw.tail := rfl
  show WS (exSs (callK dfs k) b__law_draw [some (.ref l), some (.int many), none, none, none] st) _ _ _
  rw [hb, ws_cons]
  have go : ∀ (x : Option D) (s : Store), HandAt st l s → WS (exSs (callK dfs k) b__law_draw.tail [some (.ref l), some (.int many), x, none, none] s) (fun _ _ => False) (fun d s => Wp (finish false st.length d s) fun d s => ∃ r, d = .int r ∧ 0 ≤ r ∧ r < many ∧ HandAt st l s) (fun _ _ => False) := fun x s hs => by
    refine (draw_tail (callK dfs k) hs.2 h1 h2 x (N := fun _ _ => False) (K := fun _ _ => False)).mono (fun _ _ h => h.elim) (fun d s' ⟨r, e, q1, q2, q3⟩ => ?_) (fun _ _ h => h)
    subst e
    have q4 := hs.trans q3
    simp
    rw [q4.take]
    exact ⟨q1, q2, q4⟩
  obtain ⟨o, cells, a, b, c, e, hst, rfl, hc, ha, hb', hcc, hd⟩ := id hh
  have hl : l < st.length := (List.getElem?_eq_some_iff.mp hst).1
  have vr := view_ref hst
  have vs : ∀ xs, view (st.set l (.lst xs)) (.ref l) = some (.lst xs) := fun xs => view_set hl
  have m1 : ∀ i, mulOk i 48271 = true := fun i => mul_big (by decide) (by decide)
  have m2 : ∀ i, mulOk i 5 = true := fun i => mul_big (by decide) (by decide)
  generalize hT : b__law_draw.tail = TL at go ⊢
  by_cases h0 : b = 0 ∧ a < cells.length
  · obtain ⟨rfl, hlt⟩ := h0
    have hi : a.toNat < cells.length := by omega
    have hat : (cells.map D.int)[a.toNat]? = some (.int cells[a.toNat]) := by rw [List.getElem?_map, List.getElem?_eq_getElem hi]; rfl
    have hx : 0 ≤ cells[a.toNat] := hc _ (List.getElem_mem hi)
    simp [b__law_draw, vr, vs, atL, b1 hst, b2 hst, b4 hst, c2 hl, c3 hl, setV, pow18, hlt, ha, hat, m1, m2]
    by_cases h18 : cells[a.toNat] < 1000000000000000000
    · exact .inl ⟨h18, go _ _ (mk_hand hl hc (by omega) (by omega) (Int.emod_nonneg _ (by omega)) hd)⟩
    · exact .inr ⟨by omega, go _ _ (mk_hand hl hc (by omega) hx (Int.emod_nonneg _ (by omega)) hd)⟩
  · simp [b__law_draw, vr, vs, atL]
    by_cases hb0 : b = 0
    · exact .inr ⟨hb0, .inl ⟨by omega, go none st (HandAt.refl hh)⟩⟩
    · exact .inl ⟨hb0, go none st (HandAt.refl hh)⟩
/-- _law_some -/
theorem some15 (k : Nat) {l : Nat} {st : Store} (hh : IsHand st l) {xs : List D} (h1 : 0 < xs.length) (h2 : xs.length < 1000) (hp : ∀ x ∈ xs, MP.below st.length x = true ∧ ∀ l, x ≠ .ref l) : Wp (callK dfs (k + 2) 15 [.ref l, .lst xs] st) fun d s => d ∈ xs ∧ HandAt st l s := by
  refine (wp_call (m := { ps := 2, n := 2, body := b__law_some, keep := false }) rfl).mpr ⟨rfl, ?_⟩
  simp [b__law_some]
  refine (draw14 k hh (many := xs.length) (by omega) (by omega)).mono fun d s ⟨r, hr, q1, q2, q3⟩ => ?_
  subst hr
  have hi : r.toNat < xs.length := by omega
  have hm := List.getElem_mem hi
  obtain ⟨p1, p2⟩ := hp _ hm
  simp [atL, q1]
  refine ⟨xs[r.toNat], List.getElem?_eq_getElem hi, ?_⟩
  rw [wp_fin p1 p2, q3.take]
  exact ⟨hm, q3⟩
/-- _law_hand -/
theorem hand13 (k : Nat) (ns : List Int) (st : Store) : Wp (callK dfs (k + 1) 13 [.scr ns] st) fun d s => d = .ref st.length ∧ ∃ o, s = st ++ [o] ∧ IsHand s st.length := by
  refine (wp_call (m := { ps := 1, n := 3, body := b__law_hand, keep := true }) rfl).mpr ⟨rfl, ?_⟩
  obtain ⟨ms, hc, hml⟩ : ∃ ms, cut ns none (some (63 : Int)) = ms ∧ ms.length ≤ 63 := ⟨_, cut_take ns 63, by simp; omega⟩
  have m1 : ∀ i, mulOk 5 i = true := fun i => mul_bigL (by decide) (by decide)
  simp [b__law_hand, hc]
  refine wp_compL (G := fun x => match x with | .int i => some (.int (if i < 0 then -i else i)) | _ => none) (fun x hx => ?_) (sz _ (by simp; omega)) ?_
  · obtain ⟨i, _, rfl⟩ := List.mem_map.mp hx
    simp [setV, wipeE]
  · have e : (ms.map D.int).filterMap (fun x => match x with | .int i => some (D.int (if i < 0 then -i else i)) | _ => none) = (ms.map fun i => if i < 0 then -i else i).map D.int := by
      clear hc hml
      induction ms with
      | nil => rfl
      | cons m ms ih => simp [ih]
    rw [List.nil_append, e]
    simp [setV, m1]
    refine ⟨_, ms.map (fun i => if i < 0 then -i else i), 0, 0, 83 + 5 * (ms.length : Int), 0, List.getElem?_concat_length, by simp, fun x hx => ?_, by omega, by omega, by omega, by omega⟩
    obtain ⟨i, _, rfl⟩ := List.mem_map.mp hx
    split <;> omega
end K61

set_option Elab.async false
set_option linter.all false
set_option maxRecDepth 100000
set_option maxHeartbeats 8000000
namespace K61
open MP
/-! ### games that go on -/
structure Fair (g : List Nat) : Prop where
  len : g.length = 9
  sg : g.all sign = true
  ok : lawGame g = true
theorem Fair.is {g : List Nat} (h : Fair g) : isGame (.str g) = true := by
  show ((g.length == 9) && (g.all sign && canCome g)) = true
  rw [same h.len h.sg, h.ok, h.sg, h.len]
  rfl
theorem put_len {g : List Nat} (h : g.length = 9) {p s : Nat} (hp : p < 9) : (put g p [s]).length = 9 := by
  unfold put
  simp [h]
  omega
theorem put_sign {g : List Nat} (h : g.all sign = true) {p s : Nat} (hs : sign s = true) : (put g p [s]).all sign = true := by
  rw [List.all_eq_true] at h ⊢
  intro x hx
  unfold put at hx
  rw [List.mem_append, List.mem_append] at hx
  rcases hx with (hx | hx) | hx
  · exact h x (List.mem_of_mem_take hx)
  · rw [List.mem_singleton.mp hx]; exact hs
  · exact h x (List.mem_of_mem_drop hx)
theorem nine_cases {p : Nat} (hp : p < 9) : p = 0 ∨ p = 1 ∨ p = 2 ∨ p = 3 ∨ p = 4 ∨ p = 5 ∨ p = 6 ∨ p = 7 ∨ p = 8 := by omega
/-- a sign put on a free place makes no row of the other -/
theorem has_put {g : List Nat} (h : g.length = 9) {p : Nat} (hp : p < 9) (hg : g[p]? = some 46) {s t : Nat} (hst : s ≠ t) (ht : t ≠ 46) : has (put g p [s]) t = has g t := by
  obtain ⟨c0, c1, c2, c3, c4, c5, c6, c7, c8, rfl⟩ := nine h
  have e1 : (s == t) = false := beq_eq_false_iff_ne.mpr hst
  have e2 : ((46 : Nat) == t) = false := beq_eq_false_iff_ne.mpr (Ne.symm ht)
  rcases nine_cases hp with rfl | rfl | rfl | rfl | rfl | rfl | rfl | rfl | rfl <;> (simp at hg; subst hg; simp [put, has, rows, e1, e2, hst, Ne.symm ht])
theorem more_put {g : List Nat} {p : Nat} (hg : g[p]? = some 46) (s : Nat) : more (put g p [s]) = more g + (if s = 120 then 1 else 0) - (if s = 111 then 1 else 0) := by
  have hp : p < g.length := (List.getElem?_eq_some_iff.mp hg).1
  have hd : g.drop p = 46 :: g.drop (p + 1) := by
    rw [List.drop_eq_getElem_cons hp]
    rw [List.getElem?_eq_getElem hp] at hg
    rw [Option.some.inj hg]
  have hg2 : g = g.take p ++ (46 :: g.drop (p + 1)) := by rw [← hd, List.take_append_drop]
  have c : ∀ t, t ≠ 46 → (put g p [s]).count t = g.count t + (if s = t then 1 else 0) := fun t ht => by
    have e : g.count t = (g.take p).count t + (g.drop (p + 1)).count t := by
      rw [show g.count t = (g.take p ++ (46 :: g.drop (p + 1))).count t by rw [← hg2], List.count_append, List.count_cons]
      simp [Ne.symm ht]
    unfold put
    rw [List.count_append, List.count_append, e, List.count_cons, List.count_nil]
    by_cases hs : s = t
    · simp [hs]; omega
    · simp [hs]
  unfold more
  rw [c 120 (by decide), c 111 (by decide)]
  split <;> split <;> omega
theorem Fair.step {g : List Nat} (h : Fair g) {p : Nat} (hp : p < 9) (hg : g[p]? = some 46) (hn : nextOf g ≠ []) : Fair (put g p (nextOf g)) := by
  have h1 : has g 120 = false := by
    cases e : has g 120 with
    | false => rfl
    | true => exact absurd (by unfold nextOf endOf; simp [e]) hn
  have h2 : has g 111 = false := by
    cases e : has g 111 with
    | false => rfl
    | true => exact absurd (by unfold nextOf endOf; simp [e, h1]) hn
  have hok := h.ok
  unfold lawGame at hok
  rw [h1, h2] at hok
  simp at hok
  by_cases hc : g.count 120 = g.count 111
  · have en : nextOf g = [120] := by
      by_cases he : endOf g = []
      · simp [nextOf, he, hc]
      · simp [nextOf, he] at hn
    rw [en]
    have m0 : more g = 0 := by unfold more; omega
    refine ⟨put_len h.len hp, put_sign h.sg rfl, ?_⟩
    unfold lawGame
    rw [more_put hg, has_put h.len hp hg (s := 120) (t := 111) (by decide) (by decide), h2, m0]
    simp
  · have en : nextOf g = [111] := by
      by_cases he : endOf g = []
      · simp [nextOf, he, hc]
      · simp [nextOf, he] at hn
    rw [en]
    have m1 : more g = 1 := by
      rcases hok with hok | hok
      · unfold more at hok; omega
      · exact hok
    refine ⟨put_len h.len hp, put_sign h.sg rfl, ?_⟩
    unfold lawGame
    rw [more_put hg, has_put h.len hp hg (s := 111) (t := 120) (by decide) (by decide), h1, m1]
    simp
theorem fair0 : Fair [46, 46, 46, 46, 46, 46, 46, 46, 46] := ⟨rfl, rfl, rfl⟩
/-! ### the free places -/
def freeD (g : List Nat) : D → Option D
  | .int i => if g[i.toNat]? = some 46 then some (.int i) else none
  | _ => none
def frees (g : List Nat) : List D := (rangeN 0 9).filterMap (freeD g)
theorem mem_frees {g : List Nat} {d : D} (h : d ∈ frees g) : ∃ p : Nat, p < 9 ∧ d = .int p ∧ g[p]? = some 46 := by
  obtain ⟨x, hx, hf⟩ := List.mem_filterMap.mp h
  unfold rangeN at hx
  obtain ⟨i, hi, rfl⟩ := List.mem_map.mp hx
  have hi9 : i < 9 := by simpa using hi
  have e0 : (0 : Int) + (i : Int) = (i : Int) := by omega
  rw [e0] at hf
  unfold freeD at hf
  simp only [Int.toNat_natCast] at hf
  split at hf
  · cases hf
    exact ⟨i, hi9, rfl, by assumption⟩
  · cases hf
theorem frees_pos {g : List Nat} (h : g.length = 9) (hm : 46 ∈ g) : 0 < (frees g).length := by
  obtain ⟨i, hi, e⟩ := List.mem_iff_getElem.mp hm
  have : D.int (i : Int) ∈ frees g := by
    refine List.mem_filterMap.mpr ⟨.int (0 + (i : Int)), ?_, ?_⟩
    · unfold rangeN
      exact List.mem_map.mpr ⟨i, by simp; omega, rfl⟩
    · have e0 : (0 : Int) + (i : Int) = (i : Int) := by omega
      rw [e0]
      unfold freeD
      simp only [Int.toNat_natCast]
      rw [if_pos (by rw [List.getElem?_eq_getElem hi, e])]
  exact List.length_pos_of_mem this
theorem frees_len (g : List Nat) : (frees g).length ≤ 9 := by
  unfold frees
  refine Nat.le_trans (List.length_filterMap_le _ _) ?_
  rw [rangeN_len]
  exact Nat.le_refl _
/-- [place for place in range(9) if game[place] == '.'] with the game at gi, the place at pi -/
theorem free_comp {C : Nat → List D → Store → R D} {g : List Nat} (h : g.length = 9) {st : Store} {env : MEnv} {gi pi : Nat} (hne : gi ≠ pi) (hgi : env[gi]? = some (some (.str g))) (hpi : pi < env.length) {P : List D → Store → Prop} (p : P (frees g) st) :
    Wp (compL (compT (evE C (.var pi)) (some (evE C (.cmp .eq (.ix (.var gi) (.var pi)) (.con (.str [46]))))) (.nm pi) [pi] env) [] (rangeN 0 9) [] st) P := by
  refine wp_compL (G := freeD g) (fun x hx => ?_) (by rw [rangeN_len]; decide) (by rw [List.nil_append]; exact p)
  unfold rangeN at hx
  obtain ⟨i, hi, rfl⟩ := List.mem_map.mp hx
  have hi9 : i < 9 := by simpa using hi
  have e0 : (0 : Int) + (i : Int) = (i : Int) := by omega
  rw [e0]
  have g1 : ((env.set pi (some (D.int (i : Int))))[gi]?) = some (some (.str g)) := by
    rw [List.getElem?_set_ne (Ne.symm hne)]; exact hgi
  have g2 : ((env.set pi (some (D.int (i : Int))))[pi]?) = some (some (.int (i : Int))) := List.getElem?_set_self hpi
  have gi' : g[i]? = some (g[i]'(by omega)) := List.getElem?_eq_getElem (by omega)
  rw [wp_turnS]
  refine ⟨_, rfl, ?_⟩
  simp only [wipeE, setV, List.set_set]
  simp [g1, g2, atL_nat, gi', freeD]
  by_cases hc : g[i]'(by omega) = 46 <;> simp [hc, g2]
end K61

set_option Elab.async false
set_option linter.all false
set_option maxRecDepth 100000
set_option maxHeartbeats 8000000
namespace K61
open MP
theorem both (d : D) : isGame d = lawIs d := by
  cases d with
  | str g =>
    show ((g.length == 9) && (g.all sign && canCome g)) = ((g.length == 9) && (g.all sign && lawGame g))
    by_cases h : g.length = 9
    · cases hs : g.all sign with
      | false => rfl
      | true => rw [same h hs]
    · have : (g.length == 9) = false := by simpa using h
      rw [this]; rfl
  | _ => rfl
/-- what may be asked of is_game -/
structure Deep (d : D) : Prop where
  bl : ∀ n, MP.below n d = true
  kd : kindOk d = true
  ln : ∀ g, d = .str g → g.length ≤ 1000
theorem Deep.noref {d : D} (h : Deep d) : ∀ l, d ≠ .ref l := fun l e => by have := h.kd; rw [e] at this; cases this
theorem deep_tup {d : D} (h : Deep d) : Deep (.tup [d]) := ⟨fun n => by simp [MP.below, MP.belows, h.bl n], rfl, fun _ e => nomatch e⟩
theorem deep_lst {d : D} (h : Deep d) : Deep (.lst [d]) := ⟨fun n => by simp [MP.below, MP.belows, h.bl n], rfl, fun _ e => nomatch e⟩
theorem deep_dct {d : D} (h : Deep d) : Deep (.dct [(.int 0, d)]) := ⟨fun n => by simp [MP.below, MP.belowk, h.bl n], rfl, fun _ e => nomatch e⟩
theorem deep_str {g : List Nat} (h : g.length ≤ 1000) : Deep (.str g) := ⟨fun n => rfl, rfl, fun _ e => by cases e; exact h⟩
theorem deep_non : Deep .non := ⟨fun n => rfl, rfl, fun _ e => nomatch e⟩
theorem deep_int (i : Int) : Deep (.int i) := ⟨fun n => rfl, rfl, fun _ e => nomatch e⟩
theorem nines : evBin .mul (.str [46]) (.int 9) = some (.str [46, 46, 46, 46, 46, 46, 46, 46, 46]) := rfl
theorem game21 (k : Nat) {l : Nat} {st : Store} (hh : IsHand st l) {n : Int} (h1 : 0 ≤ n) (h2 : n < 100) : Wp (callK dfs (k + 4) 20 [.ref l, .int n] st) fun d s => ∃ g, d = .str g ∧ Fair g ∧ HandAt st l s := by
  refine (wp_call (m := { ps := 2, n := 6, body := b__law_game, keep := false }) rfl).mpr ⟨rfl, ?_⟩
  have sm : smallI n = true := by unfold smallI; simp; omega
  simp [b__law_game, nines, setV, sm]
  obtain ⟨I, hI⟩ : ∃ I : List D → MEnv → Store → Prop, ∀ xs env s1, I xs env s1 ↔ ∃ g x y, Fair g ∧ env = [some (.ref l), some (.int n), some (.str g), x, y, none] ∧ HandAt st l s1 := ⟨_, fun _ _ _ => Iff.rfl⟩
  refine forL_inv I ?_ ?_ ((hI _ _ _).mpr ⟨_, none, none, fair0, rfl, HandAt.refl hh⟩)
  · intro env s2 hi
    obtain ⟨g, x, y, hg, rfl, h3⟩ := (hI _ _ _).mp hi
    simp
    rw [h3.take]
    exact ⟨hg, h3⟩
  · intro x xs env s2 hi
    obtain ⟨g, y, z, hg, rfl, h3⟩ := (hI _ _ _).mp hi
    have s9 : smallI 9 = true := by decide
    have e19 := next19 k hg.len
    have en := law_next g
    simp [setV, s9]
    refine free_comp hg.len (by decide) rfl (by simp) ?_
    simp [e19]
    by_cases hn : lawNext g = []
    · exact .inl ⟨hn, (hI _ _ _).mpr ⟨g, _, _, hg, rfl, h3⟩⟩
    · refine .inr ⟨hn, ?_⟩
      have hm : 46 ∈ g := by
        by_cases h46 : 46 ∈ g
        · exact h46
        · exact absurd (by unfold lawNext; simp [h46]) hn
      refine (some15 (k + 1) h3.2 (frees_pos hg.len hm) (by have := frees_len g; omega) fun x hx => ?_).mono fun d' s3 ⟨hmem, h4⟩ => ?_
      · obtain ⟨p, _, rfl, _⟩ := mem_frees hx
        exact ⟨rfl, fun _ e => nomatch e⟩
      · obtain ⟨p, hp, rfl, hgp⟩ := mem_frees hmem
        have hl1 : (lawNext g).length ≤ 1 := by rw [← en]; exact next_len g
        have e20 := put20 (k + 2) hg.len hl1 hp
        simp [e20]
        have st' := hg.step hp hgp (by rw [en]; exact hn)
        rw [en] at st'
        exact (hI _ _ _).mpr ⟨_, _, _, st', rfl, h3.trans h4⟩
end K61

set_option Elab.async false
set_option linter.all false
set_option maxRecDepth 100000
set_option maxHeartbeats 8000000
namespace K61
open MP
/-! ### picked places -/
def pick (ix : List Nat) (g : List Nat) : List Nat := ix.map fun i => g.getD i 0
def TRN : List Nat := [6, 3, 0, 7, 4, 1, 8, 5, 2]
def MIR : List Nat := [2, 1, 0, 5, 4, 3, 8, 7, 6]
theorem strs_map (q : List Nat) : strsOf (q.map fun c => D.str [c]) = some (q.map fun c => [c]) := by
  induction q with
  | nil => rfl
  | cons c q ih => simp [strsOf, ih]
theorem joinN_map (q : List Nat) : joinN [] (q.map fun c => [c]) = q := by
  induction q with
  | nil => rfl
  | cons c q ih =>
    cases q with
    | nil => rfl
    | cons d q =>
      show [c] ++ [] ++ joinN [] ((d :: q).map fun c => [c]) = _
      rw [ih]; rfl
theorem join_odd {q : List Nat} (h : q.length = 9) : evB .join [.str [], .lst (q.map fun c => .str [c])] = some (.str q) := by
  show (strsOf (q.map fun c => D.str [c])).bind (fun r => if joinOk [] r then some (D.str (joinN [] r)) else none) = _
  rw [strs_map]
  show (if joinOk [] (q.map fun c => [c]) = true then some (D.str (joinN [] (q.map fun c => [c]))) else none) = _
  rw [joinN_map, if_pos]
  unfold joinOk
  obtain ⟨c0, c1, c2, c3, c4, c5, c6, c7, c8, rfl⟩ := nine h
  exact decide_eq_true (by simp; decide)
def pickD (g : List Nat) : D → Option D
  | .int i => some (.str [g.getD i.toNat 0])
  | _ => none
theorem pickD_map (g : List Nat) (ix : List Nat) : (ix.map fun (i : Nat) => D.int (i : Int)).filterMap (pickD g) = (pick ix g).map fun c => .str [c] := by
  unfold pick
  induction ix with
  | nil => rfl
  | cons i ix ih =>
    rw [List.map_cons, List.filterMap_cons_some (by show some (D.str [g.getD ((i : Int)).toNat 0]) = _; rw [Int.toNat_natCast])]
    rw [ih]
    rfl
theorem pick_comp {C : Nat → List D → Store → R D} {g : List Nat} (h : g.length = 9) {st : Store} {env : MEnv} {gi pi : Nat} (hne : gi ≠ pi) (hgi : env[gi]? = some (some (.str g))) (hpi : pi < env.length) (ix : List Nat) (hix : ∀ i ∈ ix, i < 9) (hl : ix.length ≤ 9) {P : List D → Store → Prop} (p : P ((pick ix g).map fun c => .str [c]) st) :
    Wp (compL (compT (evE C (.ix (.var gi) (.var pi))) none (.nm pi) [pi] env) [] (ix.map fun (i : Nat) => D.int (i : Int)) [] st) P := by
  refine wp_compL (G := pickD g) (fun x hx => ?_) (by simp; exact sz _ (by omega)) (by rw [List.nil_append, pickD_map]; exact p)
  obtain ⟨i, hi, rfl⟩ := List.mem_map.mp hx
  have hi9 := hix i hi
  have g1 : ((env.set pi (some (D.int (i : Int))))[gi]?) = some (some (.str g)) := by
    rw [List.getElem?_set_ne (Ne.symm hne)]; exact hgi
  have g2 : ((env.set pi (some (D.int (i : Int))))[pi]?) = some (some (.int (i : Int))) := List.getElem?_set_self hpi
  rw [wp_turnN]
  refine ⟨_, rfl, ?_⟩
  simp only [wipeE, setV, List.set_set]
  obtain ⟨c, hc⟩ : ∃ c, g[i]? = some c := ⟨_, List.getElem?_eq_getElem (by omega)⟩
  simp [g1, g2, atL_nat, hc, pickD]
theorem trn_items : ([.int 6, .int 3, .int 0, .int 7, .int 4, .int 1, .int 8, .int 5, .int 2] : List D) = TRN.map fun (i : Nat) => D.int (i : Int) := rfl
theorem mir_items : ([.int 2, .int 1, .int 0, .int 5, .int 4, .int 3, .int 8, .int 7, .int 6] : List D) = MIR.map fun (i : Nat) => D.int (i : Int) := rfl
theorem pick_len (g : List Nat) : (pick TRN g).length = 9 ∧ (pick MIR g).length = 9 := ⟨rfl, rfl⟩
theorem turned10 (k : Nat) {g : List Nat} (h : isGame (.str g) = true) (st : Store) : callK dfs (k + 6) 10 [.str g] st = .ok (.str (pick TRN g)) st := by
  refine eq_of_wp ((wp_call (m := { ps := 1, n := 2, body := b_turned_game, keep := false }) rfl).mpr ⟨rfl, ?_⟩)
  have e6 := check6 k h
  simp [b_turned_game, e6]
  rw [trn_items]
  refine pick_comp (game_len h) (by decide) rfl (by simp) TRN (by decide) (by decide) ?_
  have jq := join_odd (pick_len g).1
  simp [jq]
theorem lturned22 (k : Nat) {g : List Nat} (h : g.length = 9) (st : Store) : callK dfs (k + 1) 22 [.str g] st = .ok (.str (pick TRN g)) st := by
  refine eq_of_wp ((wp_call (m := { ps := 1, n := 2, body := b__law_turned, keep := false }) rfl).mpr ⟨rfl, ?_⟩)
  simp [b__law_turned]
  rw [trn_items]
  refine pick_comp h (by decide) rfl (by simp) TRN (by decide) (by decide) ?_
  have jq := join_odd (pick_len g).1
  simp [jq]
/-! ### the least of the eight -/
def turnN (g : List Nat) : Nat → List Nat
  | 0 => g
  | j + 1 => pick TRN (turnN g j)
theorem turnN_len {g : List Nat} (h : g.length = 9) : ∀ j, (turnN g j).length = 9
  | 0 => h
  | j + 1 => rfl
def orb (g : List Nat) : Nat → List (List Nat)
  | 0 => []
  | j + 1 => orb g j ++ [turnN g (j + 1), pick MIR (turnN g (j + 1))]
def lmin (x : List Nat) (xs : List (List Nat)) : List Nat := xs.foldl (fun a y => if y < a then y else a) x
theorem minD_strs : ∀ (xs : List (List Nat)) (x : List Nat), MP.minD (.str x) (xs.map .str) = .str (lmin x xs)
  | [], x => rfl
  | y :: ys, x => by
    show MP.minD (if ltD (.str y) (.str x) then .str y else .str x) (ys.map .str) = _
    have e : ltD (.str y) (.str x) = decide (y < x) := by simp [ltD]
    rw [e]
    by_cases h : y < x
    · rw [decide_eq_true h, if_pos rfl, minD_strs ys y]
      unfold lmin
      rw [List.foldl_cons, if_pos h]
    · rw [decide_eq_false h, if_neg Bool.false_ne_true, minD_strs ys x]
      unfold lmin
      rw [List.foldl_cons, if_neg h]
theorem plains_strs (xs : List (List Nat)) : plains (xs.map .str) = true := by
  induction xs with
  | nil => rfl
  | cons x xs ih => simp [plains, plain, ih]
theorem depths_strs (xs : List (List Nat)) : depths (xs.map .str) = 0 := by
  induction xs with
  | nil => rfl
  | cons x xs ih => simp [depths, depth, ih]
theorem minOk_strs (xs : List (List Nat)) : minOk (xs.map .str) = true := by
  unfold minOk
  rw [plains_strs, depths_strs]
  simp [isNon, alikeD]
theorem bMin_strs (x : List Nat) (xs : List (List Nat)) : evB .min1 [.lst ((x :: xs).map .str)] = some (.str (lmin x xs)) := by
  show (if minOk ((x :: xs).map D.str) = true then some (MP.minD (.str x) (xs.map .str)) else none) = _
  rw [minOk_strs, if_pos rfl, minD_strs]
theorem belows_strs (n : Nat) (xs : List (List Nat)) : MP.belows n (xs.map .str) = true := by
  induction xs with
  | nil => rfl
  | cons x xs ih => simp [MP.belows, MP.below, ih]
def leastG (g : List Nat) : List Nat := lmin (turnN g 1) ((orb g 4).drop 1)
theorem orb_cons (g : List Nat) : orb g 4 = turnN g 1 :: (orb g 4).drop 1 := rfl
theorem orb_len (g : List Nat) : ∀ j, (orb g j).length = 2 * j
  | 0 => rfl
  | j + 1 => by unfold orb; rw [List.length_append, orb_len g j]; try rfl
theorem least11 (k : Nat) {g : List Nat} (h : isGame (.str g) = true) (st : Store) : callK dfs (k + 6) 11 [.str g] st = .ok (.str (leastG g)) st := by
  refine eq_of_wp ((wp_call (m := { ps := 1, n := 5, body := b_least_game, keep := false }) rfl).mpr ⟨rfl, ?_⟩)
  have e6 := check6 k h
  have hl := game_len h
  have s4 : smallI 4 = true := by decide
  simp [b_least_game, e6, setV, s4]
  obtain ⟨I, hI⟩ : ∃ I : List D → MEnv → Store → Prop, ∀ xs env s1, I xs env s1 ↔ ∃ j a, j + xs.length = 4 ∧ env = [some (.str g), some (.ref st.length), some (.str (turnN g j)), a, none] ∧ s1 = st ++ [.lst ((orb g j).map .str)] := ⟨_, fun _ _ _ => Iff.rfl⟩
  refine forL_inv I ?_ ?_ ((hI _ _ _).mpr ⟨0, none, by rw [rangeN_len], rfl, rfl⟩)
  · intro env s2 hi
    obtain ⟨j, a, hj, rfl, rfl⟩ := (hI _ _ _).mp hi
    have hj4 : j = 4 := by simpa using hj
    subst hj4
    have bm := bMin_strs (turnN g 1) ((orb g 4).drop 1)
    rw [← orb_cons] at bm
    simp [view_last, bm, take_last]
    try rfl
  · intro x xs env s2 hi
    obtain ⟨j, a, hj, rfl, rfl⟩ := (hI _ _ _).mp hi
    rw [ws_turn]
    refine ⟨_, rfl, ?_⟩
    simp [setV]
    rw [trn_items]
    refine pick_comp (turnN_len hl j) (by decide) rfl (by simp) TRN (by decide) (by decide) ?_
    have jq := join_odd (pick_len (turnN g j)).1
    simp [jq, mut_last, setV]
    rw [mir_items]
    refine pick_comp (show (pick TRN (turnN g j)).length = 9 from rfl) (by decide) rfl (by simp) MIR (by decide) (by decide) ?_
    have jm := join_odd (pick_len (pick TRN (turnN g j))).2
    have lo : (orb g j).length + 2 ≤ SZ := by
      rw [orb_len]
      exact sz _ (by simp at hj; omega)
    simp [jm, mut_last, set_last, MP.belows, MP.below, lo]
    refine ⟨_, _, ⟨rfl, rfl⟩, by simpa using lo, (hI _ _ _).mpr ⟨j + 1, _, ?_, rfl, ?_⟩⟩
    · simp at hj; omega
    · rw [set_last]; simp [orb, turnN]
/-! ### the eight, the law's own -/
theorem put_lenS {g : List Nat} (h : g.length = 9) : True := trivial
def flip3 (g : List Nat) (a : Nat) : List Nat := ((g.drop a).take 3).reverse
theorem flip_all {g : List Nat} (h : g.length = 9) : joinN [] [flip3 g 0, flip3 g 3, flip3 g 6] = pick MIR g := by
  obtain ⟨c0, c1, c2, c3, c4, c5, c6, c7, c8, rfl⟩ := nine h
  rfl
def eight (g : List Nat) : List (List Nat) := [g, turnN g 1, turnN g 2, turnN g 3]
def flipD : D → Option D
  | .str g => some (.str (pick MIR g))
  | _ => none
theorem flipD_map (xs : List (List Nat)) : (xs.map D.str).filterMap flipD = (xs.map (pick MIR)).map .str := by
  induction xs with
  | nil => rfl
  | cons x xs ih => simp [flipD, ih]
def partD (g : List Nat) : D → Option D
  | .int i => some (.str (flip3 g i.toNat))
  | _ => none
theorem gok_last {st : Store} {xs : List D} : gok [(st.length, .lst xs)] (st ++ [.lst xs]) = true := by
  unfold gok
  simp [MObj.same_self]
theorem seq_last {st : Store} {xs : List D} : itemsOf (st ++ [.lst xs]) .seq [.ref st.length] = some (xs, [(st.length, .lst xs)]) := by
  show (view (st ++ [.lst xs]) (.ref st.length)).bind _ = _
  rw [view_last]
  show some (xs, guardOf _ _) = _
  unfold guardOf
  simp
def turnedL (g : List Nat) : Nat → List (List Nat)
  | 0 => [g]
  | j + 1 => turnedL g j ++ [turnN g (j + 1)]
theorem turnedL_len (g : List Nat) : ∀ j, (turnedL g j).length = j + 1
  | 0 => rfl
  | j + 1 => by rw [turnedL, List.length_append, turnedL_len g j, List.length_singleton]
theorem turnedL_last (g : List Nat) : ∀ j, atL ((turnedL g j).map D.str) (-1) = some (.str (turnN g j))
  | 0 => rfl
  | j + 1 => by
    have hl := turnedL_len g j
    unfold atL
    rw [if_neg (by decide), if_pos (by rw [List.length_map, turnedL_len]; omega)]
    rw [show ((-1 : Int) + (((turnedL g (j + 1)).map D.str).length : Int)).toNat = j + 1 by rw [List.length_map, turnedL_len]; omega]
    rw [turnedL, List.map_append, List.getElem?_append_right (by rw [List.length_map, hl]; exact Nat.le_refl _), List.length_map, hl]
    simp
theorem eight23 (k : Nat) {g : List Nat} (h : g.length = 9) (st : Store) : callK dfs (k + 2) 23 [.str g] st = .ok (.lst ((eight g ++ (eight g).map (pick MIR)).map .str)) st := by
  refine eq_of_wp ((wp_call (m := { ps := 1, n := 5, body := b__law_eight, keep := false }) rfl).mpr ⟨rfl, ?_⟩)
  have s3 : smallI 3 = true := by decide
  simp [b__law_eight, setV, s3]
  obtain ⟨I, hI⟩ : ∃ I : List D → MEnv → Store → Prop, ∀ xs env s1, I xs env s1 ↔ ∃ j a, j + xs.length = 3 ∧ env = [some (.str g), some (.ref st.length), a, none, none] ∧ s1 = st ++ [.lst ((turnedL g j).map .str)] := ⟨_, fun _ _ _ => Iff.rfl⟩
  refine forL_inv I ?_ ?_ ((hI _ _ _).mpr ⟨0, none, by rw [rangeN_len], rfl, rfl⟩)
  · intro env s2 hi
    obtain ⟨j, a, hj, rfl, rfl⟩ := (hI _ _ _).mp hi
    have hj3 : j = 3 := by simpa using hj
    subst hj3
    have e4 : turnedL g 3 = eight g := rfl
    rw [e4]
    simp [seq_last]
    refine wp_compLg gok_last (G := flipD) (fun x hx => ?_) (by simp [eight]; decide) ?_
    · obtain ⟨q, hq, rfl⟩ := List.mem_map.mp hx
      have hq9 : q.length = 9 := by
        simp [eight] at hq
        rcases hq with rfl | rfl | rfl | rfl <;> first | exact h | rfl
      have p0 : cut q (some (0 : Int)) (some (3 : Int)) = (q.drop 0).take 3 := cut_mid q 0 3 (by omega) (by omega)
      have p1 : cut q (some (3 : Int)) (some (6 : Int)) = (q.drop 3).take 3 := cut_mid q 3 6 (by omega) (by omega)
      have p2 : cut q (some (6 : Int)) (some (9 : Int)) = (q.drop 6).take 3 := cut_mid q 6 9 (by omega) (by omega)
      rw [wp_turnN]
      refine ⟨_, rfl, ?_⟩
      simp [setV, wipeE]
      refine wp_compL (G := partD q) (fun y hy => ?_) (by simp; decide) ?_
      · simp at hy
        rcases hy with rfl | rfl | rfl <;> simp [setV, wipeE, p0, p1, p2, evRev, partD, flip3]
      · have ef : ([.int 0, .int 3, .int 6] : List D).filterMap (partD q) = [.str (flip3 q 0), .str (flip3 q 3), .str (flip3 q 6)] := rfl
        rw [ef]
        have jf : evB .join [.str [], .lst [.str (flip3 q 0), .str (flip3 q 3), .str (flip3 q 6)]] = some (.str (pick MIR q)) := by
          show (if joinOk [] [flip3 q 0, flip3 q 3, flip3 q 6] = true then some (D.str (joinN [] [flip3 q 0, flip3 q 3, flip3 q 6])) else none) = _
          rw [flip_all hq9, if_pos]
          unfold joinOk
          refine decide_eq_true ?_
          simp [flip3, hq9]
          decide
        simp [jf, flipD]
    · rw [List.nil_append, flipD_map]
      have bad : evBin .add (.lst ((eight g).map .str)) (.lst (((eight g).map (pick MIR)).map .str)) = some (.lst ((eight g ++ (eight g).map (pick MIR)).map .str)) := by
        have q : ∀ a b : List D, evBin .add (.lst a) (.lst b) = if a.length + b.length ≤ SZ then some (.lst (a ++ b)) else none := fun _ _ => rfl
        rw [q, if_pos (by simp [eight]; decide), List.map_append]
      simp only [view_last, view_lst, Option.bind_some, bad]
      refine ⟨_, rfl, ?_⟩
      rw [wp_fin (by simp only [MP.below]; exact belows_strs _ _) (fun _ e => by cases e)]
      exact ⟨rfl, take_last⟩
  · intro x xs env s2 hi
    obtain ⟨j, a, hj, rfl, rfl⟩ := (hI _ _ _).mp hi
    have e22 := lturned22 k (turnN_len h j)
    have tl := turnedL_last g j
    have lo : (turnedL g j).length < SZ := Nat.lt_of_le_of_lt (show (turnedL g j).length ≤ 1000 by rw [turnedL_len]; simp at hj; omega) (by decide)
    simp [setV, mut_last, view_last, tl, e22, MP.below]
    refine ⟨_, _, ⟨rfl, rfl⟩, by simpa using lo, (hI _ _ _).mpr ⟨j + 1, _, ?_, rfl, ?_⟩⟩
    · simp at hj; omega
    · rw [set_last]; simp [turnedL, turnN]
end K61

set_option Elab.async false
set_option linter.all false
set_option maxRecDepth 100000
set_option maxHeartbeats 8000000
namespace K61
open MP
/-! ### turned games -/
theorem has_trn {q : List Nat} (h : q.length = 9) (s : Nat) : has (pick TRN q) s = has q s := by
  obtain ⟨c0, c1, c2, c3, c4, c5, c6, c7, c8, rfl⟩ := nine h
  simp only [has, rows, pick, TRN, List.map_cons, List.map_nil, List.all_cons, List.all_nil, List.any_cons, List.any_nil, id, List.getD_cons_zero, List.getD_cons_succ]
  generalize ([c0] == [s]) = b0
  generalize ([c1] == [s]) = b1
  generalize ([c2] == [s]) = b2
  generalize ([c3] == [s]) = b3
  generalize ([c4] == [s]) = b4
  generalize ([c5] == [s]) = b5
  generalize ([c6] == [s]) = b6
  generalize ([c7] == [s]) = b7
  generalize ([c8] == [s]) = b8
  revert b0 b1 b2 b3 b4 b5 b6 b7 b8
  decide
theorem count_trn {q : List Nat} (h : q.length = 9) (s : Nat) : (pick TRN q).count s = q.count s := by
  obtain ⟨c0, c1, c2, c3, c4, c5, c6, c7, c8, rfl⟩ := nine h
  simp [pick, TRN, List.count_cons]
  omega
theorem sign_trn {q : List Nat} (h : q.length = 9) (hs : q.all sign = true) : (pick TRN q).all sign = true := by
  obtain ⟨c0, c1, c2, c3, c4, c5, c6, c7, c8, rfl⟩ := nine h
  simp only [pick, TRN, List.map_cons, List.map_nil, List.all_cons, List.all_nil, List.getD_cons_zero, List.getD_cons_succ, Bool.and_eq_true] at hs ⊢
  obtain ⟨h0, h1, h2, h3, h4, h5, h6, h7, h8, _⟩ := hs
  exact ⟨h6, h3, h0, h7, h4, h1, h8, h5, h2, trivial⟩
theorem Fair.trn {g : List Nat} (h : Fair g) : Fair (pick TRN g) := by
  refine ⟨rfl, sign_trn h.len h.sg, ?_⟩
  have := h.ok
  unfold lawGame more at this ⊢
  rw [has_trn h.len, has_trn h.len, count_trn h.len, count_trn h.len]
  exact this
theorem turn4 {g : List Nat} (h : g.length = 9) : turnN g 4 = g := by
  obtain ⟨c0, c1, c2, c3, c4, c5, c6, c7, c8, rfl⟩ := nine h
  rfl
/-! ### the least of many -/
theorem lmin_spec : ∀ (xs : List (List Nat)) (x : List Nat), lmin x xs ∈ x :: xs ∧ ∀ y ∈ x :: xs, ¬ y < lmin x xs
  | [], x => by
    refine ⟨by simp [lmin], fun y hy => ?_⟩
    simp at hy
    subst hy
    exact List.lt_irrefl _
  | z :: zs, x => by
    have e : lmin x (z :: zs) = lmin (if z < x then z else x) zs := rfl
    rw [e]
    obtain ⟨h1, h2⟩ := lmin_spec zs (if z < x then z else x)
    refine ⟨?_, fun y hy => ?_⟩
    · rcases List.mem_cons.mp h1 with q | q
      · rw [q]; split <;> simp
      · simp [q]
    · have hh := h2 (if z < x then z else x) List.mem_cons_self
      rcases List.mem_cons.mp hy with rfl | hy
      · by_cases hc : z < y
        · rw [if_pos hc] at hh ⊢
          exact fun q => hh (List.lt_trans hc q)
        · rw [if_neg hc] at hh ⊢
          exact hh
      · rcases List.mem_cons.mp hy with rfl | hy
        · by_cases hc : y < x
          · rw [if_pos hc] at hh ⊢; exact hh
          · rw [if_neg hc] at hh ⊢
            intro q
            have h3 : x ≤ y := List.not_lt.mp hc
            exact hh (List.lt_of_le_of_lt h3 q)
        · exact h2 y (List.mem_cons_of_mem _ hy)
theorem lmin_same {x y : List Nat} {xs ys : List (List Nat)} (h : ∀ z, z ∈ x :: xs ↔ z ∈ y :: ys) : lmin x xs = lmin y ys := by
  obtain ⟨a1, a2⟩ := lmin_spec xs x
  obtain ⟨b1, b2⟩ := lmin_spec ys y
  exact List.le_antisymm (List.not_lt.mp (a2 _ ((h _).mpr b1))) (List.not_lt.mp (b2 _ ((h _).mp a1)))
theorem least_eight {g : List Nat} (h : g.length = 9) : leastG g = lmin g (((eight g).drop 1) ++ (eight g).map (pick MIR)) := by
  unfold leastG
  apply lmin_same
  intro z
  have t4 := turn4 h
  have e1 : turnN g 1 :: (orb g 4).drop 1 = [turnN g 1, pick MIR (turnN g 1), turnN g 2, pick MIR (turnN g 2), turnN g 3, pick MIR (turnN g 3), turnN g 4, pick MIR (turnN g 4)] := rfl
  have e2 : g :: ((eight g).drop 1 ++ (eight g).map (pick MIR)) = [g, turnN g 1, turnN g 2, turnN g 3, pick MIR g, pick MIR (turnN g 1), pick MIR (turnN g 2), pick MIR (turnN g 3)] := rfl
  rw [e1, e2, t4]
  simp only [List.mem_cons, List.not_mem_nil, or_false]
  constructor
  · rintro (h | h | h | h | h | h | h | h) <;> simp [h]
  · rintro (h | h | h | h | h | h | h | h) <;> simp [h]
theorem least_trn {g : List Nat} (h : g.length = 9) : leastG (pick TRN g) = leastG g := by
  unfold leastG
  apply lmin_same
  intro z
  have t4 := turn4 h
  have e1 : turnN (pick TRN g) 1 :: (orb (pick TRN g) 4).drop 1 = [turnN g 2, pick MIR (turnN g 2), turnN g 3, pick MIR (turnN g 3), turnN g 4, pick MIR (turnN g 4), pick TRN (turnN g 4), pick MIR (pick TRN (turnN g 4))] := rfl
  have e2 : turnN g 1 :: (orb g 4).drop 1 = [turnN g 1, pick MIR (turnN g 1), turnN g 2, pick MIR (turnN g 2), turnN g 3, pick MIR (turnN g 3), turnN g 4, pick MIR (turnN g 4)] := rfl
  have e3 : turnN g 1 = pick TRN g := rfl
  rw [e1, e2, t4, e3]
  simp only [List.mem_cons, List.not_mem_nil, or_false]
  constructor
  · rintro (h | h | h | h | h | h | h | h) <;> simp [h]
  · rintro (h | h | h | h | h | h | h | h) <;> simp [h]
/-! ### threats -/
def hasD (g : List Nat) (s : Nat) : D → Option D
  | .int i => if has (put g i.toNat [s]) s = true then some (.int i) else none
  | _ => none
def thr (g : List Nat) (s : Nat) : List D := (frees g).filterMap (hasD g s)
def enD : D → Option D
  | .tup [.int i, .str [c]] => if c = 46 then some (.int i) else none
  | _ => none
theorem frees_enum {g : List Nat} (h : g.length = 9) : (enumN 0 (g.map fun c => D.str [c])).filterMap enD = frees g := by
  obtain ⟨c0, c1, c2, c3, c4, c5, c6, c7, c8, rfl⟩ := nine h
  have e : frees [c0, c1, c2, c3, c4, c5, c6, c7, c8] = ([.int 0, .int 1, .int 2, .int 3, .int 4, .int 5, .int 6, .int 7, .int 8] : List D).filterMap (freeD [c0, c1, c2, c3, c4, c5, c6, c7, c8]) := rfl
  rw [e]
  simp [enumN, List.filterMap_cons, enD, freeD]
theorem free7 (k : Nat) {g : List Nat} (h : g.length = 9) (st : Store) : callK dfs (k + 1) 7 [.str g] st = .ok (.lst (frees g)) st := by
  refine eq_of_wp ((wp_call (m := { ps := 1, n := 3, body := b_free_in, keep := false }) rfl).mpr ⟨rfl, ?_⟩)
  simp [b_free_in]
  refine wp_compL (G := enD) (fun x hx => ?_) (by rw [enumN_len]; simp [h]; decide) ?_
  · obtain ⟨i, hi, e⟩ := List.mem_iff_getElem.mp hx
    have e' : (enumN 0 (g.map fun c => D.str [c]))[i]? = some x := by rw [List.getElem?_eq_getElem hi, e]
    obtain ⟨y, hy, rfl⟩ := enumN_get e'
    rw [List.getElem?_map] at hy
    obtain ⟨c, hc, rfl⟩ := map_some' hy
    simp [setV, wipeE, enD]
    by_cases hc : c = 46 <;> simp [hc]
  · rw [List.nil_append, frees_enum h]
    have bf : ∀ n, MP.belows n (frees g) = true := fun n => by
      have : ∀ xs : List D, (∀ x ∈ xs, ∃ i, x = .int i) → MP.belows n xs = true := by
        intro xs
        induction xs with
        | nil => intro _; rfl
        | cons x xs ih =>
          intro hh
          obtain ⟨i, rfl⟩ := hh x List.mem_cons_self
          simp [MP.belows, MP.below, ih fun y hy => hh y (List.mem_cons_of_mem _ hy)]
      exact this _ fun x hx => by obtain ⟨p, _, rfl, _⟩ := mem_frees hx; exact ⟨_, rfl⟩
    rw [wp_fin (by simp only [MP.below]; exact bf _) (fun _ e => by cases e)]
    exact ⟨rfl, List.take_length⟩
theorem mem_thr {g : List Nat} {s : Nat} {d : D} (h : d ∈ thr g s) : ∃ p : Nat, p < 9 ∧ d = .int p := by
  obtain ⟨x, hx, hf⟩ := List.mem_filterMap.mp h
  obtain ⟨p, hp, rfl, _⟩ := mem_frees hx
  unfold hasD at hf
  simp only at hf
  split at hf
  · cases hf; exact ⟨p, hp, rfl⟩
  · cases hf
theorem below_ints (n : Nat) : ∀ xs : List D, (∀ x ∈ xs, ∃ i : Nat, i < 9 ∧ x = .int i) → MP.belows n xs = true := by
  intro xs
  induction xs with
  | nil => intro _; rfl
  | cons x xs ih =>
    intro hh
    obtain ⟨i, _, rfl⟩ := hh x List.mem_cons_self
    simp [MP.belows, MP.below, ih fun y hy => hh y (List.mem_cons_of_mem _ hy)]
theorem thr_len (g : List Nat) (s : Nat) : (thr g s).length ≤ 9 := Nat.le_trans (List.length_filterMap_le _ _) (frees_len g)
theorem threats_of8 (k : Nat) {g : List Nat} (h : g.length = 9) (s : Nat) (st : Store) : callK dfs (k + 2) 8 [.str g, .str [s]] st = .ok (.lst (thr g s)) st := by
  refine eq_of_wp ((wp_call (m := { ps := 2, n := 3, body := b_threats_of, keep := false }) rfl).mpr ⟨rfl, ?_⟩)
  have e7 := free7 k h
  simp [b_threats_of, e7]
  refine wp_compL (G := hasD g s) (fun x hx => ?_) (by simp; exact Nat.le_trans (frees_len g) (by decide)) ?_
  · obtain ⟨p, hp, rfl, _⟩ := mem_frees hx
    have e0 := has2 k (put_len h (s := s) hp)
    have ct := cut_take g p
    have cd : cut g (some ((p : Int) + 1)) none = g.drop (p + 1) := cut_drop g (p + 1)
    have em : min p 9 = p := by omega
    have l1 : p + 1 ≤ SZ := sz _ (by omega)
    have l2 : p + 1 + (9 - (p + 1)) ≤ SZ := sz _ (by omega)
    have l3 : p + 1 + (8 - p) ≤ SZ := sz _ (by omega)
    have ea : g.take p ++ s :: g.drop (p + 1) = put g p [s] := by unfold put; simp
    simp [setV, wipeE, ct, cd, h, em, l1, l2, l3, ea, e0, hasD]
  · rw [List.nil_append]
    rw [wp_fin (by simp only [MP.below]; exact below_ints _ _ fun x hx => mem_thr hx) (fun _ e => by cases e)]
    exact ⟨rfl, List.take_length⟩
theorem in_xo {s : Nat} (hs : s = 120 ∨ s = 111) : evCmp .notin (.str [s]) (.tup [.str [120], .str [111]]) = some false := by
  rcases hs with rfl | rfl <;> decide
theorem threats9 (k : Nat) {g : List Nat} (h : isGame (.str g) = true) {s : Nat} (hs : s = 120 ∨ s = 111) (st : Store) : callK dfs (k + 6) 9 [.str g, .str [s]] st = .ok (.tup (thr g s)) st := by
  refine eq_of_wp ((wp_call (m := { ps := 2, n := 2, body := b_threats, keep := false }) rfl).mpr ⟨rfl, ?_⟩)
  have e6 := check6 k h
  have e8 := threats_of8 (k + 3) (game_len h) s
  have ex := in_xo hs
  have et : evB .tuple [.lst (thr g s)] = some (.tup (thr g s)) := rfl
  have ei : evB .isStr [.str [s]] = some (.bl true) := rfl
  simp [b_threats, e6, e8, ex, et, ei]
  rw [wp_fin (by simp only [MP.below]; exact below_ints _ _ fun x hx => mem_thr hx) (fun _ e => by cases e)]
  exact ⟨rfl, List.take_length⟩
def ownD (g : List Nat) (s : Nat) (d : D) : Option D := (freeD g d).bind (hasD g s)
theorem thr_own (g : List Nat) (s : Nat) : (rangeN 0 9).filterMap (ownD g s) = thr g s := by
  unfold thr frees
  rw [List.filterMap_filterMap]
  rfl
theorem lthreats21 (k : Nat) {g : List Nat} (h : g.length = 9) (s : Nat) (st : Store) : callK dfs (k + 3) 21 [.str g, .str [s]] st = .ok (.tup (thr g s)) st := by
  refine eq_of_wp ((wp_call (m := { ps := 2, n := 3, body := b__law_threats, keep := false }) rfl).mpr ⟨rfl, ?_⟩)
  have s9 : smallI 9 = true := by decide
  simp [b__law_threats, s9]
  refine wp_compL (G := ownD g s) (fun x hx => ?_) (by rw [rangeN_len]; decide) ?_
  · unfold rangeN at hx
    obtain ⟨i, hi, rfl⟩ := List.mem_map.mp hx
    have hi9 : i < 9 := by simpa using hi
    have e0 : (0 : Int) + (i : Int) = (i : Int) := by omega
    rw [e0]
    have e19 := put20 (k + 1) h (s := [s]) (by simp) hi9
    have e17 := has18 k (put_len h (s := s) hi9)
    obtain ⟨c, hc⟩ : ∃ c, g[i]? = some c := ⟨_, List.getElem?_eq_getElem (by omega)⟩
    simp [setV, wipeE, atL_nat, hc, e19, e17, ownD, freeD]
    by_cases h46 : c = 46
    · cases hq : has (put g i [s]) s <;> simp [h46, hq, hasD]
    · simp [h46]
  · rw [List.nil_append, thr_own]
    have et : evB .tuple [.lst (thr g s)] = some (.tup (thr g s)) := rfl
    simp [et]
    rw [wp_fin (by simp only [MP.below]; exact below_ints _ _ fun x hx => mem_thr hx) (fun _ e => by cases e)]
    exact ⟨rfl, List.take_length⟩
def other (g : List Nat) : Nat := if nextOf g = [120] then 111 else 120
def forcedD (g : List Nat) : D := if endOf g = [] then (match thr g (other g) with | [d] => d | _ => .non) else .non
theorem forced12 (k : Nat) {g : List Nat} (h : isGame (.str g) = true) (st : Store) : callK dfs (k + 6) 12 [.str g] st = .ok (forcedD g) st := by
  refine eq_of_wp ((wp_call (m := { ps := 1, n := 2, body := b_forced, keep := false }) rfl).mpr ⟨rfl, ?_⟩)
  have e6 := check6 k h
  have e5 := end7 (k + 3) (game_len h)
  have en := next8 (k + 2) (game_len h)
  have e8 := fun s => threats_of8 (k + 3) (game_len h) s
  simp [b_forced, e6, e5, en]
  unfold forcedD other
  have fin : ∀ s : Nat, Wp (finish false st.length (match thr g s with | [d] => d | _ => .non) st) (fun d s' => d = (match thr g s with | [d] => d | _ => .non) ∧ s' = st) := fun s => by
    have ht : ∀ d, thr g s = [d] → ∃ p : Nat, d = .int p := fun d e => by
      obtain ⟨p, _, rfl⟩ := mem_thr (g := g) (s := s) (by rw [e]; exact List.mem_singleton.mpr rfl)
      exact ⟨p, rfl⟩
    cases e : thr g s with
    | nil => simp
    | cons d ds =>
      cases ds with
      | nil =>
        obtain ⟨p, rfl⟩ := ht d e
        simp
      | cons d2 ds => simp
  have go : ∀ s : Nat, (¬ (((thr g s).length : Int) = 1) ∧ Wp (finish false st.length .non st) (fun d s' => d = (match thr g s with | [d] => d | _ => .non) ∧ s' = st)) ∨ ((((thr g s).length : Int) = 1) ∧ ∃ d, atL (thr g s) 0 = some d ∧ Wp (finish false st.length d st) (fun d s' => d = (match thr g s with | [d] => d | _ => .non) ∧ s' = st)) := fun s => by
    have f := fin s
    cases e : thr g s with
    | nil => rw [e] at f; exact .inl ⟨by simp, f⟩
    | cons d ds =>
      cases ds with
      | nil => rw [e] at f; exact .inr ⟨by simp, d, rfl, f⟩
      | cons d2 ds =>
        rw [e] at f
        exact .inl ⟨by simp; omega, f⟩
  by_cases he : endOf g = []
  · simp [he]
    by_cases hn : nextOf g = [120]
    · have g1 := go 111
      simp [hn, e8, setV]
      simpa using g1
    · have g1 := go 120
      simp [hn, e8, setV]
      simpa using g1
  · simp [he]
/-! ### threats of turned games -/
def ind (g : List Nat) (s i : Nat) : Nat := if (ownD g s (.int (i : Nat))).isSome then 1 else 0
theorem len_cons {α β : Type} (f : α → Option β) (x : α) (xs : List α) : ((x :: xs).filterMap f).length = (if (f x).isSome then 1 else 0) + (xs.filterMap f).length := by
  cases h : f x with
  | none => rw [List.filterMap_cons_none h]; simp
  | some y => rw [List.filterMap_cons_some h]; simp; omega
theorem thr_sum (g : List Nat) (s : Nat) : (thr g s).length = ind g s 0 + ind g s 1 + ind g s 2 + ind g s 3 + ind g s 4 + ind g s 5 + ind g s 6 + ind g s 7 + ind g s 8 := by
  rw [← thr_own]
  have e : rangeN 0 9 = [.int ((0 : Nat) : Int), .int ((1 : Nat) : Int), .int ((2 : Nat) : Int), .int ((3 : Nat) : Int), .int ((4 : Nat) : Int), .int ((5 : Nat) : Int), .int ((6 : Nat) : Int), .int ((7 : Nat) : Int), .int ((8 : Nat) : Int)] := rfl
  rw [e]
  simp only [len_cons, List.filterMap_nil, List.length_nil]
  unfold ind
  omega
theorem own_eq (g : List Nat) (s i : Nat) : ownD g s (.int (i : Nat)) = if g[i]? = some 46 ∧ has (put g i [s]) s = true then some (.int (i : Nat)) else none := by
  have f : freeD g (.int (i : Nat)) = if g[i]? = some 46 then some (.int (i : Nat)) else none := by simp [freeD]
  have q : hasD g s (.int (i : Nat)) = if has (put g i [s]) s = true then some (.int (i : Nat)) else none := by simp [hasD]
  show (freeD g (.int (i : Nat))).bind (hasD g s) = _
  rw [f]
  by_cases h1 : g[i]? = some 46
  · rw [if_pos h1]
    show hasD g s (.int (i : Nat)) = _
    rw [q]
    by_cases h2 : has (put g i [s]) s = true
    · rw [if_pos h2, if_pos ⟨h1, h2⟩]
    · rw [if_neg h2, if_neg (fun z => h2 z.2)]
  · rw [if_neg h1, if_neg (fun z => h1 z.1)]
    rfl
theorem ind_eq (g : List Nat) (s i : Nat) : ind g s i = if g[i]? = some 46 ∧ has (put g i [s]) s = true then 1 else 0 := by
  unfold ind
  have e := own_eq g s i
  by_cases h : g[i]? = some 46 ∧ has (put g i [s]) s = true
  · rw [if_pos h] at e
    rw [if_pos h, if_pos (by rw [e]; rfl)]
  · rw [if_neg h] at e
    rw [if_neg h, if_neg (by rw [e]; exact Bool.false_ne_true)]
theorem put_trn {g : List Nat} (h : g.length = 9) (s : Nat) : put (pick TRN g) 0 [s] = pick TRN (put g 6 [s]) ∧ put (pick TRN g) 1 [s] = pick TRN (put g 3 [s]) ∧ put (pick TRN g) 2 [s] = pick TRN (put g 0 [s]) ∧ put (pick TRN g) 3 [s] = pick TRN (put g 7 [s]) ∧ put (pick TRN g) 4 [s] = pick TRN (put g 4 [s]) ∧ put (pick TRN g) 5 [s] = pick TRN (put g 1 [s]) ∧ put (pick TRN g) 6 [s] = pick TRN (put g 8 [s]) ∧ put (pick TRN g) 7 [s] = pick TRN (put g 5 [s]) ∧ put (pick TRN g) 8 [s] = pick TRN (put g 2 [s]) := by
  obtain ⟨c0, c1, c2, c3, c4, c5, c6, c7, c8, rfl⟩ := nine h
  exact ⟨rfl, rfl, rfl, rfl, rfl, rfl, rfl, rfl, rfl⟩
theorem get_trn {g : List Nat} (h : g.length = 9) : (pick TRN g)[0]? = g[6]? ∧ (pick TRN g)[1]? = g[3]? ∧ (pick TRN g)[2]? = g[0]? ∧ (pick TRN g)[3]? = g[7]? ∧ (pick TRN g)[4]? = g[4]? ∧ (pick TRN g)[5]? = g[1]? ∧ (pick TRN g)[6]? = g[8]? ∧ (pick TRN g)[7]? = g[5]? ∧ (pick TRN g)[8]? = g[2]? := by
  obtain ⟨c0, c1, c2, c3, c4, c5, c6, c7, c8, rfl⟩ := nine h
  exact ⟨rfl, rfl, rfl, rfl, rfl, rfl, rfl, rfl, rfl⟩
theorem thr_trn {g : List Nat} (h : g.length = 9) (s : Nat) : (thr (pick TRN g) s).length = (thr g s).length := by
  rw [thr_sum, thr_sum]
  obtain ⟨p0, p1, p2, p3, p4, p5, p6, p7, p8⟩ := put_trn h s
  obtain ⟨g0, g1, g2, g3, g4, g5, g6, g7, g8⟩ := get_trn h
  have q := fun i (hi : i < 9) => has_trn (put_len h (p := i) (s := s) hi) s
  simp only [ind_eq, p0, p1, p2, p3, p4, p5, p6, p7, p8, g0, g1, g2, g3, g4, g5, g6, g7, g8, q 0 (by decide), q 1 (by decide), q 2 (by decide), q 3 (by decide), q 4 (by decide), q 5 (by decide), q 6 (by decide), q 7 (by decide), q 8 (by decide)]
  omega
/-! ### comparing rows of places -/
theorem plains_ints : ∀ xs : List D, (∀ x ∈ xs, ∃ i : Nat, i < 9 ∧ x = .int i) → plains xs = true ∧ depths xs = 0 ∧ eqDs xs xs = true
  | [], _ => ⟨rfl, rfl, rfl⟩
  | x :: xs, h => by
    obtain ⟨i, _, rfl⟩ := h x List.mem_cons_self
    obtain ⟨a, b, c⟩ := plains_ints xs fun y hy => h y (List.mem_cons_of_mem _ hy)
    refine ⟨by simp [plains, plain, a], by simp [depths, depth, b], ?_⟩
    show (eqD (.int (i : Nat)) (.int (i : Nat)) && eqDs xs xs) = true
    rw [c]
    simp [eqD]
theorem cmp_self (g : List Nat) (s : Nat) : evCmp .ne (.tup (thr g s)) (.tup (thr g s)) = some false := by
  obtain ⟨a, b, c⟩ := plains_ints (thr g s) fun x hx => mem_thr hx
  show (if cmpOk (.tup (thr g s)) (.tup (thr g s)) = true then some (!eqDs (thr g s) (thr g s)) else none) = _
  rw [c, if_pos]
  · rfl
  · simp [cmpOk, plain, a, depth, b]
theorem cmp_nil (g : List Nat) (s : Nat) : evCmp .eq (.tup (thr g s)) (.tup []) = some (thr g s).isEmpty := by
  obtain ⟨a, b, c⟩ := plains_ints (thr g s) fun x hx => mem_thr hx
  show (if cmpOk (.tup (thr g s)) (.tup []) = true then some (eqDs (thr g s) []) else none) = _
  rw [if_pos]
  · cases thr g s <;> rfl
  · simp [cmpOk, plain, a, depth, b, plains, depths]
end K61

set_option Elab.async false
set_option linter.all false
set_option maxRecDepth 100000
set_option maxHeartbeats 8000000
namespace K61
open MP
abbrev C9 : Nat → List D → Store → R D := callK dfs 199
def Hold (ns : List Int) (env : MEnv) (s : Store) : Prop := (∃ a b c d e, env = [some (.scr ns), some (.ref 0), a, b, c, d, e]) ∧ IsHand s 0
theorem stage2 (ns : List Int) {g : List Nat} (fair : Fair g) (a b c d : Option D) {s : Store} (hh : IsHand s 0) {R' : D → Store → Prop} {K : MEnv → Store → Prop} :
    WS (exSs C9 (b_loop.drop 2) [some (.scr ns), some (.ref 0), a, some (.str g), b, c, d] s) (Hold ns) R' K := by
  have e10 := fun s => turned10 193 fair.is s
  have e22 := fun s => lturned22 198 fair.len s
  have e11 := fun s => least11 193 fair.is s
  have e11' := fun s => least11 193 fair.trn.is s
  have e23 := fun s => eight23 197 fair.len s
  have bm := bMin_strs g (((eight g).drop 1) ++ (eight g).map (pick MIR))
  have ee : (g :: ((eight g).drop 1 ++ (eight g).map (pick MIR))) = eight g ++ (eight g).map (pick MIR) := rfl
  rw [ee, ← least_eight fair.len] at bm
  rw [least_trn fair.len] at e11'
  generalize hq : (eight g ++ (eight g).map (pick MIR)).map D.str = Q at e23 bm
  simp [b_loop, e10, e22, e11, e11', e23, bm]
  exact ⟨⟨_, _, _, _, _, rfl⟩, hh⟩
theorem next_two (g : List Nat) (h : lawNext g ≠ []) : lawNext g = [120] ∨ lawNext g = [111] := by
  unfold lawNext at h ⊢
  split
  · rename_i hc; rw [if_pos hc] at h; exact absurd rfl h
  · split
    · exact .inl rfl
    · exact .inr rfl
theorem stage1 (ns : List Int) {g : List Nat} (fair : Fair g) (a b c d : Option D) {s : Store} (hh : IsHand s 0) {R' : D → Store → Prop} {K : MEnv → Store → Prop} :
    WS (exSs C9 (b_loop.drop 1) [some (.scr ns), some (.ref 0), a, some (.str g), b, c, d] s) (Hold ns) R' K := by
  have go := fun b c d => stage2 ns fair a b c d (s := s) hh (R' := R') (K := K)
  have split : b_loop.drop 1 = (b_loop.drop 1).take 1 ++ b_loop.drop 2 := rfl
  generalize hT : b_loop.drop 2 = TL at go split
  rw [split]
  have e18 := fun s => next19 196 fair.len s
  simp [b_loop, e18]
  by_cases hn : lawNext g = []
  · exact .inl ⟨hn, go _ _ _⟩
  · refine .inr ⟨hn, ?_⟩
    have e9 := fun (t : Nat) (ht : t = 120 ∨ t = 111) s => threats9 193 fair.is ht s
    have e9' := fun (t : Nat) (ht : t = 120 ∨ t = 111) s => threats9 193 fair.trn.is ht s
    have e21 := fun (t : Nat) s => lthreats21 196 fair.len t s
    have e12 := fun s => forced12 193 fair.is s
    have e10 := fun s => turned10 193 fair.is s
    have cs := cmp_self g
    have cn := cmp_nil g
    have tl := thr_trn fair.len
    have hnn : nextOf g ≠ [] := by rw [law_next]; exact hn
    have he : endOf g = [] := by
      by_cases he : endOf g = []
      · exact he
      · exact absurd (by unfold nextOf; rw [if_neg he]) hnn
    have fin : ∀ (m o : Nat) (G Z : Prop), other g = o → G →
        ((¬thr g o = [] ∧ (¬((thr g o).length : Int) = 1 ∧ G ∨ ((thr g o).length : Int) = 1 ∧ (¬thr g m = [] ∧ G ∨ thr g m = [] ∧ ∃ d, atL (thr g o) 0 = some d ∧
            (((view s (forcedD g)).bind fun x' => (view s d).bind fun y' => evCmp .ne x' y') = some false ∧ G ∨ ((view s (forcedD g)).bind fun x' => (view s d).bind fun y' => evCmp .ne x' y') = some true ∧ Z)))) ∨
          thr g o = [] ∧ (((view s (forcedD g)).bind fun x' => evCmp .isnot x' D.non) = some false ∧ (¬((thr g o).length : Int) = 1 ∧ G ∨ ((thr g o).length : Int) = 1 ∧ (¬thr g m = [] ∧ G ∨ thr g m = [] ∧ ∃ d, atL (thr g o) 0 = some d ∧
            (((view s (forcedD g)).bind fun x' => (view s d).bind fun y' => evCmp .ne x' y') = some false ∧ G ∨ ((view s (forcedD g)).bind fun x' => (view s d).bind fun y' => evCmp .ne x' y') = some true ∧ Z))) ∨
            ((view s (forcedD g)).bind fun x' => evCmp .isnot x' D.non) = some true ∧ Z)) := fun m o G Z ho hG => by
      have hf : forcedD g = match thr g o with | [d] => d | _ => .non := by unfold forcedD; rw [if_pos he, ho] <;> rfl
      cases ht : thr g o with
      | nil =>
        rw [ht] at hf
        refine .inr ⟨rfl, .inl ⟨by rw [hf]; rfl, .inl ⟨by simp, hG⟩⟩⟩
      | cons d ds =>
        refine .inl ⟨by simp, ?_⟩
        cases ds with
        | cons d2 ds => exact .inl ⟨by simp; omega, hG⟩
        | nil =>
          rw [ht] at hf
          obtain ⟨p, _, rfl⟩ := mem_thr (g := g) (s := o) (by rw [ht]; exact List.mem_singleton.mpr rfl)
          refine .inr ⟨by simp, ?_⟩
          by_cases hm : thr g m = []
          · exact .inr ⟨hm, _, rfl, .inl ⟨by rw [hf]; simp, hG⟩⟩
          · exact .inl ⟨hm, hG⟩
    rcases next_two g hn with h2 | h2
    · have ho : other g = 111 := by unfold other; rw [law_next, h2]; rfl
      simp [h2, setV, e9 120 (.inl rfl), e9 111 (.inr rfl), e21, cs, cn, e12, e10, e9' 120 (.inl rfl), tl]
      exact fin 120 111 _ _ ho (go _ _ _)
    · have ho : other g = 120 := by unfold other; rw [law_next, h2]; rfl
      simp [h2, setV, e9 120 (.inl rfl), e9 111 (.inr rfl), e21, cs, cn, e12, e10, e9' 111 (.inr rfl), tl]
      exact fin 111 120 _ _ ho (go _ _ _)
theorem stage0 (ns : List Int) (x : D) (b c d e : Option D) {s : Store} (hh : IsHand s 0) {R' : D → Store → Prop} {K : MEnv → Store → Prop} :
    WS (exSs C9 b_loop [some (.scr ns), some (.ref 0), some x, b, c, d, e] s) (Hold ns) R' K := by
  have go := fun (gg : List Nat) (fair : Fair gg) s hs => stage1 ns (g := gg) fair (some x) c d e (s := s) hs (R' := R') (K := K)
  have split : b_loop = b_loop.take 1 ++ b_loop.drop 1 := rfl
  generalize hT : b_loop.drop 1 = TL at go split
  rw [split]
  simp [b_loop]
  refine (draw14 198 hh (many := 9) (by decide) (by decide)).mono fun r s3 ⟨r', hr, q1, q2, h3⟩ => ?_
  subst hr
  refine (game21 195 h3.2 q1 (by omega)).mono fun gd s4 ⟨gg, hg, fair, h4⟩ => ?_
  subst hg
  simp [setV]
  exact go gg fair s4 h4.2
theorem law_main' (ns : List Int) (hl : ns.length ≤ 63) : Wp (callK dfs 200 24 [.scr ns] []) fun d _ => d = .bl true := by
  refine (wp_call (k := 199) (m := { ps := 1, n := 7, body := b_law, keep := false }) rfl).mpr ⟨rfl, ?_⟩
  have e10 := fun g st (h : isGame (.str g) = true) => turned10 193 h st
  have e9 := fun g t (ht : t = 120 ∨ t = 111) st (h : isGame (.str g) = true) => threats9 193 h ht st
  have e11 := fun g st (h : isGame (.str g) = true) => least11 193 h st
  have e12 := fun g st (h : isGame (.str g) = true) => forced12 193 h st
  have g1 := fun st => e10 [120, 111, 46, 46, 46, 46, 46, 46, 46] st (by decide +kernel)
  have g2 := fun st => e9 [120, 120, 46, 111, 111, 46, 46, 46, 46] 120 (.inl rfl) st (by decide +kernel)
  have g3 := fun st => e9 [120, 120, 46, 111, 111, 46, 46, 46, 46] 111 (.inr rfl) st (by decide +kernel)
  have g4 := fun st => e11 [46, 46, 46, 46, 46, 46, 46, 46, 120] st (by decide +kernel)
  have g5 := fun st => e12 [120, 120, 46, 46, 111, 46, 46, 46, 46] st (by decide +kernel)
  have g6 := fun st => e12 [46, 46, 46, 46, 46, 46, 46, 46, 46] st (by decide +kernel)
  have n1 : pick TRN [120, 111, 46, 46, 46, 46, 46, 46, 46] = [46, 46, 120, 46, 46, 111, 46, 46, 46] := by decide +kernel
  have n2 : thr [120, 120, 46, 111, 111, 46, 46, 46, 46] 120 = [.int 2] := by kernel_rfl
  have n3 : thr [120, 120, 46, 111, 111, 46, 46, 46, 46] 111 = [.int 5] := by kernel_rfl
  have n4 : leastG [46, 46, 46, 46, 46, 46, 46, 46, 120] = [46, 46, 46, 46, 46, 46, 46, 46, 120] := by decide +kernel
  have n5 : forcedD [120, 120, 46, 46, 111, 46, 46, 46, 46] = .int 2 := by kernel_rfl
  have n6 : forcedD [46, 46, 46, 46, 46, 46, 46, 46, 46] = .non := by kernel_rfl
  rw [n1] at g1
  rw [n2] at g2
  rw [n3] at g3
  rw [n4] at g4
  rw [n5] at g5
  rw [n6] at g6
  have c2 : evCmp .ne (.tup [.int 2]) (.tup [.int 2]) = some false := rfl
  have c3 : evCmp .ne (.tup [.int 5]) (.tup [.int 5]) = some false := rfl
  have c4 : evCmp .isnot .non .non = some false := rfl
  have st0 := stage0 ns
  generalize b_loop = BL at st0
  simp [b_law]
  refine (hand13 198 ns []).mono fun d s ⟨hd, o, hs, hh⟩ => ?_
  subst hd
  clear hs
  have s8 : smallI 6 = true := by decide
  simp [setV, nines, g1, g2, g3, g4, g5, g6, c2, c3, c4, s8]
  refine forL_inv (fun _ => Hold ns) ?_ ?_ ⟨⟨_, _, _, _, _, rfl⟩, hh⟩
  · intro env s2 hi
    trivial
  · intro x xs env s2 hi
    obtain ⟨⟨a, b, c, d, e, rfl⟩, h2⟩ := hi
    rw [ws_turn]
    exact ⟨_, rfl, stage0 ns x b c d e h2⟩
theorem law_main : ∀ ns : List Int, ns.length ≤ 63 → Wp (callK (dtab tb L) 200 24 [.scr ns] []) fun d _ => d = .bl true := by
  rw [dtab_eq]
  exact law_main'
end K61

set_option Elab.async false
set_option linter.all false
set_option maxRecDepth 100000
namespace K61
open PySem PySem.Spec PyProof.Rows L2 MP
section
theorem sc_has_three : FnScope N_has_three ["game", "sign"] (defScope (topS 9)) := ⟨rfl, rfl, rfl, by decide +kernel, rfl, by decide +kernel, by decide +kernel⟩
theorem sc_can_come : FnScope N_can_come ["game"] (defScope (topS 10)) := ⟨rfl, rfl, rfl, by decide +kernel, rfl, by decide +kernel, by decide +kernel⟩
theorem sc_is_last : FnScope N_is_last ["game", "sign"] (defScope (topS 11)) := ⟨rfl, rfl, rfl, by decide +kernel, rfl, by decide +kernel, by decide +kernel⟩
theorem sc_is_game : FnScope N_is_game ["thing"] (defScope (topS 12)) := ⟨rfl, rfl, rfl, by decide +kernel, rfl, by decide +kernel, by decide +kernel⟩
theorem sc_check_game : FnScope N_check_game ["game"] (defScope (topS 13)) := ⟨rfl, rfl, rfl, by decide +kernel, rfl, by decide +kernel, by decide +kernel⟩
theorem sc_end_of : FnScope N_end_of ["game"] (defScope (topS 14)) := ⟨rfl, rfl, rfl, by decide +kernel, rfl, by decide +kernel, by decide +kernel⟩
theorem sc_next_of : FnScope N_next_of ["game"] (defScope (topS 15)) := ⟨rfl, rfl, rfl, by decide +kernel, rfl, by decide +kernel, by decide +kernel⟩
theorem sc_free_in : FnScope N_free_in ["game"] (defScope (topS 16)) := ⟨rfl, rfl, rfl, by decide +kernel, rfl, by decide +kernel, by decide +kernel⟩
theorem sc_threats_of : FnScope N_threats_of ["game", "sign"] (defScope (topS 17)) := ⟨rfl, rfl, rfl, by decide +kernel, rfl, by decide +kernel, by decide +kernel⟩
theorem sc_threats : FnScope N_threats ["game", "sign"] (defScope (topS 18)) := ⟨rfl, rfl, rfl, by decide +kernel, rfl, by decide +kernel, by decide +kernel⟩
theorem sc_turned_game : FnScope N_turned_game ["game"] (defScope (topS 19)) := ⟨rfl, rfl, rfl, by decide +kernel, rfl, by decide +kernel, by decide +kernel⟩
theorem sc_least_game : FnScope N_least_game ["game"] (defScope (topS 20)) := ⟨rfl, rfl, rfl, by decide +kernel, rfl, by decide +kernel, by decide +kernel⟩
theorem sc_forced : FnScope N_forced ["game"] (defScope (topS 21)) := ⟨rfl, rfl, rfl, by decide +kernel, rfl, by decide +kernel, by decide +kernel⟩
theorem sc__law_hand : FnScope N__law_hand ["script"] (defScope (topS 23)) := ⟨rfl, rfl, rfl, by decide +kernel, rfl, by decide +kernel, by decide +kernel⟩
theorem sc__law_draw : FnScope N__law_draw ["hand", "many"] (defScope (topS 24)) := ⟨rfl, rfl, rfl, by decide +kernel, rfl, by decide +kernel, by decide +kernel⟩
theorem sc__law_some : FnScope N__law_some ["hand", "things"] (defScope (topS 25)) := ⟨rfl, rfl, rfl, by decide +kernel, rfl, by decide +kernel, by decide +kernel⟩
theorem sc__law_lines : FnScope N__law_lines [] (defScope (topS 26)) := ⟨rfl, rfl, rfl, by decide +kernel, rfl, by decide +kernel, by decide +kernel⟩
theorem sc__law_has : FnScope N__law_has ["game", "sign"] (defScope (topS 27)) := ⟨rfl, rfl, rfl, by decide +kernel, rfl, by decide +kernel, by decide +kernel⟩
theorem sc__law_next : FnScope N__law_next ["game"] (defScope (topS 28)) := ⟨rfl, rfl, rfl, by decide +kernel, rfl, by decide +kernel, by decide +kernel⟩
theorem sc__law_put : FnScope N__law_put ["game", "place", "sign"] (defScope (topS 29)) := ⟨rfl, rfl, rfl, by decide +kernel, rfl, by decide +kernel, by decide +kernel⟩
theorem sc__law_game : FnScope N__law_game ["hand", "plays"] (defScope (topS 30)) := ⟨rfl, rfl, rfl, by decide +kernel, rfl, by decide +kernel, by decide +kernel⟩
theorem sc__law_threats : FnScope N__law_threats ["game", "sign"] (defScope (topS 31)) := ⟨rfl, rfl, rfl, by decide +kernel, rfl, by decide +kernel, by decide +kernel⟩
theorem sc__law_turned : FnScope N__law_turned ["game"] (defScope (topS 32)) := ⟨rfl, rfl, rfl, by decide +kernel, rfl, by decide +kernel, by decide +kernel⟩
theorem sc__law_eight : FnScope N__law_eight ["game"] (defScope (topS 33)) := ⟨rfl, rfl, rfl, by decide +kernel, rfl, by decide +kernel, by decide +kernel⟩
theorem sc_law : FnScope N_law ["script"] (defScope (topS 34)) := ⟨rfl, rfl, rfl, by decide +kernel, rfl, by decide +kernel, by decide +kernel⟩
end
def faOf (fs : List Addr) (i : Nat) : Addr := fs.getD i 0
set_option maxHeartbeats 0 in
theorem all_mk {l : PySem.W.OpenLaw} {w : World} {K : PySem.W.Frag} {h : Heap} {mg : Str → Option Value} {fa f0 f1 f2 f3 f4 f5 f6 f7 f8 f9 f10 f11 f12 f13 f14 f15 f16 f17 f18 f19 f20 f21 f22 f23 f24 : Addr} (X : K.In h) (G : h.Ns mainGlobals mg) (hfa : mg "law" = some (.ref fa))
    {od0 an0 : Option Addr} {sl0 : Array (Option Value)} {oc0 kV0 dc0 pm0 cd0 ct0 : Value}
    (a0 : PySem.W.nsIn K mainGlobals "has_three" = some (some (.ref f0))) (l0 : K.lookup f0 = some ⟨oc0, od0, .func (PySem.W.fnOf "has_three" "has_three" (defArgs (topS 9)) (defBody (topS 9)) (defScope (topS 9)) .none kV0 dc0 pm0 an0 cd0 ct0), sl0⟩) (c0 : PySem.W.codeIn K cd0 "has_three" = true) (k0 : PySem.W.keepIn K (.ref f0) = true)
    {od1 an1 : Option Addr} {sl1 : Array (Option Value)} {oc1 kV1 dc1 pm1 cd1 ct1 : Value}
    (a1 : PySem.W.nsIn K mainGlobals "can_come" = some (some (.ref f1))) (l1 : K.lookup f1 = some ⟨oc1, od1, .func (PySem.W.fnOf "can_come" "can_come" (defArgs (topS 10)) (defBody (topS 10)) (defScope (topS 10)) .none kV1 dc1 pm1 an1 cd1 ct1), sl1⟩) (c1 : PySem.W.codeIn K cd1 "can_come" = true) (k1 : PySem.W.keepIn K (.ref f1) = true)
    {od2 an2 : Option Addr} {sl2 : Array (Option Value)} {oc2 kV2 dc2 pm2 cd2 ct2 : Value}
    (a2 : PySem.W.nsIn K mainGlobals "is_last" = some (some (.ref f2))) (l2 : K.lookup f2 = some ⟨oc2, od2, .func (PySem.W.fnOf "is_last" "is_last" (defArgs (topS 11)) (defBody (topS 11)) (defScope (topS 11)) .none kV2 dc2 pm2 an2 cd2 ct2), sl2⟩) (c2 : PySem.W.codeIn K cd2 "is_last" = true) (k2 : PySem.W.keepIn K (.ref f2) = true)
    {od3 an3 : Option Addr} {sl3 : Array (Option Value)} {oc3 kV3 dc3 pm3 cd3 ct3 : Value}
    (a3 : PySem.W.nsIn K mainGlobals "is_game" = some (some (.ref f3))) (l3 : K.lookup f3 = some ⟨oc3, od3, .func (PySem.W.fnOf "is_game" "is_game" (defArgs (topS 12)) (defBody (topS 12)) (defScope (topS 12)) .none kV3 dc3 pm3 an3 cd3 ct3), sl3⟩) (c3 : PySem.W.codeIn K cd3 "is_game" = true) (k3 : PySem.W.keepIn K (.ref f3) = true)
    {od4 an4 : Option Addr} {sl4 : Array (Option Value)} {oc4 kV4 dc4 pm4 cd4 ct4 : Value}
    (a4 : PySem.W.nsIn K mainGlobals "check_game" = some (some (.ref f4))) (l4 : K.lookup f4 = some ⟨oc4, od4, .func (PySem.W.fnOf "check_game" "check_game" (defArgs (topS 13)) (defBody (topS 13)) (defScope (topS 13)) .none kV4 dc4 pm4 an4 cd4 ct4), sl4⟩) (c4 : PySem.W.codeIn K cd4 "check_game" = true) (k4 : PySem.W.keepIn K (.ref f4) = true)
    {od5 an5 : Option Addr} {sl5 : Array (Option Value)} {oc5 kV5 dc5 pm5 cd5 ct5 : Value}
    (a5 : PySem.W.nsIn K mainGlobals "end_of" = some (some (.ref f5))) (l5 : K.lookup f5 = some ⟨oc5, od5, .func (PySem.W.fnOf "end_of" "end_of" (defArgs (topS 14)) (defBody (topS 14)) (defScope (topS 14)) .none kV5 dc5 pm5 an5 cd5 ct5), sl5⟩) (c5 : PySem.W.codeIn K cd5 "end_of" = true) (k5 : PySem.W.keepIn K (.ref f5) = true)
    {od6 an6 : Option Addr} {sl6 : Array (Option Value)} {oc6 kV6 dc6 pm6 cd6 ct6 : Value}
    (a6 : PySem.W.nsIn K mainGlobals "next_of" = some (some (.ref f6))) (l6 : K.lookup f6 = some ⟨oc6, od6, .func (PySem.W.fnOf "next_of" "next_of" (defArgs (topS 15)) (defBody (topS 15)) (defScope (topS 15)) .none kV6 dc6 pm6 an6 cd6 ct6), sl6⟩) (c6 : PySem.W.codeIn K cd6 "next_of" = true) (k6 : PySem.W.keepIn K (.ref f6) = true)
    {od7 an7 : Option Addr} {sl7 : Array (Option Value)} {oc7 kV7 dc7 pm7 cd7 ct7 : Value}
    (a7 : PySem.W.nsIn K mainGlobals "free_in" = some (some (.ref f7))) (l7 : K.lookup f7 = some ⟨oc7, od7, .func (PySem.W.fnOf "free_in" "free_in" (defArgs (topS 16)) (defBody (topS 16)) (defScope (topS 16)) .none kV7 dc7 pm7 an7 cd7 ct7), sl7⟩) (c7 : PySem.W.codeIn K cd7 "free_in" = true) (k7 : PySem.W.keepIn K (.ref f7) = true)
    {od8 an8 : Option Addr} {sl8 : Array (Option Value)} {oc8 kV8 dc8 pm8 cd8 ct8 : Value}
    (a8 : PySem.W.nsIn K mainGlobals "threats_of" = some (some (.ref f8))) (l8 : K.lookup f8 = some ⟨oc8, od8, .func (PySem.W.fnOf "threats_of" "threats_of" (defArgs (topS 17)) (defBody (topS 17)) (defScope (topS 17)) .none kV8 dc8 pm8 an8 cd8 ct8), sl8⟩) (c8 : PySem.W.codeIn K cd8 "threats_of" = true) (k8 : PySem.W.keepIn K (.ref f8) = true)
    {od9 an9 : Option Addr} {sl9 : Array (Option Value)} {oc9 kV9 dc9 pm9 cd9 ct9 : Value}
    (a9 : PySem.W.nsIn K mainGlobals "threats" = some (some (.ref f9))) (l9 : K.lookup f9 = some ⟨oc9, od9, .func (PySem.W.fnOf "threats" "threats" (defArgs (topS 18)) (defBody (topS 18)) (defScope (topS 18)) .none kV9 dc9 pm9 an9 cd9 ct9), sl9⟩) (c9 : PySem.W.codeIn K cd9 "threats" = true) (k9 : PySem.W.keepIn K (.ref f9) = true)
    {od10 an10 : Option Addr} {sl10 : Array (Option Value)} {oc10 kV10 dc10 pm10 cd10 ct10 : Value}
    (a10 : PySem.W.nsIn K mainGlobals "turned_game" = some (some (.ref f10))) (l10 : K.lookup f10 = some ⟨oc10, od10, .func (PySem.W.fnOf "turned_game" "turned_game" (defArgs (topS 19)) (defBody (topS 19)) (defScope (topS 19)) .none kV10 dc10 pm10 an10 cd10 ct10), sl10⟩) (c10 : PySem.W.codeIn K cd10 "turned_game" = true) (k10 : PySem.W.keepIn K (.ref f10) = true)
    {od11 an11 : Option Addr} {sl11 : Array (Option Value)} {oc11 kV11 dc11 pm11 cd11 ct11 : Value}
    (a11 : PySem.W.nsIn K mainGlobals "least_game" = some (some (.ref f11))) (l11 : K.lookup f11 = some ⟨oc11, od11, .func (PySem.W.fnOf "least_game" "least_game" (defArgs (topS 20)) (defBody (topS 20)) (defScope (topS 20)) .none kV11 dc11 pm11 an11 cd11 ct11), sl11⟩) (c11 : PySem.W.codeIn K cd11 "least_game" = true) (k11 : PySem.W.keepIn K (.ref f11) = true)
    {od12 an12 : Option Addr} {sl12 : Array (Option Value)} {oc12 kV12 dc12 pm12 cd12 ct12 : Value}
    (a12 : PySem.W.nsIn K mainGlobals "forced" = some (some (.ref f12))) (l12 : K.lookup f12 = some ⟨oc12, od12, .func (PySem.W.fnOf "forced" "forced" (defArgs (topS 21)) (defBody (topS 21)) (defScope (topS 21)) .none kV12 dc12 pm12 an12 cd12 ct12), sl12⟩) (c12 : PySem.W.codeIn K cd12 "forced" = true) (k12 : PySem.W.keepIn K (.ref f12) = true)
    {od13 an13 : Option Addr} {sl13 : Array (Option Value)} {oc13 kV13 dc13 pm13 cd13 ct13 : Value}
    (a13 : PySem.W.nsIn K mainGlobals "_law_hand" = some (some (.ref f13))) (l13 : K.lookup f13 = some ⟨oc13, od13, .func (PySem.W.fnOf "_law_hand" "_law_hand" (defArgs (topS 23)) (defBody (topS 23)) (defScope (topS 23)) .none kV13 dc13 pm13 an13 cd13 ct13), sl13⟩) (c13 : PySem.W.codeIn K cd13 "_law_hand" = true) (k13 : PySem.W.keepIn K (.ref f13) = true)
    {od14 an14 : Option Addr} {sl14 : Array (Option Value)} {oc14 kV14 dc14 pm14 cd14 ct14 : Value}
    (a14 : PySem.W.nsIn K mainGlobals "_law_draw" = some (some (.ref f14))) (l14 : K.lookup f14 = some ⟨oc14, od14, .func (PySem.W.fnOf "_law_draw" "_law_draw" (defArgs (topS 24)) (defBody (topS 24)) (defScope (topS 24)) .none kV14 dc14 pm14 an14 cd14 ct14), sl14⟩) (c14 : PySem.W.codeIn K cd14 "_law_draw" = true) (k14 : PySem.W.keepIn K (.ref f14) = true)
    {od15 an15 : Option Addr} {sl15 : Array (Option Value)} {oc15 kV15 dc15 pm15 cd15 ct15 : Value}
    (a15 : PySem.W.nsIn K mainGlobals "_law_some" = some (some (.ref f15))) (l15 : K.lookup f15 = some ⟨oc15, od15, .func (PySem.W.fnOf "_law_some" "_law_some" (defArgs (topS 25)) (defBody (topS 25)) (defScope (topS 25)) .none kV15 dc15 pm15 an15 cd15 ct15), sl15⟩) (c15 : PySem.W.codeIn K cd15 "_law_some" = true) (k15 : PySem.W.keepIn K (.ref f15) = true)
    {od16 an16 : Option Addr} {sl16 : Array (Option Value)} {oc16 kV16 dc16 pm16 cd16 ct16 : Value}
    (a16 : PySem.W.nsIn K mainGlobals "_law_lines" = some (some (.ref f16))) (l16 : K.lookup f16 = some ⟨oc16, od16, .func (PySem.W.fnOf "_law_lines" "_law_lines" (defArgs (topS 26)) (defBody (topS 26)) (defScope (topS 26)) .none kV16 dc16 pm16 an16 cd16 ct16), sl16⟩) (c16 : PySem.W.codeIn K cd16 "_law_lines" = true) (k16 : PySem.W.keepIn K (.ref f16) = true)
    {od17 an17 : Option Addr} {sl17 : Array (Option Value)} {oc17 kV17 dc17 pm17 cd17 ct17 : Value}
    (a17 : PySem.W.nsIn K mainGlobals "_law_has" = some (some (.ref f17))) (l17 : K.lookup f17 = some ⟨oc17, od17, .func (PySem.W.fnOf "_law_has" "_law_has" (defArgs (topS 27)) (defBody (topS 27)) (defScope (topS 27)) .none kV17 dc17 pm17 an17 cd17 ct17), sl17⟩) (c17 : PySem.W.codeIn K cd17 "_law_has" = true) (k17 : PySem.W.keepIn K (.ref f17) = true)
    {od18 an18 : Option Addr} {sl18 : Array (Option Value)} {oc18 kV18 dc18 pm18 cd18 ct18 : Value}
    (a18 : PySem.W.nsIn K mainGlobals "_law_next" = some (some (.ref f18))) (l18 : K.lookup f18 = some ⟨oc18, od18, .func (PySem.W.fnOf "_law_next" "_law_next" (defArgs (topS 28)) (defBody (topS 28)) (defScope (topS 28)) .none kV18 dc18 pm18 an18 cd18 ct18), sl18⟩) (c18 : PySem.W.codeIn K cd18 "_law_next" = true) (k18 : PySem.W.keepIn K (.ref f18) = true)
    {od19 an19 : Option Addr} {sl19 : Array (Option Value)} {oc19 kV19 dc19 pm19 cd19 ct19 : Value}
    (a19 : PySem.W.nsIn K mainGlobals "_law_put" = some (some (.ref f19))) (l19 : K.lookup f19 = some ⟨oc19, od19, .func (PySem.W.fnOf "_law_put" "_law_put" (defArgs (topS 29)) (defBody (topS 29)) (defScope (topS 29)) .none kV19 dc19 pm19 an19 cd19 ct19), sl19⟩) (c19 : PySem.W.codeIn K cd19 "_law_put" = true) (k19 : PySem.W.keepIn K (.ref f19) = true)
    {od20 an20 : Option Addr} {sl20 : Array (Option Value)} {oc20 kV20 dc20 pm20 cd20 ct20 : Value}
    (a20 : PySem.W.nsIn K mainGlobals "_law_game" = some (some (.ref f20))) (l20 : K.lookup f20 = some ⟨oc20, od20, .func (PySem.W.fnOf "_law_game" "_law_game" (defArgs (topS 30)) (defBody (topS 30)) (defScope (topS 30)) .none kV20 dc20 pm20 an20 cd20 ct20), sl20⟩) (c20 : PySem.W.codeIn K cd20 "_law_game" = true) (k20 : PySem.W.keepIn K (.ref f20) = true)
    {od21 an21 : Option Addr} {sl21 : Array (Option Value)} {oc21 kV21 dc21 pm21 cd21 ct21 : Value}
    (a21 : PySem.W.nsIn K mainGlobals "_law_threats" = some (some (.ref f21))) (l21 : K.lookup f21 = some ⟨oc21, od21, .func (PySem.W.fnOf "_law_threats" "_law_threats" (defArgs (topS 31)) (defBody (topS 31)) (defScope (topS 31)) .none kV21 dc21 pm21 an21 cd21 ct21), sl21⟩) (c21 : PySem.W.codeIn K cd21 "_law_threats" = true) (k21 : PySem.W.keepIn K (.ref f21) = true)
    {od22 an22 : Option Addr} {sl22 : Array (Option Value)} {oc22 kV22 dc22 pm22 cd22 ct22 : Value}
    (a22 : PySem.W.nsIn K mainGlobals "_law_turned" = some (some (.ref f22))) (l22 : K.lookup f22 = some ⟨oc22, od22, .func (PySem.W.fnOf "_law_turned" "_law_turned" (defArgs (topS 32)) (defBody (topS 32)) (defScope (topS 32)) .none kV22 dc22 pm22 an22 cd22 ct22), sl22⟩) (c22 : PySem.W.codeIn K cd22 "_law_turned" = true) (k22 : PySem.W.keepIn K (.ref f22) = true)
    {od23 an23 : Option Addr} {sl23 : Array (Option Value)} {oc23 kV23 dc23 pm23 cd23 ct23 : Value}
    (a23 : PySem.W.nsIn K mainGlobals "_law_eight" = some (some (.ref f23))) (l23 : K.lookup f23 = some ⟨oc23, od23, .func (PySem.W.fnOf "_law_eight" "_law_eight" (defArgs (topS 33)) (defBody (topS 33)) (defScope (topS 33)) .none kV23 dc23 pm23 an23 cd23 ct23), sl23⟩) (c23 : PySem.W.codeIn K cd23 "_law_eight" = true) (k23 : PySem.W.keepIn K (.ref f23) = true)
    {od24 an24 : Option Addr} {sl24 : Array (Option Value)} {oc24 kV24 dc24 pm24 cd24 ct24 : Value}
    (a24 : PySem.W.nsIn K mainGlobals "law" = some (some (.ref f24))) (l24 : K.lookup f24 = some ⟨oc24, od24, .func (PySem.W.fnOf "law" "law" (defArgs (topS 34)) (defBody (topS 34)) (defScope (topS 34)) .none kV24 dc24 pm24 an24 cd24 ct24), sl24⟩) (c24 : PySem.W.codeIn K cd24 "law" = true) (k24 : PySem.W.keepIn K (.ref f24) = true)
    {u_ROWS : Value} (g_ROWS : PySem.W.nsIn K mainGlobals "ROWS" = some (some u_ROWS)) (h_ROWS : conOk K 9 (.tup [.tup [.int (0), .int (1), .int (2)], .tup [.int (3), .int (4), .int (5)], .tup [.int (6), .int (7), .int (8)], .tup [.int (0), .int (3), .int (6)], .tup [.int (1), .int (4), .int (7)], .tup [.int (2), .int (5), .int (8)], .tup [.int (0), .int (4), .int (8)], .tup [.int (2), .int (4), .int (6)]]) u_ROWS = true)
    {u_TURN : Value} (g_TURN : PySem.W.nsIn K mainGlobals "TURN" = some (some u_TURN)) (h_TURN : conOk K 9 (.tup [.int (6), .int (3), .int (0), .int (7), .int (4), .int (1), .int (8), .int (5), .int (2)]) u_TURN = true)
    {u_MIRROR : Value} (g_MIRROR : PySem.W.nsIn K mainGlobals "MIRROR" = some (some u_MIRROR)) (h_MIRROR : conOk K 9 (.tup [.int (2), .int (1), .int (0), .int (5), .int (4), .int (3), .int (8), .int (7), .int (6)]) u_MIRROR = true)
    {u_SIZE : Value} (g_SIZE : PySem.W.nsIn K mainGlobals "SIZE" = some (some u_SIZE)) (h_SIZE : conOk K 9 (.int (9)) u_SIZE = true)
    (z_len : PySem.W.nsIn K mainGlobals "len" = some none)
    (z_abs : PySem.W.nsIn K mainGlobals "abs" = some none)
    (z_int : PySem.W.nsIn K mainGlobals "int" = some none)
    (z_any : PySem.W.nsIn K mainGlobals "any" = some none)
    (z_all : PySem.W.nsIn K mainGlobals "all" = some none)
    (z_sum : PySem.W.nsIn K mainGlobals "sum" = some none)
    (z_tuple : PySem.W.nsIn K mainGlobals "tuple" = some none)
    (z_list : PySem.W.nsIn K mainGlobals "list" = some none)
    (z_isinstance : PySem.W.nsIn K mainGlobals "isinstance" = some none)
    (z_str : PySem.W.nsIn K mainGlobals "str" = some none)
    (z_bool : PySem.W.nsIn K mainGlobals "bool" = some none)
    (z_dict : PySem.W.nsIn K mainGlobals "dict" = some none)
    (z_range : PySem.W.nsIn K mainGlobals "range" = some none)
    (z_enumerate : PySem.W.nsIn K mainGlobals "enumerate" = some none)
    (z_zip : PySem.W.nsIn K mainGlobals "zip" = some none)
    (z_min : PySem.W.nsIn K mainGlobals "min" = some none)
    (z_max : PySem.W.nsIn K mainGlobals "max" = some none)
    : ∃ fd : FuncData, (∀ (s : Shared) (v : Value), BindsTo s fd ⟨[v], []⟩ [("script", v)]) ∧ ∀ base : Heap, K.In base → base.Ns mainGlobals mg → FnOk l.prog w K mg base CX0 200 fa fd ["script"] (spLaw K) := by
  have e : f24 = fa := by have q := (PySem.W.mg_of X G a24).symm.trans hfa; cases q; rfl
  subst e
  have F0 := fun_mk (st := topS 9) l0 c0 k0
  have F1 := fun_mk (st := topS 10) l1 c1 k1
  have F2 := fun_mk (st := topS 11) l2 c2 k2
  have F3 := fun_mk (st := topS 12) l3 c3 k3
  have F4 := fun_mk (st := topS 13) l4 c4 k4
  have F5 := fun_mk (st := topS 14) l5 c5 k5
  have F6 := fun_mk (st := topS 15) l6 c6 k6
  have F7 := fun_mk (st := topS 16) l7 c7 k7
  have F8 := fun_mk (st := topS 17) l8 c8 k8
  have F9 := fun_mk (st := topS 18) l9 c9 k9
  have F10 := fun_mk (st := topS 19) l10 c10 k10
  have F11 := fun_mk (st := topS 20) l11 c11 k11
  have F12 := fun_mk (st := topS 21) l12 c12 k12
  have F13 := fun_mk (st := topS 23) l13 c13 k13
  have F14 := fun_mk (st := topS 24) l14 c14 k14
  have F15 := fun_mk (st := topS 25) l15 c15 k15
  have F16 := fun_mk (st := topS 26) l16 c16 k16
  have F17 := fun_mk (st := topS 27) l17 c17 k17
  have F18 := fun_mk (st := topS 28) l18 c18 k18
  have F19 := fun_mk (st := topS 29) l19 c19 k19
  have F20 := fun_mk (st := topS 30) l20 c20 k20
  have F21 := fun_mk (st := topS 31) l21 c21 k21
  have F22 := fun_mk (st := topS 32) l22 c22 k22
  have F23 := fun_mk (st := topS 33) l23 c23 k23
  have F24 := fun_mk (st := topS 34) l24 c24 k24
  have b0 := F0.binds (ps := ["game", "sign"]) fun _ _ _ _ _ _ us hl => match us, hl with | [_, _], _ => rfl
  have b1 := F1.binds (ps := ["game"]) fun _ _ _ _ _ _ us hl => match us, hl with | [_], _ => rfl
  have b2 := F2.binds (ps := ["game", "sign"]) fun _ _ _ _ _ _ us hl => match us, hl with | [_, _], _ => rfl
  have b3 := F3.binds (ps := ["thing"]) fun _ _ _ _ _ _ us hl => match us, hl with | [_], _ => rfl
  have b4 := F4.binds (ps := ["game"]) fun _ _ _ _ _ _ us hl => match us, hl with | [_], _ => rfl
  have b5 := F5.binds (ps := ["game"]) fun _ _ _ _ _ _ us hl => match us, hl with | [_], _ => rfl
  have b6 := F6.binds (ps := ["game"]) fun _ _ _ _ _ _ us hl => match us, hl with | [_], _ => rfl
  have b7 := F7.binds (ps := ["game"]) fun _ _ _ _ _ _ us hl => match us, hl with | [_], _ => rfl
  have b8 := F8.binds (ps := ["game", "sign"]) fun _ _ _ _ _ _ us hl => match us, hl with | [_, _], _ => rfl
  have b9 := F9.binds (ps := ["game", "sign"]) fun _ _ _ _ _ _ us hl => match us, hl with | [_, _], _ => rfl
  have b10 := F10.binds (ps := ["game"]) fun _ _ _ _ _ _ us hl => match us, hl with | [_], _ => rfl
  have b11 := F11.binds (ps := ["game"]) fun _ _ _ _ _ _ us hl => match us, hl with | [_], _ => rfl
  have b12 := F12.binds (ps := ["game"]) fun _ _ _ _ _ _ us hl => match us, hl with | [_], _ => rfl
  have b13 := F13.binds (ps := ["script"]) fun _ _ _ _ _ _ us hl => match us, hl with | [_], _ => rfl
  have b14 := F14.binds (ps := ["hand", "many"]) fun _ _ _ _ _ _ us hl => match us, hl with | [_, _], _ => rfl
  have b15 := F15.binds (ps := ["hand", "things"]) fun _ _ _ _ _ _ us hl => match us, hl with | [_, _], _ => rfl
  have b16 := F16.binds (ps := []) fun _ _ _ _ _ _ us hl => match us, hl with | [], _ => rfl
  have b17 := F17.binds (ps := ["game", "sign"]) fun _ _ _ _ _ _ us hl => match us, hl with | [_, _], _ => rfl
  have b18 := F18.binds (ps := ["game"]) fun _ _ _ _ _ _ us hl => match us, hl with | [_], _ => rfl
  have b19 := F19.binds (ps := ["game", "place", "sign"]) fun _ _ _ _ _ _ us hl => match us, hl with | [_, _, _], _ => rfl
  have b20 := F20.binds (ps := ["hand", "plays"]) fun _ _ _ _ _ _ us hl => match us, hl with | [_, _], _ => rfl
  have b21 := F21.binds (ps := ["game", "sign"]) fun _ _ _ _ _ _ us hl => match us, hl with | [_, _], _ => rfl
  have b22 := F22.binds (ps := ["game"]) fun _ _ _ _ _ _ us hl => match us, hl with | [_], _ => rfl
  have b23 := F23.binds (ps := ["game"]) fun _ _ _ _ _ _ us hl => match us, hl with | [_], _ => rfl
  have b24 := F24.binds (ps := ["script"]) fun _ _ _ _ _ _ us hl => match us, hl with | [_], _ => rfl
  have O : Mods ⟨K, faOf [f0, f1, f2, f3, f4, f5, f6, f7, f8, f9, f10, f11, f12, f13, f14, f15, f16, f17, f18, f19, f20, f21, f22, f23, f24]⟩ tb L mg := Mods.mk_lists
    ⟨⟨sc_has_three, _, F0, b0⟩, ⟨sc_can_come, _, F1, b1⟩, ⟨sc_is_last, _, F2, b2⟩, ⟨sc_is_game, _, F3, b3⟩, ⟨sc_check_game, _, F4, b4⟩, ⟨sc_end_of, _, F5, b5⟩, ⟨sc_next_of, _, F6, b6⟩, ⟨sc_free_in, _, F7, b7⟩, ⟨sc_threats_of, _, F8, b8⟩, ⟨sc_threats, _, F9, b9⟩, ⟨sc_turned_game, _, F10, b10⟩, ⟨sc_least_game, _, F11, b11⟩, ⟨sc_forced, _, F12, b12⟩, ⟨sc__law_hand, _, F13, b13⟩, ⟨sc__law_draw, _, F14, b14⟩, ⟨sc__law_some, _, F15, b15⟩, ⟨sc__law_lines, _, F16, b16⟩, ⟨sc__law_has, _, F17, b17⟩, ⟨sc__law_next, _, F18, b18⟩, ⟨sc__law_put, _, F19, b19⟩, ⟨sc__law_game, _, F20, b20⟩, ⟨sc__law_threats, _, F21, b21⟩, ⟨sc__law_turned, _, F22, b22⟩, ⟨sc__law_eight, _, F23, b23⟩, ⟨sc_law, _, F24, b24⟩, trivial⟩
    ⟨⟨by decide, PySem.W.mg_of X G a0⟩, ⟨by decide, PySem.W.mg_of X G a1⟩, ⟨by decide, PySem.W.mg_of X G a2⟩, ⟨by decide, PySem.W.mg_of X G a3⟩, ⟨by decide, PySem.W.mg_of X G a4⟩, ⟨by decide, PySem.W.mg_of X G a5⟩, ⟨by decide, PySem.W.mg_of X G a6⟩, ⟨by decide, PySem.W.mg_of X G a7⟩, ⟨by decide, PySem.W.mg_of X G a8⟩, ⟨by decide, PySem.W.mg_of X G a9⟩, ⟨by decide, PySem.W.mg_of X G a10⟩, ⟨by decide, PySem.W.mg_of X G a11⟩, ⟨by decide, PySem.W.mg_of X G a12⟩, ⟨by decide, PySem.W.mg_of X G a13⟩, ⟨by decide, PySem.W.mg_of X G a14⟩, ⟨by decide, PySem.W.mg_of X G a15⟩, ⟨by decide, PySem.W.mg_of X G a16⟩, ⟨by decide, PySem.W.mg_of X G a17⟩, ⟨by decide, PySem.W.mg_of X G a18⟩, ⟨by decide, PySem.W.mg_of X G a19⟩, ⟨by decide, PySem.W.mg_of X G a20⟩, ⟨by decide, PySem.W.mg_of X G a21⟩, ⟨by decide, PySem.W.mg_of X G a22⟩, ⟨by decide, PySem.W.mg_of X G a23⟩, ⟨by decide, PySem.W.mg_of X G a24⟩, con_of rfl (PySem.W.mg_of X G g_ROWS) h_ROWS, con_of rfl (PySem.W.mg_of X G g_TURN) h_TURN, con_of rfl (PySem.W.mg_of X G g_MIRROR) h_MIRROR, con_of rfl (PySem.W.mg_of X G g_SIZE) h_SIZE, trivial, trivial, trivial, trivial⟩
    (fun x hx hl => by
      simp only [bltNames, List.mem_cons, List.not_mem_nil, or_false] at hx
      rcases hx with rfl | rfl | rfl | rfl | rfl | rfl | rfl | rfl | rfl | rfl | rfl | rfl | rfl | rfl | rfl | rfl | rfl
      · exact PySem.W.mg_none_of X G z_len
      · exact PySem.W.mg_none_of X G z_abs
      · exact PySem.W.mg_none_of X G z_int
      · exact PySem.W.mg_none_of X G z_any
      · exact PySem.W.mg_none_of X G z_all
      · exact PySem.W.mg_none_of X G z_sum
      · exact PySem.W.mg_none_of X G z_tuple
      · exact PySem.W.mg_none_of X G z_list
      · exact PySem.W.mg_none_of X G z_isinstance
      · exact PySem.W.mg_none_of X G z_str
      · exact PySem.W.mg_none_of X G z_bool
      · exact PySem.W.mg_none_of X G z_dict
      · exact PySem.W.mg_none_of X G z_range
      · exact PySem.W.mg_none_of X G z_enumerate
      · exact PySem.W.mg_none_of X G z_zip
      · exact PySem.W.mg_none_of X G z_min
      · exact PySem.W.mg_none_of X G z_max)
  exact ⟨_, fun s v => .of_eq rfl, fun base _ _ => law_imp (fn_sound O 200 24 _ _ rfl F24) law_main⟩
end K61
open PySem PySem.W PyProof.Rows
set_option maxHeartbeats 0 in
theorem PySem.Challenge.cw_fewtoys_k61_whole_threats_and_turned_gam_holds : PySem.Challenge.rw_fewtoys_k61_whole_threats_and_turned_gam.Holds := by
  w_on; o_law; k_head; (case hw => w_witness2)
  k_fill
  refine L2.walk_ofK (l := PySem.Challenge.rw_fewtoys_k61_whole_threats_and_turned_gam) (n := 63) (k := 200) (x := "script") (CX := L2.CX0) (sp := MP.spLaw) rfl (by decide) rfl ⟨rfl, by decide, by decide⟩ (fun w h Y => PySem.W.kIn_of Y) ?F (fun _ _ a ns hl hO hS => ⟨a, ns, rfl, hS, hO, hl, fun _ => rfl⟩) (fun _ _ _ _ h => h)
  case F =>
    intro w mg fa h KX G hmg
    refine' K61.all_mk KX G hmg ?a0 ?l0 ?c0 ?k0 ?a1 ?l1 ?c1 ?k1 ?a2 ?l2 ?c2 ?k2 ?a3 ?l3 ?c3 ?k3 ?a4 ?l4 ?c4 ?k4 ?a5 ?l5 ?c5 ?k5 ?a6 ?l6 ?c6 ?k6 ?a7 ?l7 ?c7 ?k7 ?a8 ?l8 ?c8 ?k8 ?a9 ?l9 ?c9 ?k9 ?a10 ?l10 ?c10 ?k10 ?a11 ?l11 ?c11 ?k11 ?a12 ?l12 ?c12 ?k12 ?a13 ?l13 ?c13 ?k13 ?a14 ?l14 ?c14 ?k14 ?a15 ?l15 ?c15 ?k15 ?a16 ?l16 ?c16 ?k16 ?a17 ?l17 ?c17 ?k17 ?a18 ?l18 ?c18 ?k18 ?a19 ?l19 ?c19 ?k19 ?a20 ?l20 ?c20 ?k20 ?a21 ?l21 ?c21 ?k21 ?a22 ?l22 ?c22 ?k22 ?a23 ?l23 ?c23 ?k23 ?a24 ?l24 ?c24 ?k24 ?g_ROWS ?h_ROWS ?g_TURN ?h_TURN ?g_MIRROR ?h_MIRROR ?g_SIZE ?h_SIZE ?z_len ?z_abs ?z_int ?z_any ?z_all ?z_sum ?z_tuple ?z_list ?z_isinstance ?z_str ?z_bool ?z_dict ?z_range ?z_enumerate ?z_zip ?z_min ?z_max
    (case a0 => k_is); (case l0 => k_is); (case c0 => k_is); (case k0 => k_is); (case a1 => k_is); (case l1 => k_is); (case c1 => k_is); (case k1 => k_is); (case a2 => k_is); (case l2 => k_is); (case c2 => k_is); (case k2 => k_is); (case a3 => k_is); (case l3 => k_is); (case c3 => k_is); (case k3 => k_is); (case a4 => k_is); (case l4 => k_is); (case c4 => k_is); (case k4 => k_is); (case a5 => k_is); (case l5 => k_is); (case c5 => k_is); (case k5 => k_is); (case a6 => k_is); (case l6 => k_is); (case c6 => k_is); (case k6 => k_is); (case a7 => k_is); (case l7 => k_is); (case c7 => k_is); (case k7 => k_is); (case a8 => k_is); (case l8 => k_is); (case c8 => k_is); (case k8 => k_is); (case a9 => k_is); (case l9 => k_is); (case c9 => k_is); (case k9 => k_is); (case a10 => k_is); (case l10 => k_is); (case c10 => k_is); (case k10 => k_is); (case a11 => k_is); (case l11 => k_is); (case c11 => k_is); (case k11 => k_is); (case a12 => k_is); (case l12 => k_is); (case c12 => k_is); (case k12 => k_is); (case a13 => k_is); (case l13 => k_is); (case c13 => k_is); (case k13 => k_is); (case a14 => k_is); (case l14 => k_is); (case c14 => k_is); (case k14 => k_is); (case a15 => k_is); (case l15 => k_is); (case c15 => k_is); (case k15 => k_is); (case a16 => k_is); (case l16 => k_is); (case c16 => k_is); (case k16 => k_is); (case a17 => k_is); (case l17 => k_is); (case c17 => k_is); (case k17 => k_is); (case a18 => k_is); (case l18 => k_is); (case c18 => k_is); (case k18 => k_is); (case a19 => k_is); (case l19 => k_is); (case c19 => k_is); (case k19 => k_is); (case a20 => k_is); (case l20 => k_is); (case c20 => k_is); (case k20 => k_is); (case a21 => k_is); (case l21 => k_is); (case c21 => k_is); (case k21 => k_is); (case a22 => k_is); (case l22 => k_is); (case c22 => k_is); (case k22 => k_is); (case a23 => k_is); (case l23 => k_is); (case c23 => k_is); (case k23 => k_is); (case a24 => k_is); (case l24 => k_is); (case c24 => k_is); (case k24 => k_is); (case g_ROWS => k_is); (case g_TURN => k_is); (case g_MIRROR => k_is); (case g_SIZE => k_is); (case z_len => k_is); (case z_abs => k_is); (case z_int => k_is); (case z_any => k_is); (case z_all => k_is); (case z_sum => k_is); (case z_tuple => k_is); (case z_list => k_is); (case z_isinstance => k_is); (case z_str => k_is); (case z_bool => k_is); (case z_dict => k_is); (case z_range => k_is); (case z_enumerate => k_is); (case z_zip => k_is); (case z_min => k_is); (case z_max => k_is)
    (case h_ROWS => kernel_rfl)
    (case h_TURN => kernel_rfl)
    (case h_MIRROR => kernel_rfl)
    (case h_SIZE => kernel_rfl)
