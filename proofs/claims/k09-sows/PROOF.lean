import PyProof.Rows.All
import Wide.All
import OpenK.AllK
import Wide.FinOn
import PySem.Challenge.RW_boardhall_k09_sows
import HandS.Words
import HandS.ForMost
import HandS.ForExc
import KE.DataEq
import KE.SortData
import HandS.TupAny
import HandS.Lambda
import KE.KDictKeyed
import KE.DataCmp
import KE.DataMinMax
import KE.KTupSum
import KE.DataFind
import HandS.Strs
import HandS.Deep
import KE.KDictPairs
import HandS.ExcOwn
import HandS.CallSlots
import HandS.NoneIn
import KE.GoesMore
import HandS.TryMany
import HandS.EndTab
/-! text Bh1 -/
set_option linter.all false
set_option maxRecDepth 100000
/-! Bh1: data, core syntax, and the evaluator. Plain Lean: no program of the row in sight. -/
namespace Bh

/-! ### data -/
inductive D where
  | non
  | bl (b : Bool)
  | int (i : Int)
  | str (s : List Nat)
  | tup (xs : List D)
  | lst (xs : List D)
  | dct (kvs : List (D × D))
  | obj (c : Nat) (fs : List (Nat × D))
  deriving Inhabited

/-- True is 1 -/
def b2i (b : Bool) : Int := if b then 1 else 0
mutual
def eqv : D → D → Bool
  | .non, .non => true
  | .bl a, .bl b => a == b
  | .bl a, .int j => b2i a == j
  | .int i, .bl b => i == b2i b
  | .int i, .int j => i == j
  | .str x, .str y => x == y
  | .lst xs, .lst ys => eqvs xs ys
  | .tup xs, .tup ys => eqvs xs ys
  | _, _ => false
def eqvs : List D → List D → Bool
  | [], [] => true
  | x :: xs, y :: ys => eqv x y && eqvs xs ys
  | _, _ => false
end
mutual
/-- how deep -/
def dep : D → Nat
  | .tup xs => deps xs + 1
  | .lst xs => deps xs + 1
  | _ => 0
def deps : List D → Nat
  | [] => 0
  | x :: xs => max (dep x) (deps xs)
end
mutual
/-- no dict, no object within -/
def plain : D → Bool
  | .tup xs => plains xs
  | .lst xs => plains xs
  | .dct _ => false
  | .obj _ _ => false
  | _ => true
def plains : List D → Bool
  | [] => true
  | x :: xs => plain x && plains xs
end
/-- what == may be asked of -/
def eqOk (a b : D) : Bool := plain a && plain b && decide (min (dep a) (dep b) ≤ 100)
/-- the least size that is too much: 2 ^ 24 -/
def okLen (n : Nat) : Bool := decide (n ≤ 16777216)

/-! ### places, slices -/
def ixN (n : Nat) (i : Int) : Option Nat := if 0 ≤ i then (if i < n then some i.toNat else none) else if -(n : Int) ≤ i then some (i + n).toNat else none
def atI {α : Type} (xs : List α) (i : Int) : Option α := (ixN xs.length i).bind fun j => xs[j]?
def sIx (n d : Nat) : Option Int → Nat
  | none => d
  | some v => if v < 0 then (v + n).toNat else min v.toNat n
def cut {α : Type} (xs : List α) (lo hi : Option Int) : List α := (xs.drop (sIx xs.length 0 lo)).take (sIx xs.length xs.length hi - sIx xs.length 0 lo)
def part : D → Option (Option Int)
  | .non => some none
  | .int i => some (some i)
  | _ => none

/-! ### dicts: pairs in the order of insertion -/
/-- what may be a key: intsD, texts, or tuples of such -/
inductive Kk | flat | tup | bad
mutual
def keyOk : D → Bool
  | .int _ => true
  | .str _ => true
  | .tup xs => keyOks xs
  | .non => true
  | _ => false
def keyOks : List D → Bool
  | [] => true
  | x :: xs => keyOk x && keyOks xs
end
def isFlat : D → Bool
  | .int _ => true
  | .str _ => true
  | _ => false
def isTup : D → Bool
  | .tup _ => true
  | _ => false
/-- a key beside the keys of a dict: all ints and texts, or all tuples, not deeper than 8 -/
def keyFits (k : D) (kvs : List (D × D)) : Bool :=
  (isFlat k && kvs.all fun p => isFlat p.1) || (isTup k && keyOk k && decide (dep k ≤ 8) && kvs.all fun p => isTup p.1)
def dlook (k : D) : List (D × D) → Option D
  | [] => none
  | (a, v) :: r => if eqv a k then some v else dlook k r
def dput (k v : D) : List (D × D) → List (D × D)
  | [] => [(k, v)]
  | (a, u) :: r => if eqv a k then (a, v) :: r else (a, u) :: dput k v r
def ddel (k : D) : List (D × D) → List (D × D)
  | [] => []
  | (a, u) :: r => if eqv a k then r else (a, u) :: ddel k r
/-- dict(pairs) -/
def dmake : List D → List (D × D) → Option (List (D × D))
  | [], acc => some acc
  | .tup [k, v] :: r, acc => if keyFits k acc then dmake r (dput k v acc) else none
  | _ :: _, _ => none

/-- a tuple that may be a key -/
def keyT (k : D) : Bool := isTup k && keyOk k && decide (dep k ≤ 8)
/-- dict(pairs), the keys being tuples -/
def dmkT : List D → List (D × D) → Option (List (D × D))
  | [], acc => some acc
  | .tup [k, v] :: r, acc => if keyT k then dmkT r (dput k v acc) else none
  | _ :: _, _ => none
def dictD : D → Option D
  | .lst xs => (dmkT xs []).map .dct
  | _ => none

/-! ### operators -/
inductive Op2 | add | sub | mul | fdiv | mod | pow
inductive Cm | eq | ne | lt | le | gt | ge | isin | notin | is | isnot

def small64 (i : Int) : Bool := decide (-(2 ^ 64) < i) && decide (i < 2 ^ 64)
def addD : D → D → Option D
  | .int i, .int j => some (.int (i + j))
  | .str a, .str b => if okLen (a.length + b.length) then some (.str (a ++ b)) else none
  | .tup a, .tup b => if okLen (a.length + b.length) then some (.tup (a ++ b)) else none
  | .lst a, .lst b => if okLen (a.length + b.length) then some (.lst (a ++ b)) else none
  | _, _ => none
def subD : D → D → Option D
  | .int i, .int j => some (.int (i - j))
  | _, _ => none
def mulD : D → D → Option D
  | .int i, .int j => if small64 i || small64 j then some (.int (i * j)) else none
  | .lst a, .int k => if decide (-(2 ^ 62) ≤ k) && decide (k < 2 ^ 62) && okLen (a.length * k.toNat) then some (.lst (List.replicate k.toNat a).flatten) else none
  | _, _ => none
def fdivD : D → D → Option D
  | .int i, .int j => if decide (0 < j) && decide (j < 1073741824) then some (.int (i / j)) else none
  | _, _ => none
def modD : D → D → Option D
  | .int i, .int j => if decide (0 < j) then some (.int (i % j)) else none
  | _, _ => none
def powD : D → D → Option D
  | .int i, .int j => if small64 i && decide (0 ≤ j) && decide (j ≤ 1000000) then some (.int (i ^ j.toNat)) else none
  | _, _ => none
def opD : Op2 → D → D → Option D
  | .add => addD
  | .sub => subD
  | .mul => mulD
  | .fdiv => fdivD
  | .mod => modD
  | .pow => powD

/-! the order of data: by tokens -/
mutual
def toks : D → List (Int ⊕ List Nat)
  | .bl b => [.inl (b2i b)]
  | .int n => [.inl n]
  | .str x => [.inr x]
  | .lst xs => tokss xs
  | .tup xs => tokss xs
  | _ => []
def tokss : List D → List (Int ⊕ List Nat)
  | [] => [.inl 0]
  | x :: xs => .inl 1 :: (toks x ++ tokss xs)
end
def ltNs (a b : List Nat) : Bool := decide (a < b)
def ltTok : Int ⊕ List Nat → Int ⊕ List Nat → Bool
  | .inl a, .inl b => decide (a < b)
  | .inl _, .inr _ => true
  | .inr _, .inl _ => false
  | .inr a, .inr b => ltNs a b
def ltToks : List (Int ⊕ List Nat) → List (Int ⊕ List Nat) → Bool
  | [], [] => false
  | [], _ :: _ => true
  | _ :: _, [] => false
  | x :: r, y :: t => ltTok x y || (!ltTok y x && ltToks r t)
def leD (a b : D) : Bool := !ltToks (toks b) (toks a)
mutual
/-- of one shape -/
def alike : D → D → Bool
  | .non, .non => true
  | .bl _, .bl _ => true
  | .int _, .int _ => true
  | .str _, .str _ => true
  | .lst xs, .lst ys => alikes xs ys
  | .tup xs, .tup ys => alikes xs ys
  | _, _ => false
def alikes : List D → List D → Bool
  | x :: xs, y :: ys => alike x y && alikes xs ys
  | [], _ => true
  | _ :: _, [] => true
end
/-- data in order: not None, of one shape -/
def notNon : D → Bool
  | .non => false
  | _ => true
def ordOk (a b : D) : Bool := plain a && plain b && alike a b && notNon a && decide (min (dep a) (dep b) ≤ 100)
def ordC (p : Int → Int → Bool) (q : List (Int ⊕ List Nat) → List (Int ⊕ List Nat) → Bool) : D → D → Option Bool
  | .int i, .int j => some (p i j)
  | a, b => if ordOk a b then some (q (toks a) (toks b)) else none
def intC (p : Int → Int → Bool) : D → D → Option Bool
  | .int i, .int j => some (p i j)
  | _, _ => none
def inD : D → D → Option Bool
  | a, .tup xs => if plain a && plains xs && decide (dep a ≤ 100) then some (xs.any fun x => eqv x a) else none
  | a, .lst xs => if plain a && plains xs && decide (dep a ≤ 100) then some (xs.any fun x => eqv x a) else none
  | _, _ => none
def isNonD : D → D → Option Bool
  | .non, .non => some true
  | _, .non => some false
  | _, _ => none
/-- beside the empty list -/
def empC : D → D → Option Bool
  | .lst xs, .lst [] => some xs.isEmpty
  | _, _ => none
def cmpD : Cm → D → D → Option Bool
  | .eq => fun a b => if eqOk a b then some (eqv a b) else empC a b
  | .ne => fun a b => if eqOk a b then some (!eqv a b) else (empC a b).map (!·)
  | .lt => ordC (fun i j => decide (i < j)) ltToks
  | .le => ordC (fun i j => decide (i ≤ j)) fun x y => !ltToks y x
  | .gt => ordC (fun i j => decide (j < i)) fun x y => ltToks y x
  | .ge => ordC (fun i j => decide (j ≤ i)) fun x y => !ltToks x y
  | .isin => inD
  | .notin => fun a b => (inD a b).map (!·)
  | .is => isNonD
  | .isnot => fun a b => (isNonD a b).map (!·)

def idxD : D → D → Option D
  | .lst xs, .int i => atI xs i
  | .tup xs, .int i => atI xs i
  | .str s, .int i => if okLen s.length then (atI s i).map fun c => .str [c] else none
  | _, _ => none
def sliceD (a : D) (lo hi : Option Int) : Option D := match a with
  | .lst xs => some (.lst (cut xs lo hi))
  | .tup xs => some (.tup (cut xs lo hi))
  | .str s => if okLen s.length then some (.str (cut s lo hi)) else none
  | _ => none

/-! ### built-in functions -/
inductive Bf | len | abs | int | list | tuple | sorted | max | min | dict | sum
def intsD : List D → Option (List Int)
  | [] => some []
  | .int i :: r => (intsD r).map (i :: ·)
  | _ :: _ => none
def tup1 : D → Bool
  | .tup (_ :: _) => true
  | _ => false
def noTup : D → Bool
  | .tup _ => false
  | .non => false
  | _ => true
/-- all of one shape: tuples with an item at least, or neither tuples nor None -/
def sortable (xs : List D) : Bool := xs.all (fun a => xs.all (alike a)) && xs.all (fun a => plain a && decide (dep a ≤ 100)) && (xs.all tup1 || xs.all noTup)
def insD (x : D) : List D → List D
  | [] => [x]
  | y :: ys => if leD x y then x :: y :: ys else y :: insD x ys
def sortD : List D → List D
  | [] => []
  | x :: xs => insD x (sortD xs)
def maxI : List Int → Option Int
  | [] => none
  | x :: xs => some (xs.foldl (fun m y => if y > m then y else m) x)
def minI : List Int → Option Int
  | [] => none
  | x :: xs => some (xs.foldl (fun m y => if y < m then y else m) x)
def itemsD : D → Option (List D)
  | .lst xs => some xs
  | .tup xs => some xs
  | _ => none
def lenD : D → Option Nat
  | .lst xs => some xs.length
  | .tup xs => some xs.length
  | .str s => if okLen s.length then some s.length else none
  | .dct kvs => some kvs.length
  | _ => none
def absD : List D → Option D
  | [.int i] => some (.int (if i < 0 then -i else i))
  | _ => none
def intD : List D → Option D
  | [.int i] => some (.int i)
  | [.bl b] => some (.int (if b then 1 else 0))
  | _ => none
def one1 (g : D → Option D) : List D → Option D
  | [d] => g d
  | _ => none
/-- the first least of data -/
def minL : List D → Option D
  | [] => none
  | x :: xs => some (xs.foldl (fun m y => if ltToks (toks y) (toks m) then y else m) x)
def minItems (xs : List D) : Option D := match intsD xs with
  | some ns => (minI ns).map .int
  | none => if sortable xs then (match minL xs with
    | some (.lst _) => none
    | r => r) else none
def sumD (d : D) : Option D := (itemsD d).bind fun xs => (intsD xs).map fun ns => .int ns.sum
def maxD : List D → Option D
  | [.int i, .int j] => some (.int (if j > i then j else i))
  | [.lst xs] => (intsD xs).bind fun ns => (maxI ns).map .int
  | _ => none
def minD : List D → Option D
  | [.int i, .int j] => some (.int (if j < i then j else i))
  | [.lst xs] => minItems xs
  | _ => none
def bfD : Bf → List D → Option D
  | .len => one1 fun d => (lenD d).map fun n => .int n
  | .abs => absD
  | .int => intD
  | .list => one1 fun d => (itemsD d).map .lst
  | .tuple => one1 fun d => (itemsD d).map .tup
  | .sorted => one1 fun d => (itemsD d).bind fun xs => if sortable xs then some (.lst (sortD xs)) else none
  | .max => maxD
  | .min => minD
  | .dict => one1 dictD
  | .sum => one1 sumD

/-! ### methods -/
/-- methods that look -/
inductive Lm | index | indexT
def idxOf (v : D) (xs : List D) : Option D := if plain v && plains xs && decide (dep v ≤ 100) then (xs.findIdx? fun x => eqv x v).map fun (n : Nat) => D.int (n : Int) else none
def lmD : Lm → D → List D → Option D
  | .index, .lst xs, [v] => idxOf v xs
  | .indexT, .tup xs, [v] => idxOf v xs
  | _, _, _ => none
/-- the kind that a looking method belongs to -/
def lmT : Lm → D → Bool
  | .index, .lst _ => true
  | .indexT, .tup _ => true
  | _, _ => false
/-- methods that change an owned slot's list or dict: what is handed back, what it is then -/
inductive Mm | append | pop | popAt
def appD : D → List D → Option (D × D)
  | .lst xs, [v] => if okLen (xs.length + 1) then some (.non, .lst (xs ++ [v])) else none
  | _, _ => none
def popD : D → List D → Option (D × D)
  | .lst xs, [] => match xs.getLast? with
    | some v => some (v, .lst xs.dropLast)
    | none => none
  | _, _ => none
def popAtD : D → List D → Option (D × D)
  | .lst xs, [.int i] => (ixN xs.length i).bind fun j => (xs[j]?).map fun v => (v, .lst (xs.eraseIdx j))
  | _, _ => none
def mmD : Mm → D → List D → Option (D × D)
  | .append => appD
  | .pop => popD
  | .popAt => popAtD

/-! ### core syntax -/
/-- targets -/
inductive T | one (i : Nat) | many (is : List Nat)
mutual
inductive E where
  | var (i : Nat) | own (i : Nat)
  | con (d : D) | glob (g : Nat)
  | op (o : Op2) (es : Es) | cmp (c : Cm) (es : Es) | chain (c1 c2 : Cm) (es : Es) (c : E)
  | neg (a : E) | no (a : E) | and (a b : E) | or (a b : E) | ite (c a b : E)
  | tup (es : Es) | lst (es : Es)
  | idx (es : Es) | slice (a : E) (lo hi : Option E)
  | bf (f : Bf) (es : Es) | mm (m : Mm) (i : Nat) (es : Es)
  | call (f : Nat) (es : Es) | meth (m : Nat) (o : E) (es : Es) | make (c : Nat) (es : Es)
  | io (i : Nat) | bor (i : Nat)
  | fld (es : Es) (f : Nat)
  | lm (m : Lm) (o : E) (es : Es)
  | lc (t : T) (it : It) (c : Option E) (e : E)
  | told (e : E)
  | pick (ks : List (List Nat)) (es : Es) (k : E)
inductive Es where
  | nil | cons (e : E) (es : Es)
inductive It where
  | seq (e : E) | rng1 (a : E) | rng2 (es : Es) | enum (e : E)
end
/-- a target that may be a place of a list -/
inductive Tg | nm (i : Nat) | ix (i : Nat) (k : E)
inductive S where
  | set (i : Nat) (e : E) | thaw (i : Nat) (e : E) | bind (is : List Nat) (e : E)
  | par2 (i : Nat) (fi : Bool) (a : E) (j : Nat) (fj : Bool) (b : E)
  | aug (i : Nat) (o : Op2) (e : E)
  | setIx (i : Nat) (k v : E) | augIx (i : Nat) (o : Op2) (k v : E) | bindX (ts : List Tg) (e : E)
  | par3 (i : Nat) (fi : Bool) (a : E) (j : Nat) (fj : Bool) (b : E) (l : Nat) (fl : Bool) (c : E)
  | setFld (i f : Nat) (e : E)
  | expr (e : E) | ret (e : E) | retO (i : Nat) | raise (c : Nat) | pass | brk | cont
  | ite (c : E) (a b : List S)
  | whil (n : Nat) (c : E) (b : List S)
  | fors (t : T) (it : It) (b : List S)

/-! ### results -/
abbrev Env := List (Option D)
inductive R (α : Type) where
  | ok (a : α) (e : Env) | exc (c : Nat) (e : Env) | err
def R.bind {α β : Type} : R α → (α → Env → R β) → R β
  | .ok a e, k => k a e
  | .exc c e, _ => .exc c e
  | .err, _ => .err
def R.of {α : Type} (o : Option α) (e : Env) : R α := match o with
  | some a => .ok a e
  | none => .err
/-- a call's result: what is handed back, what the inout parameters are then -/
inductive CR where
  | ok (r : D) (outs : List D) | exc (c : Nat) (outs : List D) | err
/-- what a call of a def gives, at each level downwards -/
structure CF where
  lv : Nat
  c : Nat → Nat → List D → CR
def noC : Nat → List D → CR := fun _ _ => .err
def low (c : CF) : CF := ⟨c.lv - 2, fun j => c.c (j + 2)⟩
/-- what the program's tables say -/
structure Tb where
  glob : Nat → Option D
  meth : Nat → Nat → Option Nat
  init : Nat → Option Nat
  told : Nat → Option D
  fresh : Nat → Bool
  fld : Nat → Nat → Bool

def Env.get (env : Env) (i : Nat) : Option D := (env[i]?).getD none
def Env.put (env : Env) (i : Nat) (d : D) : Env := env.set i (some d)
def lateOf : E → Option Nat
  | .own i => some i
  | .io i => some i
  | .bor i => some i
  | _ => none
/-- the inout arguments' slots behind a call -/
def putBack : Es → List D → Env → Env
  | .cons (.io i) es, o :: os, env => putBack es os (env.put i o)
  | .cons _ es, os, env => putBack es os env
  | .nil, _, env => env
/-- the kind of a thing that may be changed -/
def kindOf : D → Nat
  | .lst _ => 1
  | .dct _ => 2
  | .obj _ _ => 3
  | _ => 0
mutual
def hasK (k : Nat) : D → Bool
  | .tup xs => hasKs k xs
  | .lst xs => k == 1 || hasKs k xs
  | .dct _ => true
  | .obj _ _ => true
  | _ => false
def hasKs (k : Nat) : List D → Bool
  | [] => false
  | x :: xs => hasK k x || hasKs k xs
end
/-- what was lent does not come back -/
def lentOk : Es → List D → D → Bool
  | .cons (.bor _) es, d :: ds, r => !hasK (kindOf d) r && lentOk es ds r
  | .cons _ es, _ :: ds, r => lentOk es ds r
  | _, _, _ => true
/-- within it -/
def kidK (k : Nat) : D → Bool
  | .lst xs => hasKs k xs
  | _ => true
/-- nor is it within what was changed -/
def lentOut : Es → List D → D → Bool
  | .cons (.bor _) es, d :: ds, r => !kidK (kindOf d) r && lentOut es ds r
  | .cons _ es, _ :: ds, r => lentOut es ds r
  | _, _, _ => true
def bindT : T → D → Env → Option Env
  | .one i, d, env => some (env.put i d)
  | .many is, d, env => (itemsD d).bind fun xs => if xs.length = is.length then some ((is.zip xs).foldl (fun e p => e.put p.1 p.2) env) else none
def T.slots : T → List Nat
  | .one i => [i]
  | .many is => is
/-- the slots is, forgotten -/
def Env.wipe (env : Env) : List Nat → Env
  | [] => env
  | i :: is => (Env.wipe env is).set i none
/-- the slots is as they were in env0 -/
def Env.back (env env0 : Env) : List Nat → Env
  | [] => env
  | i :: is => (Env.back env env0 is).set i (env0.get i)
def rangeD (a b : Int) : List D := (List.range (b - a).toNat).map fun k => .int (a + (k : Nat))
def rngOk (a b : Int) : Bool := decide (-(2 ^ 62) ≤ a) && decide (a < 2 ^ 62) && decide (-(2 ^ 62) ≤ b) && decide (b < 2 ^ 62)
def enumD (xs : List D) : List D := xs.mapIdx fun i x => .tup [.int (i : Nat), x]
def pickD (ks : List (List Nat)) (ds : List D) : D → Option D
  | .str s => (ks.zip ds).lookup s
  | _ => none

section
variable (tb : Tb)
def isNew : E → Nat → Bool
  | .op _ _ => fun k => k == 1 || k == 2
  | .lst _ => fun k => k == 1 || k == 2
  | .lc _ _ _ _ => fun k => k == 1 || k == 2
  | .bf _ _ => fun k => k == 1 || k == 2
  | .slice _ _ _ => fun k => k == 1 || k == 2
  | .make _ _ => fun _ => true
  | .call f _ => fun k => (k == 1 || k == 2) && tb.fresh f
  | _ => fun _ => false
def callRes (es : Es) (ds : List D) (env : Env) : CR → R D
  | .ok r outs => if lentOk es ds r && outs.all (lentOut es ds) then .ok r (putBack es outs env) else .err
  | .exc c outs => if outs.all (lentOut es ds) then .exc c (putBack es outs env) else .err
  | .err => .err
/-- an object made by its __init__ (self is the first inout) -/
def makeRes (es : Es) (ds : List D) (env : Env) : CR → R D
  | .ok .non (o :: outs) => if lentOk es ds o && outs.all (lentOut es ds) then .ok o (putBack es outs env) else .err
  | .ok _ _ => .err
  | .exc c (_ :: outs) => if outs.all (lentOut es ds) then .exc c (putBack es outs env) else .err
  | .exc _ [] => .err
  | .err => .err
def lcLoop (t : T) (turn : Env → R (Option D)) : List D → Env → List D → R (List D)
  | [], env, acc => .ok acc env
  | x :: xs, env, acc => match bindT t x (env.wipe t.slots) with
    | none => .err
    | some env1 => match turn env1 with
      | .ok none env2 => lcLoop t turn xs env2 acc
      | .ok (some y) env2 => if okLen (acc.length + 1) then lcLoop t turn xs env2 (acc ++ [y]) else .err
      | _ => .err
mutual
def evE : CF → E → Env → R D
  | _, .var i, env => R.of (env.get i) env
  | _, .own _, _ => .err
  | _, .con d, env => .ok d env
  | _, .glob g, env => R.of (tb.glob g) env
  | cf, .op o es, env => (evEs cf es env).bind fun ds env => match ds with
    | [x, y] => R.of (opD o x y) env
    | _ => .err
  | cf, .cmp c es, env => (evEs cf es env).bind fun ds env => match ds with
    | [x, y] => R.of ((cmpD c x y).map .bl) env
    | _ => .err
  | cf, .chain c1 c2 es c, env => (evEs cf es env).bind fun ds env => match ds with
    | [x, y] => match cmpD c1 x y with
      | some true => (evE cf c env).bind fun z env => R.of ((cmpD c2 y z).map .bl) env
      | some false => .ok (.bl false) env
      | none => .err
    | _ => .err
  | cf, .neg a, env => (evE cf a env).bind fun x env => match x with
    | .int i => .ok (.int (-i)) env
    | _ => .err
  | cf, .no a, env => (evE cf a env).bind fun x env => match x with
    | .bl q => .ok (.bl (!q)) env
    | _ => .err
  | cf, .and a b, env => (evE cf a env).bind fun x env => match x with
    | .bl true => evE cf b env
    | .bl false => .ok (.bl false) env
    | _ => .err
  | cf, .or a b, env => (evE cf a env).bind fun x env => match x with
    | .bl true => .ok (.bl true) env
    | .bl false => evE cf b env
    | _ => .err
  | cf, .ite c a b, env => (evE cf c env).bind fun x env => match x with
    | .bl true => evE cf a env
    | .bl false => evE cf b env
    | _ => .err
  | cf, .tup es, env => (evEs cf es env).bind fun ds env => if okLen ds.length then .ok (.tup ds) env else .err
  | cf, .lst es, env => (evEs cf es env).bind fun ds env => if okLen ds.length then .ok (.lst ds) env else .err
  | cf, .idx es, env => (evEs cf es env).bind fun ds env => match ds with
    | [x, y] => R.of (idxD x y) env
    | _ => .err
  | cf, .slice a lo hi, env => match lateOf a with
    | some i => (R.of (env.get i) env).bind fun _ env => (evP cf lo env).bind fun l env => (evP cf hi env).bind fun h env => (R.of (env.get i) env).bind fun d env => R.of (sliceD d l h) env
    | none => (evE cf a env).bind fun d env => (evP cf lo env).bind fun l env => (evP cf hi env).bind fun h env => R.of (sliceD d l h) env
  | cf, .bf f es, env => (evEs cf es env).bind fun ds env => R.of (bfD f ds) env
  | cf, .mm m i es, env => match env.get i with
    | some (.lst _) => (evEs cf es env).bind fun ds env => match env.get i with
      | some x => match mmD m x ds with
        | some r => .ok r.1 (env.put i r.2)
        | none => .err
      | none => .err
    | _ => .err
  | cf, .call f es, env => (evEs cf es env).bind fun ds env => callRes es ds env (cf.c 0 f ds)
  | cf, .meth m o es, env => match lateOf o with
    | some i => match env.get i with
      | some (.obj c _) => match tb.meth c m with
        | some f => (evEs cf es env).bind fun ds env => match env.get i with
          | some (.obj c' fs) => if c' = c then callRes (.cons o es) (.obj c' fs :: ds) env (cf.c 0 f (.obj c' fs :: ds)) else .err
          | _ => .err
        | none => .err
      | _ => .err
    | none => (evE cf o env).bind fun x env => match x with
      | .obj c fs => match tb.meth c m with
        | some f => (evEs cf es env).bind fun ds env => callRes (.cons o es) (.obj c fs :: ds) env (cf.c 0 f (.obj c fs :: ds))
        | none => .err
      | _ => .err
  | cf, .make c es, env => (evEs cf es env).bind fun ds env => match tb.init c with
    | some f => makeRes es ds env (cf.c 1 f (.obj c [] :: ds))
    | none => .err
  | _, .io _, _ => .err
  | _, .bor _, _ => .err
  | cf, .fld es f, env => (evEs cf es env).bind fun ds env => match ds with
    | [.obj c fs] => if tb.fld c f then R.of (fs.lookup f) env else .err
    | _ => .err
  | cf, .lm m o es, env => match lateOf o with
    | some i => match env.get i with
      | some (.lst _) => (evEs cf es env).bind fun ds env => (R.of (env.get i) env).bind fun d env => R.of (lmD m d ds) env
      | _ => .err
    | none => (evE cf o env).bind fun d env => if lmT m d then (evEs cf es env).bind fun ds env => R.of (lmD m d ds) env else .err
  | cf, .lc t it c e, env => (evI cf it env).bind fun xs env0 =>
      (lcLoop t (fun env1 => (evC cf c env1).bind fun q env2 => match q with
        | .bl true => (evE cf e env2).bind fun y env3 => .ok (some y) env3
        | .bl false => .ok none env2
        | _ => .err) xs env0 []).bind fun ys env => .ok (.lst ys) (env.back env0 t.slots)
  | cf, .told e, env => if 2 ≤ cf.lv then (match evE (low cf) e env with
    | .ok d env => .ok d env
    | .exc c env => match tb.told c with
      | some d => .ok d env
      | none => .err
    | .err => .err) else .err
  | cf, .pick ks es k, env => (evEs cf es env).bind fun ds env => (evE cf k env).bind fun x env => R.of (pickD ks ds x) env
def evC : CF → Option E → Env → R D
  | _, none, env => .ok (.bl true) env
  | cf, some c, env => evE cf c env
def evP : CF → Option E → Env → R (Option Int)
  | _, none, env => .ok none env
  | cf, some e, env => (evE cf e env).bind fun x env => match x with
    | .int i => .ok (some i) env
    | _ => .err
def evEs : CF → Es → Env → R (List D)
  | _, .nil, env => .ok [] env
  | cf, .cons e es, env => match lateOf e with
    | some i => (R.of (env.get i) env).bind fun _ env => (evEs cf es env).bind fun ds env => (R.of (env.get i) env).bind fun d env => .ok (d :: ds) env
    | none => (evE cf e env).bind fun d env => (evEs cf es env).bind fun ds env => .ok (d :: ds) env
def evI : CF → It → Env → R (List D)
  | cf, .seq e, env => (evE cf e env).bind fun d env => R.of (itemsD d) env
  | cf, .rng1 a, env => (evE cf a env).bind fun x env => match x with
    | .int j => if rngOk 0 j then .ok (rangeD 0 j) env else .err
    | _ => .err
  | cf, .rng2 es, env => (evEs cf es env).bind fun ds env => match ds with
    | [.int i, .int j] => if rngOk i j then .ok (rangeD i j) env else .err
    | _ => .err
  | cf, .enum e, env => (evE cf e env).bind fun d env => R.of ((itemsD d).map enumD) env
end
inductive O where
  | nx (e : Env) | ret (d : D) (e : Env) | brk (e : Env) | cont (e : Env) | exc (c : Nat) (e : Env) | err
def R.o {α : Type} : R α → (α → Env → O) → O
  | .ok a e, k => k a e
  | .exc c e, _ => .exc c e
  | .err, _ => .err
def whileL (c : Env → R D) (b : Env → O) : Nat → Env → O
  | 0, _ => .err
  | n + 1, env => (c env).o fun q env => match q with
    | .bl true => match b env with
      | .nx e => whileL c b n e
      | .cont e => whileL c b n e
      | .brk e => .nx e
      | r => r
    | .bl false => .nx env
    | _ => .err
def forL (t : T) (b : Env → O) : List D → Env → O
  | [], env => .nx env
  | x :: xs, env => match bindT t x env with
    | none => .err
    | some env => match b env with
      | .nx e => forL t b xs e
      | .cont e => forL t b xs e
      | .brk e => .nx e
      | r => r
/-- a slot is set; with fr: it owns from now on -/
def setO (fr : Bool) (nw : Nat → Bool) (env : Env) (i : Nat) (d : D) (k : Env → O) : O := if fr && !(nw (kindOf d) && !(kindOf d == 0)) then .err else k (env.put i d)
/-- what op= may do -/
def augD : Op2 → D → D → Option D
  | .add, .int i, .int j => some (.int (i + j))
  | .sub, .int i, .int j => some (.int (i - j))
  | _, _, _ => none
/-- a place of a list, counted from its start -/
def pickAt : D → D → Option D
  | .lst xs, .int n => if 0 ≤ n then xs[n.toNat]? else none
  | _, _ => none
/-- a place of an owned list is set -/
def setAt (i : Nat) (x y : D) (env : Env) : O := match env.get i with
  | some (.lst xs) => match x with
    | .int n => match ixN xs.length n with
      | some j => .nx (env.put i (.lst (xs.set j y)))
      | none => .err
    | _ => .err
  | _ => .err
def bindTg (cf : CF) : List Tg → List D → Env → O
  | .nm i :: ts, d :: ds, env => bindTg cf ts ds (env.put i d)
  | .ix i k :: ts, d :: ds, env => match env.get i with
    | none => .err
    | some _ => (evE tb cf k env).o fun x env => match setAt i x d env with
      | .nx env => bindTg cf ts ds env
      | _ => .err
  | _, _, env => .nx env
mutual
def evS (cf : CF) : S → Env → O
  | .set i e, env => (evE tb cf e env).o fun d env => .nx (env.put i d)
  | .thaw i e, env => (evE tb cf e env).o fun d env => setO true (isNew tb e) env i d .nx
  | .bind is e, env => (evE tb cf e env).o fun d env => match bindT (.many is) d env with
    | some env => .nx env
    | none => .err
  | .par2 i fi a j fj b, env => (evE tb cf a env).o fun x env => (evE tb cf b env).o fun y env => setO fi (isNew tb a) env i x fun env => setO fj (isNew tb b) env j y .nx
  | .aug i o e, env => match env.get i with
    | none => .err
    | some x => (evE tb cf e env).o fun y env => (R.of (augD o x y) env).o fun z env => .nx (env.put i z)
  | .setIx i k v, env => (evE tb cf v env).o fun y env => match env.get i with
    | none => .err
    | some _ => (evE tb cf k env).o fun x env => match env.get i with
      | some (.lst xs) => match x with
        | .int n => match ixN xs.length n with
          | some j => .nx (env.put i (.lst (xs.set j y)))
          | none => .err
        | _ => .err
      | _ => .err
  | .augIx i o k v, env => match env.get i with
    | none => .err
    | some _ => (evE tb cf k env).o fun x env => match env.get i with
      | some d => (R.of (pickAt d x) env).o fun z env => (evE tb cf v env).o fun y env => (R.of (augD o z y) env).o fun u env => setAt i x u env
      | none => .err
  | .bindX ts e, env => (evE tb cf e env).o fun d env => match d with
    | .tup xs => if xs.length = ts.length then bindTg tb cf ts xs env else .err
    | _ => .err
  | .par3 i fi a j fj b l fl c, env => (evE tb cf a env).o fun x env => (evE tb cf b env).o fun y env => (evE tb cf c env).o fun z env => setO fi (isNew tb a) env i x fun env => setO fj (isNew tb b) env j y fun env => setO fl (isNew tb c) env l z .nx
  | .setFld i f e, env => (evE tb cf e env).o fun y env => match env.get i with
    | some (.obj c fs) => if tb.fld c f && (decide (fs.length < 100) && (fs.lookup f).isNone) then .nx (env.put i (.obj c (fs ++ [(f, y)]))) else .err
    | _ => .err
  | .expr e, env => (evE tb cf e env).o fun _ env => .nx env
  | .ret e, env => (evE tb cf e env).o fun d env => .ret d env
  | .retO i, env => (R.of (env.get i) env).o fun d env => .ret d env
  | .raise c, env => .exc c env
  | .pass, env => .nx env
  | .brk, env => .brk env
  | .cont, env => .cont env
  | .ite c a b, env => (evE tb cf c env).o fun q env => match q with
    | .bl true => evSs cf a env
    | .bl false => evSs cf b env
    | _ => .err
  | .whil n c b, env => whileL (evE tb cf c) (evSs cf b) n env
  | .fors t it b, env => (evI tb cf it env).o fun xs env => forL t (evSs cf b) xs env
def evSs (cf : CF) : List S → Env → O
  | [], env => .nx env
  | s :: ss, env => match evS cf s env with
    | .nx env => evSs cf ss env
    | r => r
end
end

/-! ### defs -/
structure Def where
  np : Nat            -- parameters
  nl : Nat            -- names
  ow : List Nat     -- owned slots
  io : List Nat      -- inout parameters
  fr : Bool          -- what is handed back is new
  body : List S
structure Pg where
  tb : Tb
  defs : Nat → Option Def
def outsOf (env : Env) : List Nat → Option (List D)
  | [] => some []
  | i :: is => match env.get i, outsOf env is with
    | some d, some ds => some (d :: ds)
    | _, _ => none
def endD (df : Def) : O → CR
  | .ret r env => match outsOf env df.io with
    | some os => .ok r os
    | none => .err
  | .nx env => match outsOf env df.io with
    | some os => .ok .non os
    | none => .err
  | .exc c env => match outsOf env df.io with
    | some os => .exc c os
    | none => .err
  | _ => .err
def startE (df : Def) (ds : List D) : Env := ds.map some ++ List.replicate (df.nl - ds.length) none
def call1 (pg : Pg) (cf : CF) (f : Nat) (ds : List D) : CR := match pg.defs f with
  | none => .err
  | some df => if ds.length = df.np then endD df (evSs pg.tb cf df.body (startE df ds)) else .err
def lev (pg : Pg) : Nat → CF
  | 0 => ⟨0, fun _ => noC⟩
  | k + 1 => ⟨k + 1, fun j => match j with
    | 0 => call1 pg (lev pg k)
    | j + 1 => (lev pg k).c j⟩
theorem lev_lv (pg : Pg) (k : Nat) : (lev pg k).lv = k := by cases k <;> rfl
theorem lev_low (pg : Pg) (k : Nat) : low (lev pg (k + 2)) = lev pg k := by
  have h : low (lev pg (k + 2)) = ⟨k, (lev pg k).c⟩ := rfl
  rw [h]
  have h2 := lev_lv pg k
  generalize lev pg k = c at h2 ⊢
  cases c
  cases h2
  rfl
theorem lev_one (pg : Pg) (k : Nat) : (lev pg (k + 1)).c 1 = (lev pg k).c 0 := rfl
end Bh
/-! text Bh2 -/
set_option Elab.async false
set_option linter.all false
set_option maxRecDepth 100000
set_option maxHeartbeats 1000000
/-! Bh2: how data stand in the abstract heap. -/
namespace Bh
open PySem L2

/-- a tracked thing whose very object is told -/
def pin (a : Addr) (o : Obj) : HO := .ext fun h => h.get? a = some o
mutual
/-- a key as the library's nested key -/
def nk : D → NestedKey
  | .int i => .num i
  | .str s => .text ⟨s.toArray⟩
  | .tup xs => .tup (nks xs)
  | _ => .none
def nks : List D → List NestedKey
  | [] => []
  | x :: xs => nk x :: nks xs
end
/-- the program's facts that data lean on: the world, the written part, where the classes stand, the fields' names -/
structure Gx where
  w : World
  K : PySem.W.Frag
  ca : Nat → Addr
  fnm : Nat → Str

/-- a tuple of the written part -/
def KTup (K : PySem.W.Frag) (a : Addr) (vs : List V) : Prop :=
  ∃ (o : Obj) (its : Array Value) (n : Nat), K.lookup a = some o ∧ o.cls = .type "tuple" ∧ o.dict = none ∧ o.data = .seq its n ∧ its.size ≤ sizeLine ∧ Vals vs its.toList

mutual
/-- the value v is the data d in the abstract heap H, clear of what O tells -/
inductive FR (G : Gx) (H : Hp) (O : Addr → Prop) : V → D → Prop
  | non : FR G H O .non .non
  | bl (b : Bool) : FR G H O (.bl b) (.bl b)
  | int (i : Int) : FR G H O (.int i) (.int i)
  | str (s : List Nat) : FR G H O (.str ⟨s.toArray⟩) (.str s)
  | tup {a : Addr} {o : Obj} {vs : List V} {ds : List D} : H a = some (.frz o (.tup vs)) → o.dict = none → ¬ O a → FRs G H O vs ds → FR G H O (.ref a) (.tup ds)
  | tupk {a : Addr} {vs : List V} {ds : List D} : KTup G.K a vs → FRs G H O vs ds → FR G H O (.ref a) (.tup ds)
  | lst {a : Addr} {vs : List V} {ds : List D} : H a = some (.lst vs) → ¬ O a → FRs G H O vs ds → FR G H O (.ref a) (.lst ds)
  | dct {a : Addr} {o : Obj} {es : Array DictEntry} {ep : Nat} {kvs : List (D × D)} : H a = some (pin a o) → ¬ O a → o.ExactDict → o.data = .dict es ep → es.size ≤ sizeLine → (a == sysModules) = false →
      FRe G H O es.toList kvs → (kvs.map fun p => nk p.1).Nodup → FR G H O (.ref a) (.dct kvs)
  | obj {a dx : Addr} {c : Nat} {vs : List (Str × V)} {fs : List (Nat × D)} : H a = some (.ins (G.ca c) dx vs) → ¬ O a → FRf G H O vs fs → FR G H O (.ref a) (.obj c fs)
inductive FRs (G : Gx) (H : Hp) (O : Addr → Prop) : List V → List D → Prop
  | nil : FRs G H O [] []
  | cons {v : V} {vs : List V} {d : D} {ds : List D} : FR G H O v d → FRs G H O vs ds → FRs G H O (v :: vs) (d :: ds)
inductive FRe (G : Gx) (H : Hp) (O : Addr → Prop) : List DictEntry → List (D × D) → Prop
  | nil : FRe G H O [] []
  | cons {e : DictEntry} {es : List DictEntry} {k v : V} {dk dv : D} {r : List (D × D)} : e.hash = (nk dk).hash G.w → RelV k e.key → FR G H O k dk → RelV v e.val → FR G H O v dv → FRe G H O es r → FRe G H O (e :: es) ((dk, dv) :: r)
inductive FRf (G : Gx) (H : Hp) (O : Addr → Prop) : List (Str × V) → List (Nat × D) → Prop
  | nil : FRf G H O [] []
  | cons {f : Nat} {v : V} {vs : List (Str × V)} {d : D} {fs : List (Nat × D)} : FR G H O v d → FRf G H O vs fs → FRf G H O ((G.fnm f, v) :: vs) ((f, d) :: fs)
end

/-- no table of code objects -/
def Nt (o : HO) : Prop := ∀ ps, o ≠ .tbl ps
/-- something stands there, no table -/
def Av (H : Hp) (a : Addr) : Prop := ∃ o, H a = some o ∧ Nt o
theorem Av.none {H : Hp} {a : Addr} (n : H a = none) : ¬ Av H a := fun ⟨o, h, _⟩ => by rw [n] at h; cases h
/-- from (H, O) on to (H', O'): what is clear of O stands; O' tells no more than O, but for what is new -/
structure Stp (H : Hp) (O : Addr → Prop) (H' : Hp) (O' : Addr → Prop) : Prop where
  keep : ∀ a o, H a = some o → Nt o → ¬ O a → H' a = some o
  sub : ∀ a, O' a → O a ∨ ¬ Av H a
  dom : ∀ a, Av H a → Av H' a

section
variable {G : Gx} {H H' : Hp} {O O' : Addr → Prop}
theorem Stp.clear (s : Stp H O H' O') {a : Addr} {o : HO} (e : H a = some o) (t : Nt o) (n : ¬ O a) : ¬ O' a := fun z => by
  rcases s.sub a z with q | q
  · exact n q
  · exact q ⟨o, e, t⟩
mutual
theorem FR.carry (s : Stp H O H' O') : ∀ {v : V} {d : D}, FR G H O v d → FR G H' O' v d
  | _, _, .non => .non
  | _, _, .bl b => .bl b
  | _, _, .int i => .int i
  | _, _, .str x => .str x
  | _, _, .tup e hd n r => .tup (s.keep _ _ e (fun _ z => nomatch z) n) hd (s.clear e (fun _ z => nomatch z) n) (FRs.carry s r)
  | _, _, .tupk k r => .tupk k (FRs.carry s r)
  | _, _, .lst e n r => .lst (s.keep _ _ e (fun _ z => nomatch z) n) (s.clear e (fun _ z => nomatch z) n) (FRs.carry s r)
  | _, _, .dct e n h1 h2 h3 h4 r h5 => .dct (s.keep _ _ e (fun _ z => nomatch z) n) (s.clear e (fun _ z => nomatch z) n) h1 h2 h3 h4 (FRe.carry s r) h5
  | _, _, .obj e n r => .obj (s.keep _ _ e (fun _ z => nomatch z) n) (s.clear e (fun _ z => nomatch z) n) (FRf.carry s r)
theorem FRs.carry (s : Stp H O H' O') : ∀ {v : List V} {d : List D}, FRs G H O v d → FRs G H' O' v d
  | _, _, .nil => .nil
  | _, _, .cons a b => .cons (FR.carry s a) (FRs.carry s b)
theorem FRe.carry (s : Stp H O H' O') : ∀ {v : List DictEntry} {d : List (D × D)}, FRe G H O v d → FRe G H' O' v d
  | _, _, .nil => .nil
  | _, _, .cons h a k b m r => .cons h a (FR.carry s k) b (FR.carry s m) (FRe.carry s r)
theorem FRf.carry (s : Stp H O H' O') : ∀ {v : List (Str × V)} {d : List (Nat × D)}, FRf G H O v d → FRf G H' O' v d
  | _, _, .nil => .nil
  | _, _, .cons a b => .cons (FR.carry s a) (FRf.carry s b)
end
theorem FRs.length : ∀ {v : List V} {d : List D}, FRs G H O v d → v.length = d.length
  | _, _, .nil => rfl
  | _, _, .cons _ b => by simp [FRs.length b]
theorem FRe.length : ∀ {v : List DictEntry} {d : List (D × D)}, FRe G H O v d → v.length = d.length
  | _, _, .nil => rfl
  | _, _, .cons _ _ _ _ _ b => by simp [FRe.length b]
theorem FRs.get : ∀ {vs : List V} {ds : List D} {i : Nat} {d : D}, FRs G H O vs ds → ds[i]? = some d → ∃ v, vs[i]? = some v ∧ FR G H O v d
  | _, _, _, _, .nil, e => by simp at e
  | _, _, 0, _, .cons a _, e => by simp at e; subst e; exact ⟨_, rfl, a⟩
  | _, _, i + 1, _, .cons _ b, e => by
    obtain ⟨v, h1, h2⟩ := FRs.get (i := i) b (by simpa using e)
    exact ⟨v, by simpa using h1, h2⟩
theorem FRs.app : ∀ {vs us : List V} {ds es : List D}, FRs G H O vs ds → FRs G H O us es → FRs G H O (vs ++ us) (ds ++ es)
  | _, _, _, _, .nil, h => h
  | _, _, _, _, .cons a b, h => .cons a (FRs.app b h)
theorem FRs.take : ∀ {vs : List V} {ds : List D} (n : Nat), FRs G H O vs ds → FRs G H O (vs.take n) (ds.take n)
  | _, _, 0, _ => .nil
  | _, _, _ + 1, .nil => .nil
  | _, _, n + 1, .cons a b => .cons a (FRs.take n b)
theorem FRs.drop : ∀ {vs : List V} {ds : List D} (n : Nat), FRs G H O vs ds → FRs G H O (vs.drop n) (ds.drop n)
  | _, _, 0, h => h
  | _, _, _ + 1, .nil => .nil
  | _, _, n + 1, .cons _ b => FRs.drop n b
theorem FRs.set {v : V} {d : D} (r : FR G H O v d) : ∀ {vs : List V} {ds : List D} (i : Nat), FRs G H O vs ds → FRs G H O (vs.set i v) (ds.set i d)
  | _, _, _, .nil => .nil
  | _, _, 0, .cons _ b => .cons r b
  | _, _, i + 1, .cons a b => .cons a (FRs.set r i b)
theorem FRs.erase : ∀ {vs : List V} {ds : List D} (i : Nat), FRs G H O vs ds → FRs G H O (vs.eraseIdx i) (ds.eraseIdx i)
  | _, _, _, .nil => by simp; exact .nil
  | _, _, 0, .cons _ b => by simpa using b
  | _, _, i + 1, .cons a b => by simpa using FRs.cons a (FRs.erase i b)
theorem FRs.one {v : V} {d : D} (h : FR G H O v d) : FRs G H O [v] [d] := .cons h .nil
theorem FRs.of_one {vs : List V} {d : D} (h : FRs G H O vs [d]) : ∃ v, vs = [v] ∧ FR G H O v d := by
  cases h with
  | cons a b => cases b; exact ⟨_, rfl, a⟩
theorem FRs.of_two {vs : List V} {d e : D} (h : FRs G H O vs [d, e]) : ∃ v u, vs = [v, u] ∧ FR G H O v d ∧ FR G H O u e := by
  cases h with
  | cons a b =>
    obtain ⟨u, rfl, r⟩ := FRs.of_one b
    exact ⟨_, _, rfl, a, r⟩
theorem FRf.look : ∀ {vs : List (Str × V)} {fs : List (Nat × D)} {f : Nat} {d : D}, (∀ g, G.fnm f = G.fnm g → f = g) → FRf G H O vs fs → fs.lookup f = some d → ∃ v, vs.lookup (G.fnm f) = some v ∧ FR G H O v d
  | _, _, f, _, inj, .nil, e => by simp at e
  | _, _, f, _, inj, .cons (f := g) a b, e => by
    rw [List.lookup_cons] at e ⊢
    by_cases h : f = g
    · subst h
      simp at e ⊢
      subst e
      exact a
    · have h1 : (f == g) = false := by simpa using h
      have h2 : (G.fnm f == G.fnm g) = false := by simpa using fun q => h (inj g q)
      rw [h1] at e
      rw [h2]
      exact FRf.look inj b e
theorem FRf.length : ∀ {v : List (Str × V)} {d : List (Nat × D)}, FRf G H O v d → v.length = d.length
  | _, _, .nil => rfl
  | _, _, .cons _ b => by simp [FRf.length b]
theorem FRf.noLook : ∀ {vs : List (Str × V)} {fs : List (Nat × D)} {x : Str}, (∀ g, G.fnm g ≠ x) → FRf G H O vs fs → vs.lookup x = none
  | _, _, _, _, .nil => rfl
  | _, _, x, ne, .cons (f := g) a b => by
    rw [List.lookup_cons]
    have h2 : (x == G.fnm g) = false := by simpa using fun q => ne g q.symm
    rw [h2]
    exact FRf.noLook ne b
end
end Bh
/-! text Bh3 -/
set_option Elab.async false
set_option linter.all false
set_option maxRecDepth 100000
set_option maxHeartbeats 1000000
/-! Bh3: a frame's invariant; what is read, lent, made. -/
namespace Bh
open PySem L2

/-- what stands at p, where p itself may be owned -/
inductive Cont (G : Gx) (H : Hp) (O : Addr → Prop) (p : Addr) : D → Prop
  | lst {vs : List V} {ds : List D} : H p = some (.lst vs) → FRs G H O vs ds → Cont G H O p (.lst ds)
  | dct {o : Obj} {es : Array DictEntry} {ep : Nat} {kvs : List (D × D)} : H p = some (pin p o) → o.ExactDict → o.data = .dict es ep → es.size ≤ sizeLine → (p == sysModules) = false →
      FRe G H O es.toList kvs → (kvs.map fun q => nk q.1).Nodup → Cont G H O p (.dct kvs)
  | obj {dx : Addr} {c : Nat} {vs : List (Str × V)} {fs : List (Nat × D)} : H p = some (.ins (G.ca c) dx vs) → FRf G H O vs fs → Cont G H O p (.obj c fs)
section
variable {G : Gx} {H H' : Hp} {O O' : Addr → Prop} {p : Addr} {d : D}
theorem Cont.fr (h : Cont G H O p d) (n : ¬ O p) : FR G H O (.ref p) d := by
  cases h with
  | lst e r => exact .lst e n r
  | dct e h1 h2 h3 h4 r h5 => exact .dct e n h1 h2 h3 h4 r h5
  | obj e r => exact .obj e n r
theorem Cont.av (h : Cont G H O p d) : Av H p := by
  cases h with
  | lst e r => exact ⟨_, e, fun _ z => nomatch z⟩
  | dct e h1 h2 h3 h4 r h5 => exact ⟨_, e, fun _ z => nomatch z⟩
  | obj e r => exact ⟨_, e, fun _ z => nomatch z⟩
theorem Cont.carry (s : Stp H O H' O') (k : H' p = H p) (h : Cont G H O p d) : Cont G H' O' p d := by
  cases h with
  | lst e r => exact .lst (k.trans e) (r.carry s)
  | dct e h1 h2 h3 h4 r h5 => exact .dct (k.trans e) h1 h2 h3 h4 (r.carry s) h5
  | obj e r => exact .obj (k.trans e) (r.carry s)
end

/-- what is lent for reading: data, or what is owned -/
def BR (G : Gx) (H : Hp) (O : Addr → Prop) (v : V) (d : D) : Prop := FR G H O v d ∨ ∃ p, v = .ref p ∧ Cont G H O p d
inductive BRs (G : Gx) (H : Hp) (O : Addr → Prop) : List V → List D → Prop
  | nil : BRs G H O [] []
  | cons {v : V} {vs : List V} {d : D} {ds : List D} : BR G H O v d → BRs G H O vs ds → BRs G H O (v :: vs) (d :: ds)
section
variable {G : Gx} {H H' : Hp} {O O' : Addr → Prop} {v : V}
theorem BR.int {i : Int} (h : BR G H O v (.int i)) : v = .int i := by
  rcases h with h | ⟨p, _, h⟩
  · cases h; rfl
  · cases h
theorem BR.bl {i : Bool} (h : BR G H O v (.bl i)) : v = .bl i := by
  rcases h with h | ⟨p, _, h⟩
  · cases h; rfl
  · cases h
theorem BR.non (h : BR G H O v .non) : v = .non := by
  rcases h with h | ⟨p, _, h⟩
  · cases h; rfl
  · cases h
theorem BR.str {s : List Nat} (h : BR G H O v (.str s)) : v = .str ⟨s.toArray⟩ := by
  rcases h with h | ⟨p, _, h⟩
  · cases h; rfl
  · cases h
theorem BR.lst {ds : List D} (h : BR G H O v (.lst ds)) : ∃ p vs, v = .ref p ∧ H p = some (.lst vs) ∧ FRs G H O vs ds := by
  rcases h with h | ⟨p, rfl, h⟩
  · cases h with | lst e n r => exact ⟨_, _, rfl, e, r⟩
  · cases h with | lst e r => exact ⟨_, _, rfl, e, r⟩
theorem KTup.sq {K : PySem.W.Frag} {a : Addr} {vs : List V} (h : KTup K a vs) : SqT K H a vs :=
  let ⟨o, its, n, h1, h2, _, h4, h5, h6⟩ := h
  .inr ⟨o, its, n, h1, h2, h4, h5, h6⟩
theorem sqF {K : PySem.W.Frag} {a : Addr} {o : Obj} {vs : List V} (e : H a = some (.frz o (.tup vs))) : SqT K H a vs := .inl (.inr ⟨o, e⟩)
theorem BR.tup {ds : List D} (h : BR G H O v (.tup ds)) : ∃ p vs, v = .ref p ∧ SqT G.K H p vs ∧ FRs G H O vs ds := by
  rcases h with h | ⟨p, rfl, h⟩
  · cases h with
    | tup e hd n r => exact ⟨_, _, rfl, sqF e, r⟩
    | tupk k r => exact ⟨_, _, rfl, k.sq, r⟩
  · cases h
theorem BR.dct {kvs : List (D × D)} (h : BR G H O v (.dct kvs)) : ∃ p, v = .ref p ∧ Cont G H O p (.dct kvs) := by
  rcases h with h | ⟨p, rfl, h⟩
  · cases h with | dct e n h1 h2 h3 h4 r h5 => exact ⟨_, rfl, .dct e h1 h2 h3 h4 r h5⟩
  · exact ⟨p, rfl, h⟩
theorem BR.obj {c : Nat} {fs : List (Nat × D)} (h : BR G H O v (.obj c fs)) : ∃ p dx vs, v = .ref p ∧ H p = some (.ins (G.ca c) dx vs) ∧ FRf G H O vs fs := by
  rcases h with h | ⟨p, rfl, h⟩
  · cases h with | obj e n r => exact ⟨_, _, _, rfl, e, r⟩
  · cases h with | obj e r => exact ⟨_, _, _, rfl, e, r⟩
theorem BRs.of_one {vs : List V} {d : D} (h : BRs G H O vs [d]) : ∃ v, vs = [v] ∧ BR G H O v d := by
  cases h with
  | cons a b => cases b; exact ⟨_, rfl, a⟩
theorem BRs.of_two {vs : List V} {d e : D} (h : BRs G H O vs [d, e]) : ∃ v u, vs = [v, u] ∧ BR G H O v d ∧ BR G H O u e := by
  cases h with
  | cons a b =>
    obtain ⟨u, rfl, r⟩ := BRs.of_one b
    exact ⟨_, _, rfl, a, r⟩
theorem BRs.length : ∀ {vs : List V} {ds : List D}, BRs G H O vs ds → vs.length = ds.length
  | _, _, .nil => rfl
  | _, _, .cons _ b => by simp [BRs.length b]
end

/-- all that was tracked stands -/
abbrev Ext (H H' : Hp) : Prop := Same H H'
theorem Ext.upd {H : Hp} {p : Addr} {o : HO} (n : H p = none) : Ext H (upd H p o) := fun a u e => by rw [upd_ne (ne_of_none e n)]; exact e
def Live (H : Hp) (O : Addr → Prop) : Prop := ∀ a, O a → Av H a
theorem Ext.dom {H H' : Hp} (e : Ext H H') (a : Addr) (n : Av H a) : Av H' a := let ⟨o, h, t⟩ := n; ⟨o, e a o h, t⟩
theorem Ext.stp {H H' : Hp} {O : Addr → Prop} (e : Ext H H') : Stp H O H' O := ⟨fun a o h _ _ => e a o h, fun a z => .inl z, e.dom⟩
theorem Stp.mono {H : Hp} {O O' : Addr → Prop} (h : ∀ a, O' a → O a) : Stp H O H O' := ⟨fun _ _ e _ _ => e, fun a z => .inl (h a z), fun _ n => n⟩
theorem Stp.refl {H : Hp} {O : Addr → Prop} : Stp H O H O := .mono fun _ z => z
theorem Stp.trans {H H1 H2 : Hp} {O O1 O2 : Addr → Prop} (a : Stp H O H1 O1) (b : Stp H1 O1 H2 O2) : Stp H O H2 O2 where
  keep := fun x o e t n => b.keep x o (a.keep x o e t n) t (a.clear e t n)
  sub := fun x z => by
    rcases b.sub x z with q | q
    · exact a.sub x q
    · exact .inr fun y => q (a.dom x y)
  dom := fun x n => b.dom x (a.dom x n)
theorem av_upd {H : Hp} {p : Addr} {o : HO} (t : Nt o) (a : Addr) (m : Av H a) : Av (upd H p o) a := by
  by_cases q : a = p
  · rw [q]; exact ⟨o, upd_same, t⟩
  · obtain ⟨u, h, t'⟩ := m; exact ⟨u, by rw [upd_ne q]; exact h, t'⟩

theorem pin_code {p : Addr} {o : Obj} {es : Array DictEntry} {ep : Nat} {q : Str} (hd : o.data = .dict es ep) : some (pin p o) ≠ some (LamX.CodeO p q) := fun z => by
  have z1 := Option.some.inj z
  unfold pin LamX.CodeO at z1
  have z2 := congrFun (HO.ext.inj z1) (({ objs := Array.replicate p default } : Heap).push { cls := .none, data := .fields #[.none, .str q 0] })
  have e1 : (({ objs := Array.replicate p default } : Heap).push { cls := .none, data := .fields #[.none, .str q 0] }).get? p = some { cls := .none, data := .fields #[.none, .str q 0] } := Heap.get?_push_at (by simp) rfl
  have z3 := z2.mpr ⟨_, _, 0, e1, rfl, rfl⟩
  rw [e1] at z3
  cases z3
  cases hd
/-- neither a table nor a code object stands there -/
structure Plc (H : Hp) (p : Addr) : Prop where
  tbl : ∀ ps, H p ≠ some (.tbl ps)
  code : ∀ q, H p ≠ some (LamX.CodeO p q)
theorem Cont.plc {G : Gx} {H : Hp} {O : Addr → Prop} {p : Addr} {d : D} (h : Cont G H O p d) : Plc H p := by
  cases h with
  | lst e r => exact ⟨fun ps z => (by rw [e] at z; cases z), fun q z => (by rw [e] at z; cases z)⟩
  | dct e h1 h2 h3 h4 r h5 => exact ⟨fun ps z => (by rw [e] at z; cases z), fun q z => (by rw [e] at z; exact pin_code h2 z)⟩
  | obj e r => exact ⟨fun ps z => (by rw [e] at z; cases z), fun q z => (by rw [e] at z; cases z)⟩
theorem tabs_off {T : List (Addr × Str)} {H H' : Hp} {p : Addr} (t : LamX.Tabs T H) (c : Plc H p) (k : ∀ a o, H a = some o → a ≠ p → H' a = some o) : LamX.Tabs T H' := fun q hq => by
  obtain ⟨ps, h1, h2, h3⟩ := t q hq
  refine ⟨ps, k _ _ h1 (fun z => c.tbl ps (z ▸ h1)), h2, fun pos cv hc => ?_⟩
  obtain ⟨x, e1, e2⟩ := h3 pos cv hc
  exact ⟨x, e1, k _ _ e2 (fun z => by subst z; exact c.code _ e2)⟩

/-- a frame: the slots that own, what may be changed besides (inout parameters, by slot), the tables, what no data may touch (at the entry; now), the heap at its entry -/
structure Fm where
  G : Gx
  ow : List Nat
  Ip : List (Nat × Addr)
  T : List (Addr × Str)
  Oe : Addr → Prop
  Ox : Addr → Prop
  H0 : Hp
  Ex : List (V × D)
def ownA (ow : List Nat) (σ : St) (env : Env) (a : Addr) : Prop := ∃ i, i ∈ ow ∧ (∃ d, env.get i = some d) ∧ σ[i]? = some (some (.ref a))
def OO (F : Fm) (σ : St) (env : Env) (a : Addr) : Prop := F.Ox a ∨ ownA F.ow σ env a
/-- the frame in which p is not to be touched either -/
def Fm.guard (F : Fm) (p : Addr) : Fm := { F with Ox := fun a => F.Ox a ∨ a = p }

structure FI (F : Fm) (σ : St) (H : Hp) (env : Env) : Prop where
  len : env.length = σ.length
  fr : ∀ i d, env.get i = some d → i ∉ F.ow → ∃ v, σ[i]? = some (some v) ∧ FR F.G H (OO F σ env) v d
  own : ∀ i d, env.get i = some d → i ∈ F.ow → ∃ p, σ[i]? = some (some (.ref p)) ∧ Cont F.G H (OO F σ env) p d ∧ ((∃ j, (j, p) ∈ F.Ip) ∨ ¬ Av F.H0 p)
  dist : ∀ i j p, i ∈ F.ow → j ∈ F.ow → (∃ d, env.get i = some d) → (∃ d, env.get j = some d) → σ[i]? = some (some (.ref p)) → σ[j]? = some (some (.ref p)) → i = j
  kp : ∀ a o, F.H0 a = some o → (∀ j, (j, a) ∉ F.Ip) → Nt o → H a = some o
  live : Live H F.Ox
  ip : ∀ q ∈ F.Ip, q.1 ∈ F.ow ∧ F.Oe q.2 ∧ σ[q.1]? = some (some (.ref q.2)) ∧ ∃ d, env.get q.1 = some d
  live0 : Live F.H0 F.Oe
  oe : ∀ a, F.Oe a → F.Ox a
  sub : ∀ a, Av F.H0 a → Av H a
  tabs : LamX.Tabs F.T H
  ex : ∀ q ∈ F.Ex, FR F.G H (OO F σ env) q.1 q.2

/-- from (H, env) to (H', env') within a frame, the slots as they are -/
structure Post (F : Fm) (σ : St) (H : Hp) (env : Env) (H' : Hp) (env' : Env) : Prop where
  fi : FI F σ H' env'
  stp : Stp H (OO F σ env) H' (OO F σ env')
  ow : ∀ a, ownA F.ow σ env' a → ownA F.ow σ env a
  kx : ∀ a o, H a = some o → ¬ ownA F.ow σ env a → Nt o → H' a = some o

section
variable {F : Fm} {σ : St} {H H1 H2 : Hp} {env env1 env2 : Env}
theorem FI.alive (I : FI F σ H env) : Live H (OO F σ env) := fun a z => by
  rcases z with z | ⟨i, hi, ⟨d, hd⟩, hs⟩
  · exact I.live a z
  · obtain ⟨p, h1, h2, _⟩ := I.own i d hd hi
    rw [h1] at hs
    cases hs
    exact h2.av
theorem FI.free (I : FI F σ H env) {p : Addr} (n : ¬ Av H p) : ¬ OO F σ env p := fun z => n (I.alive p z)
theorem Post.refl (I : FI F σ H env) : Post F σ H env H env := ⟨I, .refl, fun _ z => z, fun _ _ h _ _ => h⟩
theorem Post.os (P : Post F σ H env H1 env1) (a : Addr) (z : OO F σ env1 a) : OO F σ env a := z.imp id (P.ow a)
theorem Post.trans (a : Post F σ H env H1 env1) (b : Post F σ H1 env1 H2 env2) : Post F σ H env H2 env2 := ⟨b.fi, a.stp.trans b.stp, fun x z => a.ow x (b.ow x z), fun x o h n t => b.kx x o (a.kx x o h n t) (fun z => n (a.ow x z)) t⟩
/-- something new is laid -/
theorem FI.ext (I : FI F σ H env) (e : Ext H H1) : FI F σ H1 env where
  len := I.len
  fr := fun i d h n => let ⟨v, a, b⟩ := I.fr i d h n; ⟨v, a, b.carry e.stp⟩
  own := fun i d h n => by
    obtain ⟨p, a, b, c⟩ := I.own i d h n
    refine ⟨p, a, ?_, c⟩
    obtain ⟨o, ho, _⟩ := b.av
    exact b.carry e.stp ((e p o ho).trans ho.symm)
  dist := I.dist
  kp := fun a o h n t => e a o (I.kp a o h n t)
  live := fun a z => e.dom a (I.live a z)
  ip := I.ip
  live0 := I.live0
  oe := I.oe
  sub := fun a h => e.dom a (I.sub a h)
  tabs := I.tabs.ext e
  ex := fun q hq => (I.ex q hq).carry e.stp
theorem FI.post (I : FI F σ H env) (e : Ext H H1) : Post F σ H env H1 env := ⟨I.ext e, e.stp, fun _ z => z, fun a o h _ _ => e a o h⟩

theorem get_put {env : Env} {i j : Nat} {d : D} (h : i < env.length) : (env.put i d).get j = if j = i then some d else env.get j := by
  unfold Env.get Env.put
  by_cases e : j = i
  · subst e
    rw [if_pos rfl, List.getElem?_set_self h]
    rfl
  · rw [if_neg e, List.getElem?_set_ne (Ne.symm e)]
theorem get_off {env : Env} {i j : Nat} : Env.get (env.set i none) j = if j = i then none else env.get j := by
  unfold Env.get
  by_cases e : j = i
  · subst e
    rw [if_pos rfl]
    by_cases h : j < env.length
    · rw [List.getElem?_set_self h]; rfl
    · rw [List.getElem?_eq_none (by simpa using h)]; rfl
  · rw [if_neg e, List.getElem?_set_ne (Ne.symm e)]
theorem get_lt {env : Env} {i : Nat} {d : D} (h : env.get i = some d) : i < env.length := by
  unfold Env.get at h
  by_cases q : i < env.length
  · exact q
  · rw [List.getElem?_eq_none (by omega)] at h
    cases h
theorem put_len {env : Env} {i : Nat} {d : D} : (env.put i d).length = env.length := by unfold Env.put; rw [List.length_set]

/-- OO behind a change of the content of a slot that owns -/
theorem oo_put {i : Nat} {d d' : D} (hg : env.get i = some d) (a : Addr) : OO F σ (env.put i d') a ↔ OO F σ env a := by
  have hl := get_lt hg
  unfold OO ownA
  constructor
  · rintro (z | ⟨j, hj, ⟨e, he⟩, h⟩)
    · exact .inl z
    · rw [get_put hl] at he
      by_cases q : j = i
      · subst q; exact .inr ⟨j, hj, ⟨d, hg⟩, h⟩
      · rw [if_neg q] at he; exact .inr ⟨j, hj, ⟨e, he⟩, h⟩
  · rintro (z | ⟨j, hj, ⟨e, he⟩, h⟩)
    · exact .inl z
    · refine .inr ⟨j, hj, ?_, h⟩
      rw [get_put hl]
      by_cases q : j = i
      · rw [if_pos q]; exact ⟨_, rfl⟩
      · rw [if_neg q]; exact ⟨e, he⟩

/-- from H to H1 all stands but at p, which the slot i owns: there d' stands now -/
theorem FI.chg (I : FI F σ H env) {i : Nat} {p : Addr} {d d' : D} (hi : i ∈ F.ow) (hg : env.get i = some d) (hs : σ[i]? = some (some (.ref p)))
    (k : ∀ a o, H a = some o → a ≠ p → H1 a = some o) (hc : Cont F.G H1 (OO F σ env) p d') : Post F σ H env H1 (env.put i d') := by
  have hl := get_lt hg
  have hp : OO F σ env p := .inr ⟨i, hi, ⟨d, hg⟩, hs⟩
  have hO : ∀ a, OO F σ (env.put i d') a ↔ OO F σ env a := oo_put hg
  have dm : ∀ a, Av H a → Av H1 a := fun a n => by
    by_cases q : a = p
    · rw [q]; exact hc.av
    · obtain ⟨o, ho, t⟩ := n
      exact ⟨o, k a o ho q, t⟩
  have st : Stp H (OO F σ env) H1 (OO F σ (env.put i d')) := ⟨fun a o e _ n => k a o e (fun z => n (by rw [z]; exact hp)), fun a z => .inl ((hO a).mp z), dm⟩
  have st2 : Stp H1 (OO F σ env) H1 (OO F σ (env.put i d')) := .mono fun a z => (hO a).mp z
  obtain ⟨p0, h1, h2, h3⟩ := I.own i d hg hi
  rw [hs] at h1
  cases h1
  have hown : ∀ a, ownA F.ow σ (env.put i d') a → ownA F.ow σ env a := fun a ⟨j, hj, ⟨e, he⟩, h⟩ => by
    rw [get_put hl] at he
    by_cases q : j = i
    · subst q; exact ⟨j, hj, ⟨d, hg⟩, h⟩
    · rw [if_neg q] at he; exact ⟨j, hj, ⟨e, he⟩, h⟩
  refine ⟨⟨?_, ?_, ?_, ?_, ?_, ?_, ?_, I.live0, I.oe, ?_, ?_, fun q hq => (I.ex q hq).carry st⟩, st, hown, fun a o h n t => k a o h fun z => n (z ▸ ⟨i, hi, ⟨d, hg⟩, hs⟩)⟩
  · rw [put_len]; exact I.len
  · intro j e he hj
    rw [get_put hl] at he
    have q : j ≠ i := fun z => hj (z ▸ hi)
    rw [if_neg q] at he
    obtain ⟨v, a, b⟩ := I.fr j e he hj
    exact ⟨v, a, b.carry st⟩
  · intro j e he hj
    rw [get_put hl] at he
    by_cases q : j = i
    · subst q
      rw [if_pos rfl] at he
      cases he
      exact ⟨p, hs, hc.carry st2 rfl, h3⟩
    · rw [if_neg q] at he
      obtain ⟨r, a, b, c⟩ := I.own j e he hj
      have ne : r ≠ p := fun z => q (I.dist j i p hj hi ⟨e, he⟩ ⟨d, hg⟩ (z ▸ a) hs)
      obtain ⟨o, ho, _⟩ := b.av
      exact ⟨r, a, b.carry st ((k r o ho ne).trans ho.symm), c⟩
  · rintro j k r hj hk ⟨e, he⟩ ⟨f, hf⟩ h1 h2
    refine I.dist j k r hj hk ?_ ?_ h1 h2
    · rw [get_put hl] at he
      by_cases q : j = i
      · exact ⟨d, q ▸ hg⟩
      · rw [if_neg q] at he; exact ⟨e, he⟩
    · rw [get_put hl] at hf
      by_cases q : k = i
      · exact ⟨d, q ▸ hg⟩
      · rw [if_neg q] at hf; exact ⟨f, hf⟩
  · intro a o e n t
    have ne : a ≠ p := fun z => by
      rcases h3 with ⟨j, hj⟩ | hn
      · exact n j (z ▸ hj)
      · exact hn (z ▸ ⟨o, e, t⟩)
    exact k a o (I.kp a o e n t) ne
  · exact fun a z => dm a (I.live a z)
  · intro q hq
    obtain ⟨a, b, c, e, he⟩ := I.ip q hq
    refine ⟨a, b, c, ?_⟩
    rw [get_put hl]
    by_cases z : q.1 = i
    · rw [if_pos z]; exact ⟨_, rfl⟩
    · rw [if_neg z]; exact ⟨e, he⟩
  · exact fun a h => dm a (I.sub a h)
  · exact tabs_off I.tabs h2.plc k
theorem FI.write (I : FI F σ H env) {i : Nat} {p : Addr} {d d' : D} {o' : HO} (hi : i ∈ F.ow) (hg : env.get i = some d) (hs : σ[i]? = some (some (.ref p)))
    (hc : Cont F.G (upd H p o') (OO F σ env) p d') : Post F σ H env (upd H p o') (env.put i d') :=
  I.chg hi hg hs (fun a o e ne => by rw [upd_ne ne]; exact e) hc

/-- other slots, the owning ones as they were -/
theorem FI.slots (I : FI F σ H env) {σ' : St} {env' : Env} (hl : env'.length = σ'.length) (ho : ∀ i, i ∈ F.ow → σ'[i]? = σ[i]? ∧ env'.get i = env.get i)
    (hf : ∀ i d, i ∉ F.ow → env'.get i = some d → ∃ v, σ'[i]? = some (some v) ∧ FR F.G H (OO F σ env) v d) : FI F σ' H env' ∧ ∀ a, OO F σ' env' a ↔ OO F σ env a := by
  have hO : ∀ a, OO F σ' env' a ↔ OO F σ env a := fun a => by
    unfold OO ownA
    constructor
    · rintro (z | ⟨j, hj, he, h⟩)
      · exact .inl z
      · rw [(ho j hj).1] at h
        rw [(ho j hj).2] at he
        exact .inr ⟨j, hj, he, h⟩
    · rintro (z | ⟨j, hj, he, h⟩)
      · exact .inl z
      · refine .inr ⟨j, hj, ?_, ?_⟩
        · rw [(ho j hj).2]; exact he
        · rw [(ho j hj).1]; exact h
  have st : Stp H (OO F σ env) H (OO F σ' env') := .mono fun a z => (hO a).mp z
  refine ⟨⟨hl, ?_, ?_, ?_, I.kp, I.live, ?_, I.live0, I.oe, I.sub, I.tabs, fun q hq => (I.ex q hq).carry st⟩, hO⟩
  · intro i d h n
    obtain ⟨v, a, b⟩ := hf i d n h
    exact ⟨v, a, b.carry st⟩
  · intro i d h n
    rw [(ho i n).2] at h
    obtain ⟨p, a, b, c⟩ := I.own i d h n
    exact ⟨p, by rw [(ho i n).1]; exact a, b.carry st rfl, c⟩
  · intro i j p hi hj h1 h2 h3 h4
    rw [(ho i hi).2] at h1
    rw [(ho j hj).2] at h2
    rw [(ho i hi).1] at h3
    rw [(ho j hj).1] at h4
    exact I.dist i j p hi hj h1 h2 h3 h4
  · intro q hq
    obtain ⟨a, b, c, e⟩ := I.ip q hq
    refine ⟨a, b, ?_, ?_⟩
    · rw [(ho _ a).1]; exact c
    · rw [(ho _ a).2]; exact e
/-- data are stored -/
theorem FI.put (I : FI F σ H env) {i : Nat} {v : V} {d : D} (hi : i ∉ F.ow) (hl : i < env.length) (r : FR F.G H (OO F σ env) v d) : FI F (σ.set i (some v)) H (env.put i d) ∧ ∀ a, OO F (σ.set i (some v)) (env.put i d) a ↔ OO F σ env a := by
  refine I.slots (by rw [put_len, List.length_set]; exact I.len) (fun j hj => ?_) fun j e hj he => ?_
  · have ne : j ≠ i := fun z => hi (z ▸ hj)
    rw [get_put hl, if_neg ne, List.getElem?_set_ne (Ne.symm ne)]
    exact ⟨rfl, rfl⟩
  · rw [get_put hl] at he
    by_cases ne : j = i
    · subst ne
      rw [if_pos rfl] at he
      cases he
      exact ⟨v, List.getElem?_set_self (by rw [← I.len]; exact hl), r⟩
    · rw [if_neg ne] at he
      rw [List.getElem?_set_ne (Ne.symm ne)]
      exact I.fr j e he hj

/-- p, which is new, is guarded -/
theorem FI.guard (I : FI F σ H env) {p : Addr} {o : HO} (n : H p = none) (ht : Nt o := by exact fun _ z => nomatch z) : FI (F.guard p) σ (upd H p o) env := by
  have I1 := I.ext (Ext.upd (o := o) n)
  have st : Stp H (OO F σ env) (upd H p o) (OO (F.guard p) σ env) := ⟨fun a u e _ _ => Ext.upd n a u e, fun a z => by
    rcases z with (z | z) | z
    · exact .inl (.inl z)
    · exact .inr (z ▸ Av.none n)
    · exact .inl (.inr z), (Ext.upd n).dom⟩
  refine ⟨I.len, fun i d h m => ?_, fun i d h m => ?_, I.dist, I1.kp, ?_, I.ip, I.live0, fun a z => .inl (I.oe a z), I1.sub, I1.tabs, fun q hq => (I.ex q hq).carry st⟩
  · obtain ⟨v, a, b⟩ := I.fr i d h m
    exact ⟨v, a, b.carry st⟩
  · obtain ⟨q, a, b, c⟩ := I.own i d h m
    obtain ⟨u, hu, _⟩ := b.av
    exact ⟨q, a, b.carry st ((Ext.upd n q u hu).trans hu.symm), c⟩
  · rintro a (z | z)
    · exact I1.live a z
    · rw [z]; exact ⟨o, upd_same, ht⟩
theorem guard_oo {p : Addr} (a : Addr) : OO (F.guard p) σ env a ↔ (OO F σ env a ∨ a = p) := by
  unfold OO
  show ((F.Ox a ∨ a = p) ∨ ownA F.ow σ env a) ↔ _
  constructor
  · rintro ((z | z) | z)
    · exact .inl (.inl z)
    · exact .inr z
    · exact .inl (.inr z)
  · rintro ((z | z) | z)
    · exact .inl (.inl z)
    · exact .inr z
    · exact .inl (.inr z)
theorem FI.unguard {p : Addr} (I : FI (F.guard p) σ H env) (oe : ∀ a, F.Oe a → F.Ox a) : FI F σ H env := by
  have st : Stp H (OO (F.guard p) σ env) H (OO F σ env) := .mono fun a z => (guard_oo a).mpr (.inl z)
  refine ⟨I.len, fun i d h m => ?_, fun i d h m => ?_, I.dist, I.kp, fun a z => I.live a (.inl z), I.ip, I.live0, oe, I.sub, I.tabs, fun q hq => (I.ex q hq).carry st⟩
  · obtain ⟨v, a, b⟩ := I.fr i d h m
    exact ⟨v, a, b.carry st⟩
  · obtain ⟨q, a, b, c⟩ := I.own i d h m
    exact ⟨q, a, b.carry st rfl, c⟩
/-- what is guarded is written -/
theorem FI.wrote {p : Addr} {o : HO} (I : FI (F.guard p) σ H env) (n : ¬ OO F σ env p) (c : Plc H p) (h0 : ¬ Av F.H0 p) (ht : Nt o := by exact fun _ z => nomatch z) : FI (F.guard p) σ (upd H p o) env := by
  have k : ∀ a u, H a = some u → a ≠ p → upd H p o a = some u := fun a u e ne => by rw [upd_ne ne]; exact e
  have hp : OO (F.guard p) σ env p := (guard_oo p).mpr (.inr rfl)
  have dm : ∀ a, Av H a → Av (upd H p o) a := fun a m => av_upd ht a m
  have st : Stp H (OO (F.guard p) σ env) (upd H p o) (OO (F.guard p) σ env) := ⟨fun a u e _ m => k a u e (fun z => m (z ▸ hp)), fun _ z => .inl z, dm⟩
  refine ⟨I.len, fun i d h m => ?_, fun i d h m => ?_, I.dist, fun a u e m t => ?_, fun a z => dm a (I.live a z), I.ip, I.live0, I.oe, fun a h => dm a (I.sub a h), tabs_off I.tabs c k, fun q hq => (I.ex q hq).carry st⟩
  · obtain ⟨v, a, b⟩ := I.fr i d h m
    exact ⟨v, a, b.carry st⟩
  · obtain ⟨q, a, b, c⟩ := I.own i d h m
    have ne : q ≠ p := fun z => n (.inr ⟨i, m, ⟨d, h⟩, z ▸ a⟩)
    exact ⟨q, a, b.carry st (upd_ne ne), c⟩
  · refine k a u (I.kp a u e m t) fun z => ?_
    have e' : F.H0 p = some u := z ▸ e
    exact h0 ⟨u, e', t⟩
/-- a new thing is owned by the slot i from now on -/
theorem FI.thaw {p : Addr} {i : Nat} {d : D} (I : FI (F.guard p) σ H env) (oe : ∀ a, F.Oe a → F.Ox a) (hi : i ∈ F.ow) (hl : i < env.length) (hq : ∀ q ∈ F.Ip, q.1 ≠ i) (n : ¬ OO F σ env p) (h0 : ¬ Av F.H0 p)
    (hc : Cont F.G H (OO (F.guard p) σ env) p d) : FI F (σ.set i (some (.ref p))) H (env.put i d) := by
  have hls : i < σ.length := by rw [← I.len]; exact hl
  have hO : ∀ a, OO F (σ.set i (some (.ref p))) (env.put i d) a → OO (F.guard p) σ env a := fun a z => by
    rw [guard_oo]
    rcases z with z | ⟨j, hj, ⟨e, he⟩, h⟩
    · exact .inl (.inl z)
    · by_cases q : j = i
      · subst q
        rw [List.getElem?_set_self hls] at h
        cases h
        exact .inr rfl
      · rw [get_put hl, if_neg q] at he
        rw [List.getElem?_set_ne (Ne.symm q)] at h
        exact .inl (.inr ⟨j, hj, ⟨e, he⟩, h⟩)
  have st : Stp H (OO (F.guard p) σ env) H (OO F (σ.set i (some (.ref p))) (env.put i d)) := .mono hO
  refine ⟨by rw [put_len, List.length_set]; exact I.len, fun j e he hj => ?_, fun j e he hj => ?_, ?_, I.kp, fun a z => I.live a (.inl z), fun q hq' => ?_, I.live0, oe, I.sub, I.tabs, fun q hq => (I.ex q hq).carry st⟩
  · have q : j ≠ i := fun z => hj (z ▸ hi)
    rw [get_put hl, if_neg q] at he
    obtain ⟨v, a, b⟩ := I.fr j e he hj
    exact ⟨v, by rw [List.getElem?_set_ne (Ne.symm q)]; exact a, b.carry st⟩
  · by_cases q : j = i
    · subst q
      rw [get_put hl, if_pos rfl] at he
      cases he
      exact ⟨p, List.getElem?_set_self hls, hc.carry st rfl, .inr h0⟩
    · rw [get_put hl, if_neg q] at he
      obtain ⟨r, a, b, c⟩ := I.own j e he hj
      exact ⟨r, by rw [List.getElem?_set_ne (Ne.symm q)]; exact a, b.carry st rfl, c⟩
  · rintro j k r hj hk ⟨e, he⟩ ⟨f, hf⟩ h1 h2
    by_cases q : j = i
    · by_cases q2 : k = i
      · rw [q, q2]
      · subst q
        rw [List.getElem?_set_self hls] at h1
        cases h1
        rw [get_put hl, if_neg q2] at hf
        rw [List.getElem?_set_ne (Ne.symm q2)] at h2
        exact (n (.inr ⟨k, hk, ⟨f, hf⟩, h2⟩)).elim
    · rw [get_put hl, if_neg q] at he
      rw [List.getElem?_set_ne (Ne.symm q)] at h1
      by_cases q2 : k = i
      · subst q2
        rw [List.getElem?_set_self hls] at h2
        cases h2
        exact (n (.inr ⟨j, hj, ⟨e, he⟩, h1⟩)).elim
      · rw [get_put hl, if_neg q2] at hf
        rw [List.getElem?_set_ne (Ne.symm q2)] at h2
        exact I.dist j k r hj hk ⟨e, he⟩ ⟨f, hf⟩ h1 h2
  · obtain ⟨a, b, c, e, he⟩ := I.ip q hq'
    have z : q.1 ≠ i := hq q hq'
    refine ⟨a, b, ?_, ?_⟩
    · rw [List.getElem?_set_ne (Ne.symm z)]; exact c
    · rw [get_put hl, if_neg z]; exact ⟨e, he⟩
end
end Bh
/-! text Bh3b -/
set_option Elab.async false
set_option linter.all false
set_option maxRecDepth 100000
set_option maxHeartbeats 1000000
/-! Bh3b: tuples made new, their very objects told. -/
namespace Bh
open PySem PySem.W L2 PyProof.Rows
section
variable {X : Cx} {e : Expr} {es : List Expr} {t : TA} {pos : Pos}
/-- a tuple with its object -/
abbrev fz (o : Obj) (vs : List V) : HO := .frz o (.tup vs)
theorem lay_tup {pins : List (Addr × Obj)} {σ : L2.St} {H : Hp} {s : Shared} {us : List Value} {vs : List V} {Q : VK} (J : Inv X pins σ H s) (rv : Vals vs us) (z : vs.length ≤ sizeLine) (q : ∀ p o, H p = none → o.dict = none → Q (.ref p) (upd H p (fz o vs))) :
    EP X pins σ Q (.ref s.heap.objs.size) { s with heap := s.heap.push { cls := .type "tuple", data := .seq us.toArray } } := by
  have g := Heap.get?_push_size s.heap (o := { cls := .type "tuple", data := .seq us.toArray }) rfl
  have J2 := J.laid (t' := s.toks) (o := fz { cls := .type "tuple", data := .seq us.toArray } vs) (fun b ob y => Heap.get?_push_of_some { cls := .type "tuple", data := .seq us.toArray } y) (Nat.le_refl _) ⟨g, z, us, rv, IsTup.new _ _⟩
  exact ⟨.ref s.heap.objs.size, _, J2, rfl, q _ _ (J.hok.fresh (Nat.le_refl _)) rfl⟩
def tTupF (t : TA) : TE := fun σ H Q => t σ H fun vs H1 => vs.length ≤ sizeLine ∧ ∀ p o, H1 p = none → o.dict = none → Q (.ref p) (upd H1 p (fz o vs))
theorem pe_tupF {k : Nat} (h : PA X es t) : PE X (.Tuple es k pos) (tTupF t) :=
  ⟨fun pins s σ H Q I w => wpAny_Tuple_spliced (thn (h.run pos pins s σ H _ I w) fun us s1 ⟨vs, H1, J, r, z, q⟩ => ⟨by rw [← r.length]; exact z, lay_tup J r z q⟩)⟩
theorem call_tupF : CallR X (.type "tuple") (fun as H Q => ∃ p vs, as = [.ref p] ∧ ((SqL X.K H p vs ∧ ∀ l o, H l = none → o.dict = none → Q (.ref l) (upd H l (fz o vs))) ∨ (SqT X.K H p vs ∧ Q (.ref p) H))) := by
  rintro pins s σ H as us Q I r ⟨p, vs, rfl, h⟩
  obtain ⟨u, rfl, rx⟩ := vals1 r
  cases rx
  rcases h with ⟨hq, q⟩ | ⟨hq, q⟩
  · obtain ⟨its, r2, pl, z⟩ := I.list hq
    have hn := r2.length
    refine call_tuple_list pl.isList (fun h2 kp => ?_) (by simp only [List.size_toArray] <;> omega)
    exact lay_tup (I.kept (t' := s.toks) kp) r2 z q
  · obtain ⟨its, r2, pl, z⟩ := I.tuple hq
    exact call_tuple_same pl ⟨.ref p, H, I, rfl, q⟩
def rCatF (K : Frag) : R2 := fun x y H Q => ∃ a b xs ys, x = .ref a ∧ y = .ref b ∧ SqT K H a xs ∧ SqT K H b ys ∧ xs.length + ys.length ≤ sizeLine ∧
  (xs = [] → Q (.ref b) H) ∧ (ys = [] → Q (.ref a) H) ∧ ∀ p o, H p = none → o.dict = none → Q (.ref p) (upd H p (fz o (xs ++ ys)))
theorem op_catF : OpR X (binaryOp .Add) (rCatF X.K) := by
  rintro pins s σ H x y v u Q I rx ry ⟨a, b, xs, ys, rfl, rfl, ha, hb, z, q0, q1, q2⟩
  cases rx
  cases ry
  obtain ⟨as, r1, p1, _⟩ := I.tuple ha
  obtain ⟨bs, r2, p2, _⟩ := I.tuple hb
  by_cases hx : as = []
  · subst hx
    cases r1
    exact cat_tup0 p1 p2 ⟨.ref b, H, I, rfl, q0 rfl⟩
  · refine HT.cat_tup p1 p2 hx (fun n => ⟨.ref a, H, I, rfl, q1 (r2.nil_iff.mp n)⟩) (fun _ => ?_) (by rw [← r1.length, ← r2.length]; exact z)
    exact lay_tup I (r1.append r2) (by rw [List.length_append]; exact z) q2
def rSlF (K : Frag) : V → Option Int → Option Int → Hp → VK → Prop := fun x lo hi H Q => ∃ a vs, x = .ref a ∧ SqT K H a vs ∧
  (HT.sIx vs.length 0 lo = 0 ∧ HT.sIx vs.length vs.length hi = vs.length → Q (.ref a) H) ∧ ∀ p o, H p = none → o.dict = none → Q (.ref p) (upd H p (fz o (cutV vs lo hi)))
theorem sl_tupF : SlR X (rSlF X.K) := by
  rintro pins s σ H x v vl vu lo hi sl Q I rx hs pl pu ⟨a, vs, rfl, hx, q1, q2⟩
  cases rx
  obtain ⟨us, r, ht, z⟩ := I.tuple hx
  have n : us.toArray.size = vs.length := by rw [List.size_toArray]; exact r.length.symm
  refine ⟨"tuple", _, PyProof.Rows.slot_tuple_getitem.lookup, ht.typeIs, ?_⟩
  by_cases hw : HT.sIx vs.length 0 lo = 0 ∧ HT.sIx vs.length vs.length hi = vs.length
  · exact getItem_tuple_whole ht hs pl pu (by rw [n]; exact hw) ⟨.ref a, H, I, rfl, q1 hw⟩
  · refine HT.getItem_tuple_cut ht hs pl pu (by rw [n]; exact hw) ?_ (by rw [n]; exact z)
    rw [n]
    exact lay_tup I ((r.drop (HT.sIx vs.length 0 lo)).take (HT.sIx vs.length vs.length hi - HT.sIx vs.length 0 lo)) (Nat.le_trans (cutV_length vs lo hi) z) q2
end
end Bh
/-! text Bh4a -/
set_option Elab.async false
set_option linter.all false
set_option maxRecDepth 100000
set_option maxHeartbeats 1000000
/-! Bh4a: data as the library's data; sorted. -/
namespace Bh
open PySem PySem.W L2 PyProof.Rows

mutual
/-- the library's data -/
def toPy : D → PyData
  | .bl b => .bool b
  | .int i => .int i
  | .str s => .str ⟨s.toArray⟩
  | .tup xs => .tuple (toPys xs)
  | .lst xs => .list (toPys xs)
  | _ => .none
def toPys : List D → List PyData
  | [] => []
  | x :: xs => toPy x :: toPys xs
end
theorem toPys_map : ∀ xs : List D, toPys xs = xs.map toPy
  | [] => by simp [toPys]
  | x :: xs => by simp [toPys, toPys_map xs]
mutual
theorem toPy_plain : ∀ d : D, plain d = true → (toPy d).plain = true
  | .non, _ => by simp [toPy, PyData.plain]
  | .bl _, _ => by simp [toPy, PyData.plain]
  | .int _, _ => by simp [toPy, PyData.plain]
  | .str _, _ => by simp [toPy, PyData.plain]
  | .tup xs, h => by simp only [toPy, PyData.plain]; exact toPys_plain xs (by simpa [plain] using h)
  | .lst xs, h => by simp only [toPy, PyData.plain]; exact toPys_plain xs (by simpa [plain] using h)
  | .dct _, h => by simp [plain] at h
  | .obj _ _, h => by simp [plain] at h
theorem toPys_plain : ∀ xs : List D, plains xs = true → PyData.plainAll (toPys xs) = true
  | [], _ => by simp [toPys, PyData.plainAll]
  | x :: xs, h => by
    have h' : plain x = true ∧ plains xs = true := by simpa [plains] using h
    simp only [toPys, PyData.plainAll, toPy_plain x h'.1, toPys_plain xs h'.2, Bool.and_self]
end
mutual
theorem toPy_dep : ∀ d : D, (toPy d).depth = dep d
  | .non => by simp [toPy, PyData.depth, dep]
  | .bl _ => by simp [toPy, PyData.depth, dep]
  | .int _ => by simp [toPy, PyData.depth, dep]
  | .str _ => by simp [toPy, PyData.depth, dep]
  | .tup xs => by simp only [toPy, PyData.depth, dep, toPys_dep xs]
  | .lst xs => by simp only [toPy, PyData.depth, dep, toPys_dep xs]
  | .dct _ => by simp [toPy, PyData.depth, dep]
  | .obj _ _ => by simp [toPy, PyData.depth, dep]
theorem toPys_dep : ∀ xs : List D, PyData.depthAll (toPys xs) = deps xs
  | [] => by simp [toPys, PyData.depthAll, deps]
  | x :: xs => by simp only [toPys, PyData.depthAll, deps, toPy_dep x, toPys_dep xs]
end
theorem str_beq (x y : List Nat) : ((⟨x.toArray⟩ : Str) == ⟨y.toArray⟩) = (x == y) := by
  rw [Bool.eq_iff_iff, beq_iff_eq, beq_iff_eq]
  constructor
  · intro h
    have h1 := congrArg (fun s : Str => s.cps.toList) h
    simpa using h1
  · intro h; rw [h]
mutual
theorem toPy_eqv : ∀ a b : D, plain a = true → plain b = true → PyData.eqv (toPy a) (toPy b) = eqv a b
  | .dct _, _, h, _ => by simp [plain] at h
  | .obj _ _, _, h, _ => by simp [plain] at h
  | .non, b, _, hb => by cases b <;> first | (simp [plain] at hb; done) | simp [toPy, PyData.eqv, eqv]
  | .bl _, b, _, hb => by cases b <;> first | (simp [plain] at hb; done) | (simp [toPy, PyData.eqv, eqv, b2i]; done) | simp [toPy, PyData.eqv, eqv, Bh.b2i]
  | .int _, b, _, hb => by cases b <;> first | (simp [plain] at hb; done) | (simp [toPy, PyData.eqv, eqv, b2i]; done) | simp [toPy, PyData.eqv, eqv, Bh.b2i]
  | .str _, b, _, hb => by
    cases b with
    | str y => simp only [toPy, PyData.eqv, eqv]; exact str_beq _ _
    | dct _ => simp [plain] at hb
    | obj _ _ => simp [plain] at hb
    | _ => simp [toPy, PyData.eqv, eqv]
  | .tup xs, b, ha, hb => by
    cases b with
    | tup ys => simp only [toPy, PyData.eqv, eqv]; exact toPys_eqv xs ys (by simpa [plain] using ha) (by simpa [plain] using hb)
    | dct _ => simp [plain] at hb
    | obj _ _ => simp [plain] at hb
    | _ => simp [toPy, PyData.eqv, eqv]
  | .lst xs, b, ha, hb => by
    cases b with
    | lst ys => simp only [toPy, PyData.eqv, eqv]; exact toPys_eqv xs ys (by simpa [plain] using ha) (by simpa [plain] using hb)
    | dct _ => simp [plain] at hb
    | obj _ _ => simp [plain] at hb
    | _ => simp [toPy, PyData.eqv, eqv]
theorem toPys_eqv : ∀ xs ys : List D, plains xs = true → plains ys = true → PyData.eqvAll (toPys xs) (toPys ys) = eqvs xs ys
  | [], [], _, _ => by simp [toPys, PyData.eqvAll, eqvs]
  | [], _ :: _, _, _ => by simp [toPys, PyData.eqvAll, eqvs]
  | _ :: _, [], _, _ => by simp [toPys, PyData.eqvAll, eqvs]
  | x :: xs, y :: ys, h, h2 => by
    have h' : plain x = true ∧ plains xs = true := by simpa [plains] using h
    have h2' : plain y = true ∧ plains ys = true := by simpa [plains] using h2
    simp only [toPys, PyData.eqvAll, eqvs, toPy_eqv x y h'.1 h2'.1, toPys_eqv xs ys h'.2 h2'.2]
end

section
variable {G : Gx} {H : Hp} {O : Addr → Prop} {X : Cx} {pins : List (Addr × Obj)} {σ : L2.St} {s : Shared}
theorem tup_reads (I : Inv X pins σ H s) {a : Addr} {vs : List V} (h : SqT X.K H a vs) {xs : List PyData} (k : ∀ us, Vals vs us → ∃ as, ReadsAll s.heap us xs as) : ∃ as, Reads s.heap (.ref a) (.tuple xs) as := by
  obtain ⟨its, r, ⟨o, ho, hc, n, hd⟩, _⟩ := I.tuple h
  obtain ⟨as, q⟩ := k its r
  exact ⟨as, .tuple ho hc hd (by simpa using q)⟩
theorem lst_reads (I : Inv X pins σ H s) {a : Addr} {vs : List V} (h : SqL X.K H a vs) {xs : List PyData} (k : ∀ us, Vals vs us → ∃ as, ReadsAll s.heap us xs as) : ∃ as, Reads s.heap (.ref a) (.list xs) as := by
  obtain ⟨its, r, ⟨o, n, ho, hc, _, hd⟩, _⟩ := I.list h
  obtain ⟨as, q⟩ := k its r
  exact ⟨_, .list ho hc hd (by simpa using q)⟩
mutual
theorem FR.reads (I : Inv X pins σ H s) (hK : G.K = X.K) : ∀ {v : V} {d : D}, FR G H O v d → plain d = true → ∀ u, RelV v u → ∃ as, Reads s.heap u (toPy d) as
  | _, _, .non, _, _, r => by cases r; exact ⟨_, .none⟩
  | _, _, .bl b, _, _, r => by cases r; exact ⟨_, .bool b⟩
  | _, _, .int i, _, _, ⟨t, e⟩ => by cases e; exact ⟨_, .int i t⟩
  | _, _, .str x, _, _, ⟨t, e⟩ => by cases e; exact ⟨_, .str _ t⟩
  | _, _, .tup (ds := ds) e hd n r, hp, u, hu => by
    cases hu
    exact tup_reads I (sqF e) fun us q => FRs.reads I hK r (by simpa [plain] using hp) us q
  | _, _, .tupk (ds := ds) k r, hp, u, hu => by
    cases hu
    exact tup_reads I (hK ▸ k).sq fun us q => FRs.reads I hK r (by simpa [plain] using hp) us q
  | _, _, .lst e n r, hp, u, hu => by
    cases hu
    exact lst_reads I (SqL.of e) fun us q => FRs.reads I hK r (by simpa [plain] using hp) us q
  | _, _, .dct _ _ _ _ _ _ _ _, hp, _, _ => by simp [plain] at hp
  | _, _, .obj _ _ _, hp, _, _ => by simp [plain] at hp
theorem FRs.reads (I : Inv X pins σ H s) (hK : G.K = X.K) : ∀ {vs : List V} {ds : List D}, FRs G H O vs ds → plains ds = true → ∀ us, Vals vs us → ∃ as, ReadsAll s.heap us (toPys ds) as
  | _, _, .nil, _, us, r => by cases r; exact ⟨_, .nil⟩
  | _, _, .cons (d := d) (ds := ds) a b, hp, us, r => by
    have h' : plain d = true ∧ plains ds = true := by simpa [plains] using hp
    cases r with
    | cons r1 r2 =>
      obtain ⟨as, q1⟩ := FR.reads I hK a h'.1 _ r1
      obtain ⟨bs, q2⟩ := FRs.reads I hK b h'.2 _ r2
      exact ⟨_, .cons q1 q2⟩
end
theorem BR.reads (I : Inv X pins σ H s) (hK : G.K = X.K) {v : V} {d : D} {u : Value} (b : BR G H O v d) (hp : plain d = true) (r : RelV v u) : ∃ as, Reads s.heap u (toPy d) as := by
  rcases b with b | ⟨p, rfl, b⟩
  · exact b.reads I hK hp u r
  · cases r
    cases b with
    | lst e r => exact lst_reads I (SqL.of e) fun us q => r.reads I hK (by simpa [plain] using hp) us q
    | dct h1 h2 h3 h4 h5 h6 h7 => simp [plain] at hp
    | obj h1 h2 => simp [plain] at hp
end

/-! ### the order -/
mutual
theorem toPy_toks : ∀ d : D, keyToks (toPy d) = toks d
  | .non => by simp [toPy, toks, keyToks]
  | .bl b => by simp [toPy, toks, keyToks, b2i]
  | .int _ => by simp [toPy, toks, keyToks]
  | .str _ => by simp [toPy, toks, keyToks]
  | .tup xs => by simp only [toPy, toks, keyToks]; exact toPys_toks xs
  | .lst xs => by simp only [toPy, toks, keyToks]; exact toPys_toks xs
  | .dct _ => by simp [toPy, toks, keyToks]
  | .obj _ _ => by simp [toPy, toks, keyToks]
theorem toPys_toks : ∀ xs : List D, keyToksAll (toPys xs) = tokss xs
  | [] => by simp [toPys, tokss, keyToksAll]
  | x :: xs => by
    have h := toPy_toks x
    simp only [toPys, tokss, keyToksAll, h, toPys_toks xs]
end
end Bh
/-! text Bh4b -/
set_option Elab.async false
set_option linter.all false
set_option maxRecDepth 100000
set_option maxHeartbeats 1000000
/-! Bh4b: sorted. -/
namespace Bh
open PySem PySem.W L2 PyProof.Rows

theorem ltTok_eq (x y : Int ⊕ List Nat) : itemOrd.blt x y = ltTok x y := by
  cases x <;> cases y <;> rfl
theorem ltToks_eq : ∀ x y : List (Int ⊕ List Nat), PyProof.Rows.lexLt itemOrd x y = ltToks x y
  | [], [] => by first | rfl | simp [PyProof.Rows.lexLt, ltToks]
  | [], _ :: _ => by first | rfl | simp [PyProof.Rows.lexLt, ltToks]
  | _ :: _, [] => by first | rfl | simp [PyProof.Rows.lexLt, ltToks]
  | x :: r, y :: t => by
    rw [lex_cons, ltToks_eq r t, ltTok_eq, ltTok_eq]
    rfl
theorem leD_eq : dataLe false toPy = leD := by
  rw [dataLe_eq]
  funext a b
  show (!dataLt (toPy b) (toPy a)) = leD a b
  unfold dataLt leD
  rw [ltToks_eq, toPy_toks, toPy_toks]
theorem leD_total : TotalLe leD := by
  rw [← leD_eq]
  exact sortLe_total _ _ _
theorem insD_eq {x : D} : ∀ l1 l2 : List D, (∀ b ∈ l1, leD x b = false) → (∀ b r, l2 = b :: r → leD x b = true) → insD x (l1 ++ l2) = l1 ++ x :: l2
  | [], [], _, _ => rfl
  | [], b :: r, _, h => by
    show (if leD x b then x :: b :: r else b :: insD x r) = _
    rw [h b r rfl, if_pos rfl]
    rfl
  | b :: l1, l2, h, h2 => by
    show (if leD x b then x :: b :: (l1 ++ l2) else b :: insD x (l1 ++ l2)) = _
    rw [h b List.mem_cons_self, if_neg (by decide), insD_eq l1 l2 (fun c hc => h c (List.mem_cons_of_mem _ hc)) h2]
    rfl
theorem sortD_eq : ∀ xs : List D, xs.mergeSort leD = sortD xs
  | [] => by simp [sortD]
  | x :: xs => by
    have tr := leD_total.trans
    have to : ∀ a b, (leD a b || leD b a) = true := fun a b => by
      rcases leD_total.total a b with h | h
      · rw [h]; rfl
      · rw [h]; simp
    obtain ⟨l1, l2, e1, e2, e3⟩ := List.mergeSort_cons tr to x xs
    have ps := List.pairwise_mergeSort tr to (x :: xs)
    rw [e1] at ps
    show _ = insD x (sortD xs)
    rw [← sortD_eq xs, e2, e1]
    refine (insD_eq l1 l2 (fun b hb => by simpa using e3 b hb) fun b r hb => ?_).symm
    subst hb
    have p2 := (List.pairwise_append.mp ps).2.1
    exact (List.pairwise_cons.mp p2).1 b List.mem_cons_self
mutual
theorem toPy_alike : ∀ a b : D, plain a = true → plain b = true → PySem.W.alike (toPy a) (toPy b) = alike a b
  | .dct _, _, h, _ => by simp [plain] at h
  | .obj _ _, _, h, _ => by simp [plain] at h
  | .non, b, _, hb => by cases b <;> first | (simp [plain] at hb; done) | simp [toPy, PySem.W.alike, alike]
  | .bl _, b, _, hb => by cases b <;> first | (simp [plain] at hb; done) | simp [toPy, PySem.W.alike, alike]
  | .int _, b, _, hb => by cases b <;> first | (simp [plain] at hb; done) | simp [toPy, PySem.W.alike, alike]
  | .str _, b, _, hb => by cases b <;> first | (simp [plain] at hb; done) | simp [toPy, PySem.W.alike, alike]
  | .tup xs, b, ha, hb => by
    cases b with
    | tup ys => simp only [toPy, PySem.W.alike, alike]; exact toPys_alike xs ys (by simpa [plain] using ha) (by simpa [plain] using hb)
    | dct _ => simp [plain] at hb
    | obj _ _ => simp [plain] at hb
    | _ => simp [toPy, PySem.W.alike, alike]
  | .lst xs, b, ha, hb => by
    cases b with
    | lst ys => simp only [toPy, PySem.W.alike, alike]; exact toPys_alike xs ys (by simpa [plain] using ha) (by simpa [plain] using hb)
    | dct _ => simp [plain] at hb
    | obj _ _ => simp [plain] at hb
    | _ => simp [toPy, PySem.W.alike, alike]
theorem toPys_alike : ∀ xs ys : List D, plains xs = true → plains ys = true → PySem.W.alikeAll (toPys xs) (toPys ys) = alikes xs ys
  | [], _, _, _ => by simp [toPys, PySem.W.alikeAll, alikes]
  | _ :: _, [], _, _ => by simp [toPys, PySem.W.alikeAll, alikes]
  | x :: xs, y :: ys, h, h2 => by
    have h' : plain x = true ∧ plains xs = true := by simpa [plains] using h
    have h2' : plain y = true ∧ plains ys = true := by simpa [plains] using h2
    simp only [toPys, PySem.W.alikeAll, alikes, toPy_alike x y h'.1 h2'.1, toPys_alike xs ys h'.2 h2'.2]
end
section
variable {prog : Program} {w : World} {A : Around} {E : Value → Shared → Prop} {s : Shared} {R : Value → D → Prop} {vs : List Value} {xs : List D}
/-- sorted of a list or a tuple: a new list -/
theorem sorted_seq {t : Addr} {T : String} {o : Obj} {n : Nat} {Q : Value → Shared → Prop} (hT : T = "list" ∨ T = "tuple") (ho : s.heap.get? t = some o) (hc : o.cls = .type T) (hd : o.data = .seq vs.toArray n)
    (e : EachIs R vs xs) (er : EachIs (fun v b => ∃ as, Reads s.heap v (toPy b) as) vs xs) (hk : sortable xs = true) (hL : xs.length ≤ sizeLine) (hu : A.units + 105 < cLine)
    (h : ∀ (h1 h' : Heap) (p c : Nat) (out : List Value), (∀ b o', s.heap.get? b = some o' → h1.get? b = some o') → (∀ b o', h1.get? b = some o' → h'.get? b = some o') → h1.objs.size ≤ p → h'.get? p = some (listOf (List.toArray out) c) → EachIs R out (sortD xs) → Q (.ref p) { s with heap := h' }) :
    wpAny (model prog w) A (call (.builtin "sorted") [.ref t]) Q E s := by
  have hk1 : (∀ a ∈ xs, ∀ b ∈ xs, alike a b = true) ∧ (∀ a ∈ xs, plain a = true ∧ dep a ≤ 100) ∧ ((∀ a ∈ xs, tup1 a = true) ∨ ∀ a ∈ xs, noTup a = true) := by
    unfold sortable at hk
    simp only [Bool.and_eq_true, Bool.or_eq_true, List.all_eq_true, decide_eq_true_eq] at hk
    exact ⟨hk.1.1, hk.1.2, hk.2⟩
  obtain ⟨k1, k2, k3⟩ := hk1
  have hal : AllAlike (xs.map toPy) := by
    intro d hd d' hd'
    obtain ⟨a, ha, rfl⟩ := List.mem_map.mp hd
    obtain ⟨b, hb, rfl⟩ := List.mem_map.mp hd'
    rw [toPy_alike a b (k2 a ha).1 (k2 b hb).1]
    exact k1 a ha b hb
  have hso : Sortable (xs.map toPy) := by
    rcases k3 with k3 | k3
    · refine .inl fun d hd => ?_
      obtain ⟨a, ha, rfl⟩ := List.mem_map.mp hd
      have := k3 a ha
      cases a with
      | tup ys => cases ys with
        | nil => simp [tup1] at this
        | cons y ys => exact ⟨toPy y, toPys ys, by simp only [toPy, toPys]⟩
      | _ => simp [tup1] at this
    · refine .inr fun d hd => ?_
      obtain ⟨a, ha, rfl⟩ := List.mem_map.mp hd
      have h1 := k3 a ha
      have h2 := (k2 a ha).1
      cases a with
      | tup ys => simp [noTup] at h1
      | non => simp [noTup] at h1
      | dct _ => simp [plain] at h2
      | obj _ _ => simp [plain] at h2
      | _ => exact ⟨by simp [toPy], fun xs => by simp [toPy]⟩
  have hvl : vs.length ≤ sizeLine := by rw [e.length]; exact hL
  refine call_function_entry_kw kind_sorted plain_sorted entry_sorted (args_sorted1 _) ?_
  unfold Builtin.«sorted»
  refine wpAny_bind (m := checkCount "sorted" 1 1 _) (wpAny_pure ?_)
  refine wpAny_bind (wpAny_collect_seq t hT ho hc hd (fun h1 k1' => ?_) (by simpa using hvl))
  have e1 : (vs.toArray).toList = vs := by simp
  rw [e1]
  refine wpAny_bind (wpAny_newList ?_ hvl)
  have hat : (h1.push (seqObj "list" vs.toArray 0)).get? h1.objs.size = some (seqObj "list" vs.toArray 0) := Heap.get?_push_size _ rfl
  have er' : EachIs (fun v b => ∃ as, Reads (sortingHeap (h1.push (seqObj "list" vs.toArray 0)) h1.objs.size vs) v (toPy b) as) vs xs := er.mono fun v b ⟨as, r⟩ =>
    ⟨as, Reads.keeps (fun c u q => sortingHeap_old (Nat.ne_of_lt (Heap.lt_size (k1' c u q))) (Heap.get?_push_of_some _ (k1' c u q))) r⟩
  have hu' : ∀ b, b ∈ xs → A.in1.in1.units + (toPy b).depth < cLine := fun b hb => by
    rw [toPy_dep]
    have := (k2 b hb).2
    show A.units + 1 + 1 + dep b < cLine
    omega
  show wpAny (model prog w) _ _ _ _ { s with heap := h1.push (seqObj "list" vs.toArray 0) }
  refine wpAny_bind (wpAny_holding (wpAny_call_entry_kw slot_list_sort ⟨_, hat, rfl⟩ entry_list_sort ?body (args_list_sort _)))
  case body =>
    refine wpAny_mono (list_sort_vals (κ := dataKind (sortingHeap (h1.push (seqObj "list" vs.toArray 0)) h1.objs.size vs) (xs.map toPy))
      (s := { s with heap := h1.push (seqObj "list" vs.toArray 0) }) (A := A.in1.in1) hat
      (SortsAt.data (s := { s with heap := sortingHeap (h1.push (seqObj "list" vs.toArray 0)) h1.objs.size vs }) (each_map (R := fun v d => ∃ as, Reads (sortingHeap (h1.push (seqObj "list" vs.toArray 0)) h1.objs.size vs) v d as) toPy er') hal hso (bound_map hu')) hvl
      (P := fun f s' => f = .done (.ret .none) ∧ Q (.ref h1.objs.size) s') ⟨rfl, ?_⟩) (fun f s' hf => ?_) fun _ _ e => e
    · obtain ⟨c, hc'⟩ := sortedHeap_at (out := (sortVals (dataKind (sortingHeap (h1.push (seqObj "list" vs.toArray 0)) h1.objs.size vs) (xs.map toPy)) false vs vs).toArray) hat
      refine h h1 _ _ c _ k1' (fun b o' q1 => ?_) (Nat.le_refl _) hc' ?_
      · have q2 : (h1.push (seqObj "list" vs.toArray 0)).get? b = some o' := Heap.get?_push_of_some _ q1
        rw [sortedHeap_old (Nat.ne_of_lt (Heap.lt_size q1)) (Heap.lt_size q2)]
        exact q2
      · have q := sortVals_data false e er' hal
        rw [leD_eq, sortD_eq] at q
        exact q
    · obtain ⟨rfl, hq⟩ := hf
      exact ⟨_, rfl, wpAny_pure ⟨_, rfl, hq⟩⟩
end
end Bh
/-! text Bh4c -/
set_option Elab.async false
set_option linter.all false
set_option maxRecDepth 100000
set_option maxHeartbeats 1000000
/-! Bh4c: what operators, places, built-in functions do to data. -/
namespace Bh
open PySem PySem.W L2 PyProof.Rows

/-- the wish of a result that stands already, or is no list, no dict -/
def RX (G : Gx) (H : Hp) (O : Addr → Prop) (r : D) (Q : VK) : Prop := ∀ v H1, Ext H H1 → FR G H1 O v r → Q v H1
/-- the wish of a result: a list is made new -/
def RR (G : Gx) (H : Hp) (O : Addr → Prop) (r : D) (Q : VK) : Prop := match r with
  | .lst ds => ∀ H1 vs p, Ext H H1 → FRs G H1 O vs ds → H1 p = none → Q (.ref p) (upd H1 p (.lst vs))
  | .dct kvs => ∀ (o : Obj) (es : Array DictEntry) (ep : Nat) (p : Addr), H p = none → o.ExactDict → o.data = .dict es ep → es.size ≤ sizeLine → (p == sysModules) = false → FRe G H O es.toList kvs → (kvs.map fun q => nk q.1).Nodup → Q (.ref p) (upd H p (pin p o))
  | r => RX G H O r Q
def rOp (G : Gx) (g : D → D → Option D) : R2 := fun x y H Q => ∃ O dx dy r, Live H O ∧ BR G H O x dx ∧ BR G H O y dy ∧ g dx dy = some r ∧ RR G H O r Q
def rCm (G : Gx) (g : D → D → Option Bool) : R2 := fun x y H Q => ∃ O dx dy r, Live H O ∧ BR G H O x dx ∧ BR G H O y dy ∧ g dx dy = some r ∧ Q (.bl r) H
def rIxD (G : Gx) : R2 := fun x y H Q => ∃ O dx dy r, Live H O ∧ BR G H O x dx ∧ BR G H O y dy ∧ idxD dx dy = some r ∧ RX G H O r Q
def rBf (G : Gx) (g : List D → Option D) : List V → Hp → VK → Prop := fun vs H Q => ∃ O ds r, Live H O ∧ BRs G H O vs ds ∧ g ds = some r ∧ RR G H O r Q

section
variable {X : Cx} {G : Gx} {H : Hp} {O : Addr → Prop}
theorem FRs.upd {p : Addr} {o : HO} {vs : List V} {ds : List D} (n : H p = none) (r : FRs G H O vs ds) : FRs G (upd H p o) O vs ds := r.carry (Ext.upd n).stp
theorem okLen_le {n : Nat} (h : okLen n = true) : n ≤ sizeLine := of_decide_eq_true h
/-- a new tuple -/
theorem fr_newtup {p : Addr} {o : Obj} {vs : List V} {ds : List D} (l : Live H O) (n : H p = none) (hd : o.dict = none) (r : FRs G H O vs ds) : FR G (upd H p (fz o vs)) O (.ref p) (.tup ds) :=
  .tup upd_same hd (fun z => Av.none n (l p z)) (FRs.upd n r)
theorem seqT_fr {p : Addr} {vs : List V} {ds : List D} (h : SqT G.K H p vs) (b : BR G H O (.ref p) (.tup ds)) : FR G H O (.ref p) (.tup ds) := by
  rcases b with b | ⟨q, e, b⟩
  · exact b
  · cases b

theorem op_addD (hK : G.K = X.K) : OpR X (binaryOp .Add) (rOp G addD) := by
  rintro pins s σ H x y v u Q I rx ry ⟨O, dx, dy, r, lv, bx, bz, e, q⟩
  unfold addD at e
  split at e
  · cases e
    have e1 := bx.int
    have e2 := bz.int
    subst e1; subst e2
    exact op_add pins s σ H _ _ v u Q I rx ry ⟨_, _, rfl, rfl, q _ H (Same.refl H) (.int _)⟩
  · rename_i a b
    split at e
    · rename_i hl
      cases e
      have e1 := bx.str
      have e2 := bz.str
      subst e1; subst e2
      refine op_add_str pins s σ H _ _ v u Q I rx ry ⟨_, _, rfl, rfl, ?_, ?_⟩
      · have := okLen_le hl
        simpa [Str.length] using this
      · have := q (.str ⟨(a ++ b).toArray⟩) H (Same.refl H) (.str _)
        have e3 : (⟨a.toArray⟩ : Str) ++ ⟨b.toArray⟩ = ⟨(a ++ b).toArray⟩ := by
          show (⟨a.toArray ++ b.toArray⟩ : Str) = _
          simp
        rw [e3]
        exact this
    · cases e
  · rename_i a b
    split at e
    · rename_i hl
      cases e
      obtain ⟨p1, vs1, rfl, t1, r1⟩ := bx.tup
      obtain ⟨p2, vs2, rfl, t2, r2⟩ := bz.tup
      have f1 := seqT_fr t1 bx
      have f2 := seqT_fr t2 bz
      refine op_catF pins s σ H _ _ v u Q I rx ry ⟨p1, p2, vs1, vs2, rfl, rfl, hK ▸ t1, hK ▸ t2, ?_, fun z => ?_, fun z2 => ?_, fun p ob n hd => ?_⟩
      · rw [r1.length, r2.length]; exact okLen_le hl
      · subst z
        cases r1
        exact q _ H (Same.refl H) f2
      · subst z2
        cases r2
        rw [List.append_nil] at q
        exact q _ H (Same.refl H) f1
      · exact q _ _ (Ext.upd n) (fr_newtup lv n hd (r1.app r2))
    · cases e
  · rename_i a b
    split at e
    · rename_i hl
      cases e
      obtain ⟨p1, vs1, rfl, t1, r1⟩ := bx.lst
      obtain ⟨p2, vs2, rfl, t2, r2⟩ := bz.lst
      refine op_cat pins s σ H _ _ v u Q I rx ry ⟨p1, p2, vs1, vs2, rfl, rfl, t1, t2, ?_, fun p n => ?_⟩
      · rw [r1.length, r2.length]; exact okLen_le hl
      · exact q H _ p (Same.refl H) (r1.app r2) n
    · cases e
  · cases e
theorem op_subD : OpR X (binaryOp .Sub) (rOp G subD) := by
  rintro pins s σ H x y v u Q I rx ry ⟨O, dx, dy, r, lv, bx, bz, e, q⟩
  unfold subD at e
  split at e
  · cases e
    have e1 := bx.int
    have e2 := bz.int
    subst e1; subst e2
    exact op_sub pins s σ H _ _ v u Q I rx ry ⟨_, _, rfl, rfl, q _ H (Same.refl H) (.int _)⟩
  · cases e
theorem FRs.rep {vs : List V} {ds : List D} (r : FRs G H O vs ds) : ∀ k : Nat, FRs G H O (List.replicate k vs).flatten (List.replicate k ds).flatten
  | 0 => .nil
  | k + 1 => by
    rw [List.replicate_succ, List.replicate_succ, List.flatten_cons, List.flatten_cons]
    exact r.app (FRs.rep r k)
theorem op_mulD : OpR X (binaryOp .Mult) (rOp G mulD) := by
  rintro pins s σ H x y v u Q I rx ry ⟨O, dx, dy, r, lv, bx, bz, e, q⟩
  unfold mulD at e
  split at e
  · split at e
    · rename_i hs
      cases e
      have e1 := bx.int
      have e2 := bz.int
      subst e1; subst e2
      refine op_mul pins s σ H _ _ v u Q I rx ry ⟨_, _, rfl, rfl, ?_, q _ H (Same.refl H) (.int _)⟩
      unfold CMul
      simpa [small64] using hs
    · cases e
  · split at e
    · rename_i hs
      cases e
      obtain ⟨p1, vs1, rfl, t1, r1⟩ := bx.lst
      have e2 := bz.int
      subst e2
      simp only [Bool.and_eq_true, decide_eq_true_eq] at hs
      obtain ⟨⟨h1, h2⟩, h3⟩ := hs
      refine op_rep pins s σ H _ _ v u Q I rx ry ⟨p1, _, vs1, rfl, rfl, t1, by omega, by omega, ?_, fun p n => ?_⟩
      · rw [r1.length]; exact okLen_le h3
      · exact q H _ p (Same.refl H) (r1.rep _) n
    · cases e
  · cases e
theorem op_fdivD : OpR X (binaryOp .FloorDiv) (rOp G fdivD) := by
  rintro pins s σ H x y v u Q I rx ry ⟨O, dx, dy, r, lv, bx, bz, e, q⟩
  unfold fdivD at e
  split at e
  · split at e
    · rename_i hs
      cases e
      have e1 := bx.int
      have e2 := bz.int
      subst e1; subst e2
      exact op_fdiv pins s σ H _ _ v u Q I rx ry ⟨_, _, rfl, rfl, (by simpa [CDiv] using hs), q _ H (Same.refl H) (.int _)⟩
    · cases e
  · cases e
theorem op_modD : OpR X (binaryOp .Mod) (rOp G modD) := by
  rintro pins s σ H x y v u Q I rx ry ⟨O, dx, dy, r, lv, bx, bz, e, q⟩
  unfold modD at e
  split at e
  · split at e
    · rename_i hs
      cases e
      have e1 := bx.int
      have e2 := bz.int
      subst e1; subst e2
      exact op_mod pins s σ H _ _ v u Q I rx ry ⟨_, _, rfl, rfl, (by simpa using hs), q _ H (Same.refl H) (.int _)⟩
    · cases e
  · cases e
theorem op_powD : OpR X (binaryOp .Pow) (rOp G powD) := by
  rintro pins s σ H x y v u Q I rx ry ⟨O, dx, dy, r, lv, bx, bz, e, q⟩
  unfold powD at e
  split at e
  · split at e
    · rename_i hs
      cases e
      have e1 := bx.int
      have e2 := bz.int
      subst e1; subst e2
      simp only [Bool.and_eq_true, decide_eq_true_eq, small64] at hs
      obtain ⟨⟨⟨h1, h2⟩, h3⟩, h4⟩ := hs
      exact op_pow pins s σ H _ _ v u Q I rx ry ⟨_, _, rfl, rfl, ⟨h3, h4, by omega⟩, q _ H (Same.refl H) (.int _)⟩
    · cases e
  · cases e
def op2 : Op2 → Operator
  | .add => .Add
  | .sub => .Sub
  | .mul => .Mult
  | .fdiv => .FloorDiv
  | .mod => .Mod
  | .pow => .Pow
theorem op_allD (hK : G.K = X.K) (o : Op2) : OpR X (binaryOp (op2 o)) (rOp G (opD o)) := by
  cases o
  · exact op_addD hK
  · exact op_subD
  · exact op_mulD
  · exact op_fdivD
  · exact op_modD
  · exact op_powD
/-! comparisons -/
def cm2 : Cm → CmpOp
  | .eq => .Eq
  | .ne => .NotEq
  | .lt => .Lt
  | .le => .LtE
  | .gt => .Gt
  | .ge => .GtE
  | .isin => .In
  | .notin => .NotIn
  | .is => .Is
  | .isnot => .IsNot
theorem fin_ep {pins : List (Addr × Obj)} {σ : L2.St} {s : Shared} {Q : VK} {k : Bool} (I : Inv X pins σ H s) (q : Q (.bl k) H) : EP X pins σ Q (.bool k) s := ⟨.bl k, H, I, rfl, q⟩
theorem op_intC {op : CmpOp} {p : Int → Int → Bool} (h : OpR X (compareOp op) (rI0 fun i j => .bl (p i j))) : OpR X (compareOp op) (rCm G (intC p)) := by
  rintro pins s σ H x y v u Q I rx ry ⟨O, dx, dy, r, lv, bx, bz, e, q⟩
  unfold intC at e
  split at e
  · cases e
    have e1 := bx.int
    have e2 := bz.int
    subst e1; subst e2
    exact h pins s σ H _ _ v u Q I rx ry ⟨_, _, rfl, rfl, q⟩
  · cases e
/-- data are compared by a rule over what they read as -/
def CmpData (X : Cx) (op : CmpOp) (f : PyData → PyData → Bool) : Prop :=
  ∀ {prog : Program} {w : World} {A : Around} {E : Value → Shared → Prop} {s : Shared} {a b : Value} {da db : PyData} {as bs : List Addr} {Q : Value → Shared → Prop}, Reads s.heap a da as → Reads s.heap b db bs → PySem.W.alike da db = true → da ≠ .none → A.units + min da.depth db.depth < cLine → Q (.bool (f da db)) s →
    wpAny (model prog w) A (compareOp op a b) Q E s
theorem notNon_py {d : D} (hp : plain d = true) (h : notNon d = true) : toPy d ≠ .none := by
  cases d <;> simp_all [notNon, toPy, plain]
theorem op_ordC {op : CmpOp} {p : Int → Int → Bool} {q : List (Int ⊕ List Nat) → List (Int ⊕ List Nat) → Bool} {f : PyData → PyData → Bool} (hK : G.K = X.K) (hu : X.A.units + 102 < cLine) (h : OpR X (compareOp op) (rI0 fun i j => .bl (p i j))) (hd : CmpData X op f)
    (hf : ∀ a b : D, f (toPy a) (toPy b) = q (toks a) (toks b)) : OpR X (compareOp op) (rCm G (ordC p q)) := by
  rintro pins s σ H x y v u Q I rx ry ⟨O, dx, dy, r, lv, bx, bz, e, qq⟩
  unfold ordC at e
  split at e
  · cases e
    have e1 := bx.int
    have e2 := bz.int
    subst e1; subst e2
    exact h pins s σ H _ _ v u Q I rx ry ⟨_, _, rfl, rfl, qq⟩
  · split at e
    · rename_i ho
      cases e
      simp only [ordOk, Bool.and_eq_true, decide_eq_true_eq] at ho
      obtain ⟨⟨⟨⟨h1, h2⟩, h3⟩, h4⟩, h5⟩ := ho
      obtain ⟨as, ra⟩ := bx.reads I hK h1 rx
      obtain ⟨bs, rb⟩ := bz.reads I hK h2 ry
      refine hd ra rb ((toPy_alike _ _ h1 h2).trans h3) (notNon_py h1 h4) ?_ ?_
      · rw [toPy_dep, toPy_dep]; omega
      · rw [hf]
        exact fin_ep I qq
    · cases e
theorem dataLt_toks (a b : D) : PySem.W.dataLt (toPy a) (toPy b) = ltToks (toks a) (toks b) := by
  unfold PySem.W.dataLt
  rw [toPy_toks, toPy_toks, ltToks_eq]
theorem emp_of {pins : List (Addr × Obj)} {σ : L2.St} {s : Shared} {x y : V} {v u : Value} {dx dy : D} {r : Bool} (I : Inv X pins σ H s) (bx : BR G H O x dx) (bz : BR G H O y dy) (e : empC dx dy = some r) (rx : RelV x v) (ry : RelV y u) :
    ∃ (l b : Addr) (as bs : List Value), s.heap.IsList l as.toArray ∧ s.heap.IsList b bs.toArray ∧ v = .ref l ∧ u = .ref b ∧ bs = [] ∧ r = as.isEmpty := by
  unfold empC at e
  split at e
  · cases e
    obtain ⟨p1, vs1, rfl, t1, r1⟩ := bx.lst
    obtain ⟨p2, vs2, rfl, t2, r2⟩ := bz.lst
    obtain ⟨as, a1, a2, _⟩ := I.list (SqL.of t1)
    obtain ⟨bs, b1, b2, _⟩ := I.list (SqL.of t2)
    cases r2
    cases b1
    cases rx; cases ry
    refine ⟨p1, p2, as, [], a2.isList, b2.isList, rfl, rfl, rfl, ?_⟩
    cases r1 with
    | nil => cases a1; rfl
    | cons _ _ => cases a1; rfl
  · cases e
theorem op_eqD (hK : G.K = X.K) (hu : X.A.units + 102 < cLine) : OpR X (compareOp .Eq) (rCm G (cmpD .eq)) := by
  rintro pins s σ H x y v u Q I rx ry ⟨O, dx, dy, r, lv, bx, bz, e, q⟩
  simp only [cmpD] at e
  split at e
  · rename_i h
    cases e
    simp only [eqOk, Bool.and_eq_true, decide_eq_true_eq] at h
    obtain ⟨⟨h1, h2⟩, h3⟩ := h
    obtain ⟨as, ra⟩ := bx.reads I hK h1 rx
    obtain ⟨bs, rb⟩ := bz.reads I hK h2 ry
    refine SeqAt.eq_plain ra rb (toPy_plain _ h1) (toPy_plain _ h2) ?_ ?_
    · rw [toPy_dep, toPy_dep]; omega
    · rw [toPy_eqv _ _ h1 h2]
      exact fin_ep I q
  · obtain ⟨l, b, as, bs, hl, hb, h1, h2, h3, eb⟩ := emp_of I bx bz e rx ry
    subst h1; subst h2
    subst h3
    by_cases z : as = []
    · subst z
      exact (SeqAt.RcAt.lists (e := fun _ => true) hl hb rfl (by omega) fun j j1 _ => (nomatch j1)) _ _ _ _ (by rw [show r = true by rw [eb]; rfl] at q; exact fin_ep I q)
    · refine (SeqAt.RcAt.lists_lengths hl hb (by simpa using z) (by omega)) _ _ _ _ ?_
      rw [show r = false by rw [eb]; simpa using z] at q
      exact fin_ep I q
theorem op_neD (hK : G.K = X.K) (hu : X.A.units + 102 < cLine) : OpR X (compareOp .NotEq) (rCm G (cmpD .ne)) := by
  rintro pins s σ H x y v u Q I rx ry ⟨O, dx, dy, r, lv, bx, bz, e, q⟩
  simp only [cmpD] at e
  split at e
  · rename_i h
    cases e
    simp only [eqOk, Bool.and_eq_true, decide_eq_true_eq] at h
    obtain ⟨⟨h1, h2⟩, h3⟩ := h
    obtain ⟨as, ra⟩ := bx.reads I hK h1 rx
    obtain ⟨bs, rb⟩ := bz.reads I hK h2 ry
    refine SeqAt.ne_plain ra rb (toPy_plain _ h1) (toPy_plain _ h2) ?_ ?_
    · rw [toPy_dep, toPy_dep]; omega
    · rw [toPy_eqv _ _ h1 h2]
      exact fin_ep I q
  · obtain ⟨r0, e0, rfl⟩ := Option.map_eq_some_iff.mp e
    obtain ⟨l, b, as, bs, hl, hb, h1, h2, h3, eb⟩ := emp_of I bx bz e0 rx ry
    subst h1; subst h2
    subst h3
    by_cases z : as = []
    · subst z
      refine (SeqAt.RcNeAt.lists (e := fun _ => true) hl hb rfl (by omega) fun j j1 _ => (nomatch j1)) _ _ _ _ ?_
      rw [show r0 = true by rw [eb]; rfl] at q
      exact fin_ep I q
    · refine (SeqAt.RcNeAt.lists_lengths hl hb (by simpa using z) (by omega)) _ _ _ _ ?_
      rw [show r0 = false by rw [eb]; simpa using z] at q
      exact fin_ep I q
theorem any_eqv {a : D} (ha : plain a = true) : ∀ {xs : List D}, plains xs = true → ((toPys xs).any fun y => PyData.eqv y (toPy a)) = xs.any fun x => eqv x a
  | [], _ => by simp [toPys]
  | x :: xs, h => by
    have h' : plain x = true ∧ plains xs = true := by simpa [plains] using h
    simp only [toPys, List.any_cons, toPy_eqv x a h'.1 ha, any_eqv ha h'.2]
theorem op_inD (hK : G.K = X.K) (hu : X.A.units + 102 < cLine) (neg : Bool) : OpR X (compareOp (if neg then .NotIn else .In)) (rCm G fun a b => (inD a b).map fun q => if neg then !q else q) := by
  rintro pins s σ H x y v u Q I rx ry ⟨O, dx, dy, r, lv, bx, bz, e, q⟩
  have e : (inD dx dy).map (fun q => if neg then !q else q) = some r := e
  cases e1 : inD dx dy with
  | none => rw [e1] at e; cases e
  | some k =>
    rw [e1] at e
    cases e
    unfold inD at e1
    split at e1
    · rename_i xs
      split at e1
      · rename_i h
        cases e1
        simp only [Bool.and_eq_true, decide_eq_true_eq] at h
        obtain ⟨⟨h1, h2⟩, h3⟩ := h
        obtain ⟨as, ra⟩ := bx.reads I hK h1 rx
        obtain ⟨bs, rb⟩ := bz.reads I hK (by simpa [plain] using h2) ry
        simp only [toPy] at rb
        have hm : X.A.units + 1 + min (PyData.depthAll (toPys xs)) (toPy dx).depth < cLine := by rw [toPys_dep, toPy_dep]; omega
        have e2 := any_eqv h1 h2
        cases neg with
        | false => exact SeqAt.in_tuple_data rb ra (toPys_plain _ h2) (toPy_plain _ h1) hm (by rw [e2]; exact fin_ep I q)
        | true => exact SeqAt.notIn_tuple_data rb ra (toPys_plain _ h2) (toPy_plain _ h1) hm (by rw [e2]; exact fin_ep I q)
      · cases e1
    · rename_i xs
      split at e1
      · rename_i h
        cases e1
        simp only [Bool.and_eq_true, decide_eq_true_eq] at h
        obtain ⟨⟨h1, h2⟩, h3⟩ := h
        obtain ⟨as, ra⟩ := bx.reads I hK h1 rx
        obtain ⟨bs, rb⟩ := bz.reads I hK (by simpa [plain] using h2) ry
        simp only [toPy] at rb
        have hm : X.A.units + 1 + min (PyData.depthAll (toPys xs)) (toPy dx).depth < cLine := by rw [toPys_dep, toPy_dep]; omega
        have e2 := any_eqv h1 h2
        cases neg with
        | false => exact SeqAt.in_list_data rb ra (toPys_plain _ h2) (toPy_plain _ h1) hm (by rw [e2]; exact fin_ep I q)
        | true => exact SeqAt.notIn_list_data rb ra (toPys_plain _ h2) (toPy_plain _ h1) hm (by rw [e2]; exact fin_ep I q)
      · cases e1
    · cases e1
def isNo : D → Bool
  | .non => true
  | _ => false
theorem BR.is_non {v : V} {d : D} (b : BR G H O v d) : decide (v = .non) = isNo d := by
  rcases b with b | ⟨p, rfl, b⟩
  · cases b <;> simp [isNo]
  · cases b <;> simp [isNo]
theorem op_isD (neg : Bool) : OpR X (compareOp (if neg then .IsNot else .Is)) (rCm G fun a b => (isNonD a b).map fun q => if neg then !q else q) := by
  rintro pins s σ H x y v u Q I rx ry ⟨O, dx, dy, r, lv, bx, bz, e, q⟩
  have e : (isNonD dx dy).map (fun q => if neg then !q else q) = some r := e
  cases e1 : isNonD dx dy with
  | none => rw [e1] at e; cases e
  | some k =>
    rw [e1] at e
    cases e
    have hb := bx.is_non
    have hy : dy = .non ∧ k = isNo dx := by
      unfold isNonD at e1
      split at e1
      · cases e1; exact ⟨rfl, rfl⟩
      · rename_i h; cases e1
        refine ⟨rfl, ?_⟩
        cases dx with
        | non => exact (h rfl).elim
        | _ => rfl
      · cases e1
    obtain ⟨rfl, hk⟩ := hy
    have e2 := bz.non
    subst e2
    cases neg with
    | false => exact op_isN pins s σ H _ _ v u Q I rx ry ⟨rfl, by rw [hb, ← hk]; exact q⟩
    | true => exact op_notN pins s σ H _ _ v u Q I rx ry ⟨rfl, by rw [hb, ← hk]; exact q⟩
theorem op_cmpD (hK : G.K = X.K) (hu : X.A.units + 102 < cLine) (c : Cm) : OpR X (compareOp (cm2 c)) (rCm G (cmpD c)) := by
  cases c
  · exact op_eqD hK hu
  · exact op_neD hK hu
  · exact op_ordC hK hu op_lt (f := fun a b => PySem.W.dataLt a b) (fun a b c d e f => lt_data a b c d e f) dataLt_toks
  · exact op_ordC hK hu op_le (q := fun x y => !ltToks y x) (f := fun a b => !PySem.W.dataLt b a) (fun a b c d e f => le_data a b c d e f) fun a b => congrArg (!·) (dataLt_toks b a)
  · exact op_ordC hK hu op_gt (q := fun x y => ltToks y x) (f := fun a b => PySem.W.dataLt b a) (fun a b c d e f => gt_data a b c d e f) fun a b => dataLt_toks b a
  · exact op_ordC hK hu op_ge (q := fun x y => !ltToks x y) (f := fun a b => !PySem.W.dataLt a b) (fun a b c d e f => ge_data a b c d e f) fun a b => congrArg (!·) (dataLt_toks a b)
  · have h := op_inD (X := X) hK hu false
    have e : (fun a b => (inD a b).map fun q => if false = true then !q else q) = cmpD .isin := by
      funext a b
      show (inD a b).map (fun q => q) = inD a b
      simp
    rw [e] at h
    exact h
  · exact op_inD hK hu true
  · have h := op_isD (X := X) (G := G) false
    have e : (fun a b => (isNonD a b).map fun q => if false = true then !q else q) = cmpD .is := by
      funext a b
      show (isNonD a b).map (fun q => q) = isNonD a b
      simp
    rw [e] at h
    exact h
  · exact op_isD true
end
end Bh
/-! text Bh4d -/
set_option Elab.async false
set_option linter.all false
set_option maxRecDepth 100000
set_option maxHeartbeats 1000000
/-! Bh4d: places, built-in functions, methods of lists. -/
namespace Bh
open PySem PySem.W L2 PyProof.Rows
section
variable {X : Cx} {G : Gx} {H : Hp} {O : Addr → Prop}
theorem ixN_eq (n : Nat) (i : Int) : L2.ixN n i = ixN n i := rfl
theorem atI_fr {vs : List V} {ds : List D} (r : FRs G H O vs ds) {i : Int} {d : D} (h : atI ds i = some d) : ∃ v, L2.atI vs i = some v ∧ FR G H O v d := by
  unfold atI at h
  unfold L2.atI
  rw [ixN_eq, r.length]
  cases e : ixN ds.length i with
  | none => rw [e] at h; cases h
  | some j =>
    rw [e] at h
    exact r.get (show ds[j]? = some d from h)
theorem ix_D (hK : G.K = X.K) : IxR X (rIxD G) := by
  rintro value slice pins s σ H x y v u Q I rx ry ⟨O, dx, dy, r, lv, bx, bz, e, q⟩ hsub
  unfold idxD at e
  split at e
  · obtain ⟨p1, vs1, rfl, t1, r1⟩ := bx.lst
    have e2 := bz.int
    subst e2
    obtain ⟨z, hz, fz⟩ := atI_fr r1 e
    exact ix_list value slice pins s σ H _ _ v u Q I rx ry ⟨p1, vs1, _, z, rfl, rfl, SqL.of t1, hz, q z H (Same.refl H) fz⟩ hsub
  · obtain ⟨p1, vs1, rfl, t1, r1⟩ := bx.tup
    have e2 := bz.int
    subst e2
    obtain ⟨z, hz, fz⟩ := atI_fr r1 e
    exact ix_tup value slice pins s σ H _ _ v u Q I rx ry ⟨p1, vs1, _, z, rfl, rfl, hK ▸ t1, hz, q z H (Same.refl H) fz⟩ hsub
  · split at e
    · rename_i hl
      have e1 := bx.str
      have e2 := bz.int
      subst e1; subst e2
      obtain ⟨c, hc, rfl⟩ := Option.map_eq_some_iff.mp e
      refine ix_str value slice pins s σ H _ _ v u Q I rx ry ⟨_, _, c, rfl, rfl, ?_, ?_, ?_⟩ hsub
      · have := okLen_le hl
        simpa [Str.length] using this
      · exact hc
      · exact q _ H (Same.refl H) (.str [c])
    · cases e
  · cases e
/-! slices -/
def rSlD (G : Gx) : V → Option Int → Option Int → Hp → VK → Prop := fun x lo hi H Q => ∃ O d r, Live H O ∧ BR G H O x d ∧ sliceD d lo hi = some r ∧ RR G H O r Q
theorem sIx_eq (n d : Nat) (o : Option Int) : HT.sIx n d o = sIx n d o := by cases o <;> rfl
theorem cut_fr {vs : List V} {ds : List D} (r : FRs G H O vs ds) (lo hi : Option Int) : FRs G H O (cutV vs lo hi) (cut ds lo hi) := by
  unfold cutV cut
  rw [r.length, sIx_eq, sIx_eq]
  exact (r.drop _).take _
theorem cut_all {α : Type} (xs : List α) (lo hi : Option Int) (h1 : sIx xs.length 0 lo = 0) (h2 : sIx xs.length xs.length hi = xs.length) : cut xs lo hi = xs := by
  unfold cut
  rw [h1, h2]
  simp
theorem sl_D (hK : G.K = X.K) : SlR X (rSlD G) := by
  rintro pins s σ H x v vl vu lo hi sl Q I rx hs pl pu ⟨O, d, r, lv, b, e, q⟩
  unfold sliceD at e
  split at e
  · cases e
    obtain ⟨p1, vs1, rfl, t1, r1⟩ := b.lst
    exact sl_list pins s σ H _ v vl vu lo hi sl Q I rx hs pl pu ⟨p1, vs1, rfl, SqL.of t1, fun p np => q H _ p (Same.refl H) (cut_fr r1 lo hi) np⟩
  · cases e
    obtain ⟨p1, vs1, rfl, t1, r1⟩ := b.tup
    refine sl_tupF pins s σ H _ v vl vu lo hi sl Q I rx hs pl pu ⟨p1, vs1, rfl, hK ▸ t1, fun ⟨h1, h2⟩ => ?_, fun p ob np hd => ?_⟩
    · rw [r1.length, sIx_eq] at h1 h2
      have := cut_all _ lo hi h1 h2
      refine q _ H (Same.refl H) ?_
      rw [this]
      exact seqT_fr t1 b
    · exact q _ _ (Ext.upd np) (fr_newtup lv np hd (cut_fr r1 lo hi))
  · rename_i sx
    split at e
    · rename_i hl
      cases e
      have e1 := b.str
      subst e1
      refine sl_str pins s σ H _ v vl vu lo hi sl Q I rx hs pl pu ⟨_, rfl, ?_, ?_⟩
      · have := okLen_le hl
        simpa [Str.length] using this
      · refine q _ H (Same.refl H) ?_
        have : cutS ⟨sx.toArray⟩ lo hi = ⟨(cut sx lo hi).toArray⟩ := by
          unfold cutS cut
          simp [Str.length, sIx_eq]
        rw [this]
        exact .str _
    · cases e
  · cases e
theorem BRs.one_of {vs : List V} {ds : List D} {g : D → Option D} {r : D} (b : BRs G H O vs ds) (e : one1 g ds = some r) : ∃ v d, vs = [v] ∧ ds = [d] ∧ BR G H O v d ∧ g d = some r := by
  unfold one1 at e
  split at e
  · obtain ⟨v, rfl, h⟩ := b.of_one
    exact ⟨v, _, rfl, rfl, h, e⟩
  · cases e
theorem call_absD : CallR X (.builtin "abs") (rBf G absD) := by
  rintro pins s σ H xs us Q I rx ⟨O, ds, r, lv, bs, e, q⟩
  unfold absD at e
  split at e
  · cases e
    obtain ⟨v, rfl, b⟩ := bs.of_one
    have e1 := b.int
    subst e1
    exact call_abs pins s σ H _ us Q I rx ⟨_, rfl, q _ H (Same.refl H) (.int _)⟩
  · cases e
theorem call_intD : CallR X (.type "int") (rBf G intD) := by
  rintro pins s σ H xs us Q I rx ⟨O, ds, r, lv, bs, e, q⟩
  unfold intD at e
  split at e
  · cases e
    obtain ⟨v, rfl, b⟩ := bs.of_one
    have e1 := b.int
    subst e1
    exact call_int1 pins s σ H _ us Q I rx (.inl ⟨_, rfl, q _ H (Same.refl H) (.int _)⟩)
  · cases e
    obtain ⟨v, rfl, b⟩ := bs.of_one
    have e1 := b.bl
    subst e1
    exact call_int1 pins s σ H _ us Q I rx (.inr ⟨_, rfl, q _ H (Same.refl H) (.int _)⟩)
  · cases e
/-- the items of a list or a tuple -/
theorem BR.items (hK : G.K = X.K) {v : V} {d : D} {xs : List D} (b : BR G H O v d) (e : itemsD d = some xs) :
    ∃ p vs, v = .ref p ∧ FRs G H O vs xs ∧ ((SqL X.K H p vs ∧ d = .lst xs) ∨ (SqT X.K H p vs ∧ d = .tup xs)) := by
  unfold itemsD at e
  split at e
  · cases e
    obtain ⟨p1, vs1, rfl, t1, r1⟩ := b.lst
    exact ⟨_, _, rfl, r1, .inl ⟨SqL.of t1, rfl⟩⟩
  · cases e
    obtain ⟨p1, vs1, rfl, t1, r1⟩ := b.tup
    exact ⟨_, _, rfl, r1, .inr ⟨hK ▸ t1, rfl⟩⟩
  · cases e
theorem call_listD (hK : G.K = X.K) : CallR X (.type "list") (rBf G (bfD .list)) := by
  rintro pins s σ H xs us Q I rx ⟨O, ds, r, lv, bs, e, q⟩
  obtain ⟨v, d, rfl, rfl, b, e⟩ := bs.one_of e
  obtain ⟨ys, hn, rfl⟩ := Option.map_eq_some_iff.mp e
  obtain ⟨p, vs, rfl, r1, t⟩ := b.items hK hn
  exact call_list_of pins s σ H _ us Q I rx ⟨p, vs, rfl, t.elim (fun t => .inl t.1) (fun t => .inr t.1), fun l n => q H _ l (Same.refl H) r1 n⟩
theorem call_tupleD (hK : G.K = X.K) : CallR X (.type "tuple") (rBf G (bfD .tuple)) := by
  rintro pins s σ H xs us Q I rx ⟨O, ds, r, lv, bs, e, q⟩
  obtain ⟨v, d, rfl, rfl, b, e⟩ := bs.one_of e
  obtain ⟨ys, hn, rfl⟩ := Option.map_eq_some_iff.mp e
  obtain ⟨p, vs, rfl, r1, t⟩ := b.items hK hn
  refine call_tupF pins s σ H _ us Q I rx ⟨p, vs, rfl, ?_⟩
  rcases t with ⟨t, _⟩ | ⟨t, rfl⟩
  · exact .inl ⟨t, fun l ob n hd => q _ _ (Ext.upd n) (fr_newtup lv n hd r1)⟩
  · exact .inr ⟨t, q _ H (Same.refl H) (seqT_fr (hK ▸ t) b)⟩
theorem ints_vals : ∀ {vs : List V} {ds : List D} {ns : List Int}, FRs G H O vs ds → intsD ds = some ns → vs = ns.map V.int
  | _, _, _, .nil, e => by simp [intsD] at e; subst e; rfl
  | _, _, ns, .cons (d := d) a b, e => by
    cases d with
    | int i =>
      simp only [intsD] at e
      obtain ⟨ms, h1, rfl⟩ := Option.map_eq_some_iff.mp e
      cases a
      rw [ints_vals b h1]
      rfl
    | _ => simp [intsD] at e
theorem maxI_le : ∀ (xs : List Int) (x : Int), (xs.foldl (fun m y => if y > m then y else m) x ∈ x :: xs) ∧ x ≤ xs.foldl (fun m y => if y > m then y else m) x ∧ ∀ y ∈ xs, y ≤ xs.foldl (fun m y => if y > m then y else m) x
  | [], x => ⟨List.mem_cons_self, Int.le_refl _, fun _ h => nomatch h⟩
  | a :: xs, x => by
    obtain ⟨h1, h2, h3⟩ := maxI_le xs (if a > x then a else x)
    have hx : x ≤ (if a > x then a else x) := by split <;> omega
    have ha : a ≤ (if a > x then a else x) := by split <;> omega
    simp only [List.foldl_cons]
    refine ⟨?_, Int.le_trans hx h2, fun y hy => ?_⟩
    · rcases List.mem_cons.mp h1 with h | h
      · rw [h]
        split
        · exact List.mem_cons_of_mem _ List.mem_cons_self
        · exact List.mem_cons_self
      · exact List.mem_cons_of_mem _ (List.mem_cons_of_mem _ h)
    · rcases List.mem_cons.mp hy with h | h
      · rw [h]; exact Int.le_trans ha h2
      · exact h3 y h
theorem minI_le : ∀ (xs : List Int) (x : Int), (xs.foldl (fun m y => if y < m then y else m) x ∈ x :: xs) ∧ xs.foldl (fun m y => if y < m then y else m) x ≤ x ∧ ∀ y ∈ xs, xs.foldl (fun m y => if y < m then y else m) x ≤ y
  | [], x => ⟨List.mem_cons_self, Int.le_refl _, fun _ h => nomatch h⟩
  | a :: xs, x => by
    obtain ⟨h1, h2, h3⟩ := minI_le xs (if a < x then a else x)
    have hx : (if a < x then a else x) ≤ x := by split <;> omega
    have ha : (if a < x then a else x) ≤ a := by split <;> omega
    simp only [List.foldl_cons]
    refine ⟨?_, Int.le_trans h2 hx, fun y hy => ?_⟩
    · rcases List.mem_cons.mp h1 with h | h
      · rw [h]
        split
        · exact List.mem_cons_of_mem _ List.mem_cons_self
        · exact List.mem_cons_self
      · exact List.mem_cons_of_mem _ (List.mem_cons_of_mem _ h)
    · rcases List.mem_cons.mp hy with h | h
      · rw [h]; exact Int.le_trans h2 ha
      · exact h3 y h
theorem maxI_spec {ns : List Int} {m k : Int} (e : maxI ns = some k) (h1 : m ∈ ns) (h2 : ∀ y, y ∈ ns → y ≤ m) : m = k ∧ 0 < ns.length := by
  cases ns with
  | nil => cases h1
  | cons x xs =>
    obtain ⟨g1, g2, g3⟩ := maxI_le xs x
    have e' : xs.foldl (fun m y => if y > m then y else m) x = k := Option.some.inj e
    rw [e'] at g1 g2 g3
    refine ⟨Int.le_antisymm ?_ (h2 _ g1), Nat.succ_pos _⟩
    rcases List.mem_cons.mp h1 with h | h
    · rw [h]; exact g2
    · exact g3 m h
theorem minI_spec {ns : List Int} {m k : Int} (e : minI ns = some k) (h1 : m ∈ ns) (h2 : ∀ y, y ∈ ns → m ≤ y) : m = k ∧ 0 < ns.length := by
  cases ns with
  | nil => cases h1
  | cons x xs =>
    obtain ⟨g1, g2, g3⟩ := minI_le xs x
    have e' : xs.foldl (fun m y => if y < m then y else m) x = k := Option.some.inj e
    rw [e'] at g1 g2 g3
    refine ⟨Int.le_antisymm (h2 _ g1) ?_, Nat.succ_pos _⟩
    rcases List.mem_cons.mp h1 with h | h
    · rw [h]; exact g2
    · exact g3 m h
theorem maxI_pos {ns : List Int} {k : Int} (e : maxI ns = some k) : 0 < ns.length := by
  cases ns with
  | nil => cases e
  | cons x xs => exact Nat.succ_pos _
theorem minI_pos {ns : List Int} {k : Int} (e : minI ns = some k) : 0 < ns.length := by
  cases ns with
  | nil => cases e
  | cons x xs => exact Nat.succ_pos _
theorem call_maxD (hc : X.calm = true) : CallR X (.builtin "max") (rBf G maxD) := by
  rintro pins s σ H xs us Q I rx ⟨O, ds, r, lv, bs, e, q⟩
  unfold maxD at e
  split at e
  · cases e
    obtain ⟨v, w, rfl, b1, b2⟩ := bs.of_two
    have e1 := b1.int
    have e2 := b2.int
    subst e1; subst e2
    exact call_max2 hc pins s σ H _ us Q I rx ⟨_, _, rfl, q _ H (Same.refl H) (.int _)⟩
  · obtain ⟨v, rfl, b⟩ := bs.of_one
    obtain ⟨p1, vs1, rfl, t1, r1⟩ := b.lst
    obtain ⟨ns, hn, e⟩ := Option.bind_eq_some_iff.mp e
    obtain ⟨k, hk, rfl⟩ := Option.map_eq_some_iff.mp e
    have ev := ints_vals r1 hn
    subst ev
    refine cr_max hc pins s σ H _ us Q I rx ⟨p1, ns, rfl, SqL.of t1, maxI_pos hk, fun m h1 h2 => ?_⟩
    rw [(maxI_spec hk h1 h2).1]
    exact q _ H (Same.refl H) (.int _)
  · cases e
mutual
theorem toPy_inj : ∀ a b : D, plain a = true → plain b = true → toPy a = toPy b → a = b
  | .non, b, _, hb, e => by cases b <;> simp_all [toPy, plain]
  | .bl x, b, _, hb, e => by cases b <;> simp_all [toPy, plain]
  | .int x, b, _, hb, e => by cases b <;> simp_all [toPy, plain]
  | .str x, b, _, hb, e => by cases b <;> simp_all [toPy, plain]
  | .tup xs, b, ha, hb, e => by
    cases b with
    | tup ys =>
      simp only [plain] at ha hb
      simp only [toPy, PyData.tuple.injEq] at e
      rw [toPys_inj xs ys ha hb e]
    | _ => simp_all [toPy, plain]
  | .lst xs, b, ha, hb, e => by
    cases b with
    | lst ys =>
      simp only [plain] at ha hb
      simp only [toPy, PyData.list.injEq] at e
      rw [toPys_inj xs ys ha hb e]
    | _ => simp_all [toPy, plain]
  | .dct _, _, ha, _, _ => by simp [plain] at ha
  | .obj _ _, _, ha, _, _ => by simp [plain] at ha
theorem toPys_inj : ∀ xs ys : List D, plains xs = true → plains ys = true → toPys xs = toPys ys → xs = ys
  | [], [], _, _, _ => rfl
  | x :: xs, y :: ys, ha, hb, e => by
    simp only [plains, Bool.and_eq_true] at ha hb
    simp only [toPys, List.cons.injEq] at e
    rw [toPy_inj x y ha.1 hb.1 e.1, toPys_inj xs ys ha.2 hb.2 e.2]
  | [], _ :: _, _, _, e => by simp [toPys] at e
  | _ :: _, [], _, _, e => by simp [toPys] at e
end
theorem plains_mem : ∀ {xs : List D} {x : D}, plains xs = true → x ∈ xs → plain x = true
  | y :: ys, x, h, hx => by
    simp only [plains, Bool.and_eq_true] at h
    rcases List.mem_cons.mp hx with rfl | hx
    · exact h.1
    · exact plains_mem h.2 hx
theorem minL_mem : ∀ (xs : List D) (x : D), xs.foldl (fun m y => if ltToks (toks y) (toks m) then y else m) x ∈ x :: xs
  | [], x => List.mem_cons_self
  | y :: ys, x => by
    rw [List.foldl_cons]
    have := minL_mem ys (if ltToks (toks y) (toks x) then y else x)
    rcases List.mem_cons.mp this with h | h
    · rw [h]
      split
      · exact List.mem_cons_of_mem _ List.mem_cons_self
      · exact List.mem_cons_self
    · exact List.mem_cons_of_mem _ (List.mem_cons_of_mem _ h)
theorem minL_py : ∀ (xs : List D) (x : D), PySem.W.minD (toPy x) (toPys xs) = toPy (xs.foldl (fun m y => if ltToks (toks y) (toks m) then y else m) x)
  | [], x => rfl
  | y :: ys, x => by
    rw [List.foldl_cons, ← minL_py ys]
    show (toPy y :: toPys ys).foldl _ _ = _
    rw [List.foldl_cons]
    unfold PySem.W.minD
    congr 1
    rw [dataLt_toks]
    split <;> rfl
theorem sortable_alike {xs : List D} (h : sortable xs = true) : plains xs = true ∧ deps xs ≤ 100 ∧ AlikeAll (toPys xs) := by
  unfold sortable at h
  simp only [Bool.and_eq_true, List.all_eq_true, decide_eq_true_eq, Bool.or_eq_true] at h
  obtain ⟨⟨h1, h2⟩, h3⟩ := h
  have hp : ∀ ys : List D, (∀ y ∈ ys, plain y = true ∧ dep y ≤ 100) → plains ys = true ∧ deps ys ≤ 100 := fun ys hy => by
    induction ys with
    | nil => exact ⟨rfl, by simp [deps]⟩
    | cons y ys ih =>
      obtain ⟨a, b⟩ := hy y List.mem_cons_self
      obtain ⟨c, d⟩ := ih fun z hz => hy z (List.mem_cons_of_mem _ hz)
      exact ⟨by simp [plains, a, c], by simp [deps]; omega⟩
  obtain ⟨p1, p2⟩ := hp xs h2
  refine ⟨p1, p2, fun x hx y hy => ?_, fun x hx => ?_⟩
  · rw [toPys_map] at hx hy
    obtain ⟨a, ha, rfl⟩ := List.mem_map.mp hx
    obtain ⟨b, hb, rfl⟩ := List.mem_map.mp hy
    rw [toPy_alike _ _ (h2 a ha).1 (h2 b hb).1]
    exact h1 a ha b hb
  · rw [toPys_map] at hx
    obtain ⟨a, ha, rfl⟩ := List.mem_map.mp hx
    refine notNon_py (h2 a ha).1 ?_
    rcases h3 with h3 | h3
    · have := h3 a ha
      cases a <;> simp_all [tup1, notNon]
    · have := h3 a ha
      cases a <;> simp_all [noTup, notNon]
theorem ints_frs {vs : List V} {ds : List D} {ns : List Int} (r : FRs G H O vs ds) (h : intsD ds = some ns) : vs = ns.map V.int := ints_vals r h
theorem call_minD (hK : G.K = X.K) (hu : X.A.units + 105 < cLine) (hc : X.calm = true) : CallR X (.builtin "min") (rBf G minD) := by
  rintro pins s σ H xs us Q I rx ⟨O, ds, r, lv, bs, e, q⟩
  unfold minD at e
  split at e
  · cases e
    obtain ⟨v, w, rfl, b1, b2⟩ := bs.of_two
    have e1 := b1.int
    have e2 := b2.int
    subst e1; subst e2
    exact call_min2 hc pins s σ H _ us Q I rx ⟨_, _, rfl, q _ H (Same.refl H) (.int _)⟩
  · rename_i ys
    obtain ⟨v, rfl, b⟩ := bs.of_one
    obtain ⟨p1, vs1, rfl, t1, r1⟩ := b.lst
    unfold minItems at e
    split at e
    · rename_i ns hn
      obtain ⟨k, hk, rfl⟩ := Option.map_eq_some_iff.mp e
      have ev := ints_vals r1 hn
      subst ev
      refine cr_min hc pins s σ H _ us Q I rx ⟨p1, ns, rfl, SqL.of t1, minI_pos hk, fun m h1 h2 => ?_⟩
      rw [(minI_spec hk h1 h2).1]
      exact q _ H (Same.refl H) (.int _)
    · split at e
      · rename_i hs
        cases ys with
        | nil => cases e
        | cons y ys =>
        have e' : ys.foldl (fun m y => if ltToks (toks y) (toks m) then y else m) y = r ∧ RR G H O r Q = RX G H O r Q := by
          split at e
          · cases e
          · rename_i q1 hq
            have e2 : ys.foldl (fun m y => if ltToks (toks y) (toks m) then y else m) y = r := Option.some.inj e
            refine ⟨e2, ?_⟩
            have hrm : plain r = true := plains_mem (sortable_alike hs).1 (by rw [← e2]; exact minL_mem ys y)
            cases r with
            | lst l => exact (hq l e).elim
            | dct _ => simp [plain] at hrm
            | _ => rfl
        obtain ⟨e', eR⟩ := e'
        obtain ⟨a1, a2, a3⟩ := sortable_alike hs
        obtain ⟨its, rv, hl, _⟩ := I.list (SqL.of t1)
        obtain ⟨as, ra⟩ := r1.reads I hK a1 its rv
        rw [Vals.ref1 rx]
        refine min_list_data (x := toPy y) (xs := toPys ys) (I.ok.hd hc) hl.isList ra a3 ?_ fun i v h' tk bs hi hr hk => ?_
        · have : PyData.depthAll (toPy y :: toPys ys) = deps (y :: ys) := toPys_dep (y :: ys)
          rw [this]
          omega
        · have hi' : its[i]? = some v := by simpa using hi
          have hlt : i < (y :: ys).length := by
            rw [← r1.length, rv.length]
            exact (List.getElem?_eq_some_iff.mp hi').1
          obtain ⟨d, hd⟩ : ∃ d, (y :: ys)[i]? = some d := ⟨_, List.getElem?_eq_getElem hlt⟩
          obtain ⟨z, hz, fd⟩ := r1.get hd
          obtain ⟨u', hu', rz⟩ := Vals.get rv hz
          rw [hi'] at hu'
          cases hu'
          have hdm : plain d = true := plains_mem a1 (List.mem_of_getElem? hd)
          obtain ⟨cs, rc⟩ := fd.reads I hK hdm v rz
          rw [minL_py, e'] at hr
          have hrm : plain r = true := plains_mem a1 (by rw [← e']; exact minL_mem ys y)
          have := SeqAt.plain_unique _ _ v bs cs (toPy_plain r hrm) hr (Reads.keeps hk rc)
          have edr := toPy_inj r d hrm hdm this
          subst edr
          have q' : RX G H O r Q := by rw [← eR]; exact q
          exact ⟨z, H, I.kept hk, rz, q' z H (Same.refl H) fd⟩
      · cases e
  · cases e
theorem call_sumD (hK : G.K = X.K) (hc : X.calm = true) : CallR X (.builtin "sum") (rBf G (bfD .sum)) := by
  rintro pins s σ H xs us Q I rx ⟨O, ds, r, lv, bs, e, q⟩
  obtain ⟨v, d, rfl, rfl, b, e⟩ := bs.one_of e
  obtain ⟨ys, hn, e⟩ := Option.bind_eq_some_iff.mp (show ((itemsD d).bind fun xs => (intsD xs).map fun ns => D.int ns.sum) = some r from e)
  obtain ⟨ns, hns, rfl⟩ := Option.map_eq_some_iff.mp e
  obtain ⟨p, vs, rfl, r1, t⟩ := b.items hK hn
  have ev := ints_vals r1 hns
  subst ev
  rcases t with ⟨t, _⟩ | ⟨t, _⟩
  · exact cr_sum hc pins s σ H _ us Q I rx ⟨p, ns, rfl, t, q _ H (Same.refl H) (.int _)⟩
  · obtain ⟨its, rv, hl, _⟩ := I.tuple t
    rw [Vals.ref1 rx]
    have hi := rv.ints
    obtain ⟨zs, ez⟩ := hi.allInts.items
    have hn2 : numsOf (intItems zs).toList = ns := by rw [← ez]; exact hi.numsOf
    rw [nums_intItems] at hn2
    rw [ez] at hl
    refine PySem.W.ktm_sumG (I.ok.hd hc) hl fun h' tk t' hk => ⟨.int _, H, I.kept hk, ⟨_, rfl⟩, ?_⟩
    have : preSum (numAt zs) zs.size = ns.sum := by rw [preSum_eq, List.take_of_length_le (by simp), hn2]
    rw [this]
    exact q _ H (Same.refl H) (.int _)
/-! index -/
def rIdx (G : Gx) (m : Lm) : V → List V → Hp → VK → Prop := fun x vs H Q => ∃ O d ds r, Live H O ∧ BR G H O x d ∧ FRs G H O vs ds ∧ lmD m d ds = some r ∧ RX G H O r Q
theorem idx_py {a : D} (ha : plain a = true) : ∀ {xs : List D}, plains xs = true → SeqAt.dataPlace (toPys xs) (toPy a) = xs.findIdx? fun x => eqv x a
  | [], _ => by simp [toPys, SeqAt.dataPlace]
  | x :: xs, h => by
    have h' : plain x = true ∧ plains xs = true := by simpa [plains] using h
    have := idx_py ha h'.2
    unfold SeqAt.dataPlace at this ⊢
    simp only [toPys, List.findIdx?_cons, toPy_eqv x a h'.1 ha, this]
theorem idx_at {pins : List (Addr × Obj)} {σ : L2.St} {s : Shared} {vs : List V} {xs : List D} {its : List Value} {w : V} {y : D} {uy : Value} {r : D} (I : Inv X pins σ H s) (hK : G.K = X.K) (hu : X.A.units + 105 < cLine) (f : FRs G H O vs xs) (rv : Vals vs its) (fy : FR G H O w y) (ry : RelV w uy) (e : idxOf y xs = some r) :
    ∃ (j : Nat) (d : PyData), ∃ hj : j < its.toArray.size, r = .int j ∧ PyData.eqv (SeqAt.readOf s.heap its.toArray[j]) d = true ∧ (∀ m (hm : m < its.toArray.size), m < j → PyData.eqv (SeqAt.readOf s.heap its.toArray[m]) d = false) ∧
      ∀ u, u ∈ its.toArray → SeqAt.EqAt X.A.in1 s u uy (PyData.eqv (SeqAt.readOf s.heap u) d) := by
  unfold idxOf at e
  split at e
  · rename_i h
    simp only [Bool.and_eq_true, decide_eq_true_eq] at h
    obtain ⟨⟨h1, h2⟩, h3⟩ := h
    obtain ⟨j, hj, rfl⟩ := Option.map_eq_some_iff.mp e
    obtain ⟨as, ra⟩ := f.reads I hK h2 its rv
    obtain ⟨bs, rb⟩ := fy.reads I hK h1 uy ry
    have ra : ReadsAll s.heap its.toArray.toList (toPys xs) as := by simpa using ra
    obtain ⟨g1, g2, g3⟩ := SeqAt.hit_at (d := toPy y) ra (toPys_plain _ h2) ((idx_py h1 h2).trans hj)
    exact ⟨j, toPy y, g1, rfl, g2, g3, SeqAt.items_plain ra rb (toPys_plain _ h2) (toPy_plain _ h1) (by rw [toPys_dep, toPy_dep]; omega)⟩
  · cases e
theorem mt_idxL (hK : G.K = X.K) (hu : X.A.units + 105 < cLine) : MtR X "list.index" (rIdx G .index) := by
  rintro pins s σ H x xs v us Q I rx rs ⟨O, d, ds, r, lv, b, f, e, q⟩
  unfold lmD at e
  split at e
  · rename_i ys y _
    obtain ⟨w, rfl, fw⟩ := f.of_one
    obtain ⟨uy, rfl, ry⟩ := vals1 rs
    obtain ⟨p1, vs1, rfl, t1, r1⟩ := b.lst
    cases rx
    obtain ⟨its, rv, ⟨⟨cls, dd, data, sl⟩, n, ho, hc, hdn, hdt⟩, hz⟩ := I.list (SqL.of t1)
    simp only at hc hdt
    subst hc hdt
    obtain ⟨j, dy, hj, rfl, g1, g2, g3⟩ := idx_at I hK hu r1 rv fw ry e
    have hsl := sizeLine_eq
    have hvl := rv.length
    have hj2 : j < its.length := by simpa using hj
    exact call_meets PySem.F.slot_list_index ⟨_, ho, rfl⟩ PySem.F.entry_list_index (PySem.F.args_list_index_2 _ _) (SeqAt.list_indexAt p1 its.toArray n dd sl uy (fun u => PyData.eqv (SeqAt.readOf s.heap u) dy) j hj (by omega) g1 g2) ⟨ho, g3, ⟨.int (j : Nat), H, I.tok _, ⟨_, rfl⟩, q _ H (Same.refl H) (.int _)⟩⟩
  · rename_i h; cases h
  · cases e
theorem mt_idxT (hK : G.K = X.K) (hu : X.A.units + 105 < cLine) : MtR X "tuple.index" (rIdx G .indexT) := by
  rintro pins s σ H x xs v us Q I rx rs ⟨O, d, ds, r, lv, b, f, e, q⟩
  unfold lmD at e
  split at e
  · rename_i h; cases h
  · rename_i ys y _
    obtain ⟨w, rfl, fw⟩ := f.of_one
    obtain ⟨uy, rfl, ry⟩ := vals1 rs
    obtain ⟨p1, vs1, rfl, t1, r1⟩ := b.tup
    cases rx
    obtain ⟨its, rv, ⟨⟨cls, dd, data, sl⟩, ho, hc, n, hdt⟩, hz⟩ := I.tuple (hK ▸ t1)
    simp only at hc hdt
    subst hc hdt
    obtain ⟨j, dy, hj, rfl, g1, g2, g3⟩ := idx_at I hK hu r1 rv fw ry e
    exact call_meets PySem.F.slot_tuple_index ⟨_, ho, rfl⟩ PySem.F.entry_tuple_index (PySem.F.args_tuple_index_2 _ _) (TI.tuple_indexAt p1 its.toArray n dd sl uy (fun u => PyData.eqv (SeqAt.readOf s.heap u) dy) j hj g1 g2) ⟨ho, g3, ⟨.int (j : Nat), H, I.tok _, ⟨_, rfl⟩, q _ H (Same.refl H) (.int _)⟩⟩
  · cases e
/-- a value of the machine that stands for data in the abstract heap -/
def VD (G : Gx) (H : Hp) (O : Addr → Prop) (u : Value) (d : D) : Prop := ∃ v, RelV v u ∧ FR G H O v d
theorem each_of : ∀ {vs : List V} {ds : List D} {us : List Value}, FRs G H O vs ds → Vals vs us → EachIs (VD G H O) us ds
  | _, _, _, .nil, r => by cases r; exact .nil
  | _, _, _, .cons a b, r => by
    cases r with
    | cons r1 r2 => exact .cons ⟨_, r1, a⟩ (each_of b r2)
theorem of_each : ∀ {us : List Value} {ds : List D}, EachIs (VD G H O) us ds → ∃ vs, Vals vs us ∧ FRs G H O vs ds
  | _, _, .nil => ⟨[], .nil, .nil⟩
  | _, _, .cons ⟨v, r, f⟩ t => by
    obtain ⟨vs, h1, h2⟩ := of_each t
    exact ⟨v :: vs, .cons r h1, .cons f h2⟩
theorem sortable_plains {xs : List D} (h : sortable xs = true) : plains xs = true := by
  unfold sortable at h
  simp only [Bool.and_eq_true, List.all_eq_true, decide_eq_true_eq] at h
  have h2 := h.1.2
  clear h
  induction xs with
  | nil => rfl
  | cons x xs ih => simp only [plains, (h2 x List.mem_cons_self).1, ih fun y hy => h2 y (List.mem_cons_of_mem _ hy), Bool.and_self]
theorem each_reads (I : ∃ pins σ, Inv X pins σ H s) (hK : G.K = X.K) : ∀ {us : List Value} {ds : List D}, EachIs (VD G H O) us ds → plains ds = true → EachIs (fun u d => ∃ as, Reads s.heap u (toPy d) as) us ds
  | _, _, .nil, _ => .nil
  | _, _, .cons (b := d) (bs := ds) ⟨v, r, f⟩ t, hp => by
    have h' : plain d = true ∧ plains ds = true := by simpa [plains] using hp
    obtain ⟨pins, σ, I'⟩ := id I
    exact .cons (f.reads I' hK h'.1 _ r) (each_reads I hK t h'.2)
theorem call_sortedD' (hK : G.K = X.K) (hu : X.A.units + 105 < cLine) : CallR X (.builtin "sorted") (rBf G (bfD .sorted)) := by
  rintro pins s σ H xs us Q I rx ⟨O, ds, r, lv, bs, e, q⟩
  obtain ⟨v, d, rfl, rfl, b, e⟩ := bs.one_of e
  obtain ⟨ys, hn, e⟩ := Option.bind_eq_some_iff.mp e
  split at e
  · rename_i hs
    cases e
    obtain ⟨p, vs, rfl, r1, t⟩ := b.items hK hn
    obtain ⟨u, rfl, ru⟩ := vals1 rx
    cases ru
    have key : ∀ (T : String) (o : Obj) (n : Nat) (its : List Value), T = "list" ∨ T = "tuple" → s.heap.get? p = some o → o.cls = .type T → o.data = .seq its.toArray n → Vals vs its → vs.length ≤ sizeLine →
        wpAny (model X.prog X.w) X.A (call (.builtin "sorted") [.ref p]) (EP X pins σ Q) X.xe s := by
      intro T o n its hT ho hc hd rv hz
      have e1 := each_of r1 rv
      refine sorted_seq hT ho hc hd e1 (each_reads ⟨pins, σ, I⟩ hK e1 (sortable_plains hs)) hs (by rw [← r1.length]; exact hz) hu fun h1 h' l c out k1 k2 hp hl eo => ?_
      obtain ⟨ws, w1, w2⟩ := of_each eo
      have I1 : Inv X pins σ H { s with heap := h1 } := I.kept (t' := s.toks) k1
      have n : H l = none := I1.hok.fresh hp
      have hlen : ws.length ≤ sizeLine := by
        rw [w2.length, ← sortD_eq, List.length_mergeSort, ← r1.length]
        exact hz
      have I2 : Inv X pins σ (upd H l (.lst ws)) { s with heap := h' } := I1.laid (a := l) (o := .lst ws) (h' := h') (t' := s.toks) k2 hp ⟨hlen, out, c, w1, hl⟩
      exact ⟨.ref l, _, I2, rfl, q H ws l (Same.refl H) w2 n⟩
    rcases t with ⟨t, _⟩ | ⟨t, _⟩
    · obtain ⟨its, rv, ⟨o, n, ho, hc, _, hd⟩, hz⟩ := I.list t
      exact key "list" o n its (.inl rfl) ho hc hd rv hz
    · obtain ⟨its, rv, ⟨o, ho, hc, n, hd⟩, hz⟩ := I.tuple t
      exact key "tuple" o n its (.inr rfl) ho hc hd rv hz
  · cases e
end
end Bh
/-! text Bh4e -/
set_option Elab.async false
set_option linter.all false
set_option maxRecDepth 100000
set_option maxHeartbeats 1000000
/-! Bh4e: dict(pairs), len of a dict. -/
namespace Bh
open PySem PySem.W L2 PyProof.Rows
/-! ### len of a dict, by its entries alone -/
section
variable {prog : Program} {w : World} {A : Around} {E : Value → Shared → Prop} {s : Shared}
def RawD (h : Heap) (d : Addr) (es : Array DictEntry) : Prop := ∃ o ep, h.get? d = some o ∧ o.ExactDict ∧ o.data = .dict es ep
theorem RawD.ty {es : Array DictEntry} {d : Addr} (x : RawD s.heap d es) : s.TypeIs (.ref d) "dict" := let ⟨o, _, ho, hc, _⟩ := x; ⟨o, ho, hc.1⟩
theorem meets_len_raw (d : Addr) (es : Array DictEntry) (hd : (d == sysModules) = false) :
    MeetsIn prog w (Builtin.«dict.__len__» ⟨[.ref d], []⟩) (fun _ R s => RawD s.heap d es ∧ R (.ok (.ret (.int es.size s.toks))) { s with toks := s.toks + 1 }) :=
  .of_wp fun A R s ⟨hm, h⟩ => by
    obtain ⟨o, ep, ho, hc, hdat⟩ := hm
    show wpAny _ _ (dictSize d >>= _) _ _ s
    unfold dictSize
    refine wpAny_bind (wpAny_bind (wpAny_dictEntries ho hdat (wpAny_pure ?_)))
    show wpAny _ _ (Builtin.Dict.pendingCount d >>= _) _ _ s
    refine wpAny_bind (wpAny_pendingCount_other hd ?_)
    refine wpAny_ret_mkInt ?_
    rw [Nat.add_zero]; exact h
theorem len_body_raw {d : Addr} {es : Array DictEntry} {Q : Value → Shared → Prop} (hd : (d == sysModules) = false) (hm : RawD s.heap d es) (hfit : (es.size : Int) < 2 ^ 63)
    (h : Q (.int es.size (s.toks + 1)) { s with toks := s.toks + 1 + 1 }) : wpAny (model prog w) A (Builtin.«len» ⟨[.ref d], []⟩) (fun fin s' => ∃ r, fin = .done (.ret r) ∧ Q r s') E s := by
  unfold Builtin.«len»
  refine wpAny_bind (m := oneArg "len" _) (wpAny_pure ?_)
  refine wpAny_bind (m := callSpecial? (.ref d) (Str.ofString "__len__")) (wpAny_callSpecial?_slot (name := Str.ofString "__len__") hm.ty F.slot_dict_len
    (call_meetsIn F.slot_dict_len hm.ty F.entry_dict_len (F.args_dict_len_1 _) (meets_len_raw d es hd) ⟨hm, ?_⟩))
  show wpAny _ _ _ _ _ { s with toks := s.toks + 1 }
  refine wpAny_bind (wpAny_holding (wpAny_pure ?_))
  refine wpAny_bind (wpAny_letGo ?_)
  show wpAny _ _ (if ((es.size : Nat) : Int) < 0 then _ else _) _ _ _
  rw [if_neg (by omega)]
  show wpAny _ _ (if ((es.size : Nat) : Int) ≥ 2 ^ 63 then _ else _) _ _ _
  rw [if_neg (by omega)]
  exact wpAny_bind (wpAny_mkInt (wpAny_pure ⟨_, rfl, h⟩))
theorem call_len_raw {d : Addr} {es : Array DictEntry} {Q : Value → Shared → Prop} (hd : (d == sysModules) = false) (hm : RawD s.heap d es) (hfit : (es.size : Int) < 2 ^ 63)
    (h : Q (.int es.size (s.toks + 1)) { s with toks := s.toks + 1 + 1 }) : wpAny (model prog w) A (call (.builtin "len") [.ref d]) Q E s :=
  Calls.call_function_entry kind_len plain_len entry_len (args_len1 _) (len_body_raw hd hm hfit h)
end
section
variable {X : Cx} {G : Gx} {H : Hp} {O : Addr → Prop}
theorem call_lenD' (hK : G.K = X.K) : CallR X (.builtin "len") (rBf G (bfD .len)) := by
  rintro pins s σ H xs us Q I rx ⟨O, ds, r, lv, bs, e, q⟩
  obtain ⟨v, d, rfl, rfl, b, e⟩ := bs.one_of e
  obtain ⟨n, hn, rfl⟩ := Option.map_eq_some_iff.mp e
  have q' := q (.int n) H (Same.refl H) (.int _)
  unfold lenD at hn
  split at hn
  · cases hn
    obtain ⟨p1, vs1, rfl, t1, r1⟩ := b.lst
    exact call_len pins s σ H _ us Q I rx ⟨_, _, rfl, .inl ⟨vs1, SqL.of t1, r1.length.symm⟩, q'⟩
  · cases hn
    obtain ⟨p1, vs1, rfl, t1, r1⟩ := b.tup
    exact call_len pins s σ H _ us Q I rx ⟨_, _, rfl, .inr ⟨vs1, hK ▸ t1, r1.length.symm⟩, q'⟩
  · split at hn
    · rename_i hl
      cases hn
      have e1 := b.str
      subst e1
      refine call_len pins s σ H _ us Q I rx ⟨_, _, rfl, ⟨?_, rfl⟩, ?_⟩
      · have := okLen_le hl
        simpa [Str.length] using this
      · simpa [Str.length] using q'
    · cases hn
  · cases hn
    obtain ⟨p1, rfl, c⟩ := b.dct
    obtain ⟨u, rfl, rv⟩ := vals1 rx
    obtain rfl : u = .ref p1 := rv
    cases c with
    | dct h0 h1 h2 h3 h4 f h5 =>
      rename_i o es ep
      have ho : s.heap.get? p1 = some o := (I.hok p1 _ h0).1
      have hl := (Array.length_toList (xs := es)).symm.trans f.length
      refine call_len_raw h4 ⟨o, ep, ho, h1, h2⟩ (by rw [sizeLine_eq] at h3; omega) ?_
      rw [hl]
      exact ⟨.int _, H, I.tok _, ⟨_, rfl⟩, q'⟩
  · cases hn
/-! ### keys -/
mutual
theorem nk_eqv : ∀ a b : D, keyOk a = true → keyOk b = true → (eqv a b = true ↔ nk a = nk b)
  | .non, b, _, hb => by cases b <;> first | (simp [keyOk] at hb; done) | simp [eqv, nk]
  | .int _, b, _, hb => by cases b <;> first | (simp [keyOk] at hb; done) | simp [eqv, nk]
  | .str x, b, _, hb => by
    cases b with
    | str y => simp only [eqv, nk, beq_iff_eq, NestedKey.text.injEq, Str.mk.injEq, Array.mk.injEq]
    | _ => first | (simp [keyOk] at hb; done) | simp [eqv, nk]
  | .tup xs, b, ha, hb => by
    cases b with
    | tup ys =>
      simp only [eqv, nk, NestedKey.tup.injEq]
      exact nks_eqv xs ys (by simpa [keyOk] using ha) (by simpa [keyOk] using hb)
    | _ => first | (simp [keyOk] at hb; done) | simp [eqv, nk]
  | .bl _, _, ha, _ => by simp [keyOk] at ha
  | .lst _, _, ha, _ => by simp [keyOk] at ha
  | .dct _, _, ha, _ => by simp [keyOk] at ha
  | .obj _ _, _, ha, _ => by simp [keyOk] at ha
theorem nks_eqv : ∀ xs ys : List D, keyOks xs = true → keyOks ys = true → (eqvs xs ys = true ↔ nks xs = nks ys)
  | [], [], _, _ => by simp [eqvs, nks]
  | [], _ :: _, _, _ => by simp [eqvs, nks]
  | _ :: _, [], _, _ => by simp [eqvs, nks]
  | x :: xs, y :: ys, ha, hb => by
    have h1 : keyOk x = true ∧ keyOks xs = true := by simpa [keyOks] using ha
    have h2 : keyOk y = true ∧ keyOks ys = true := by simpa [keyOks] using hb
    simp only [eqvs, nks, Bool.and_eq_true, nk_eqv x y h1.1 h2.1, nks_eqv xs ys h1.2 h2.2, List.cons.injEq]
end
mutual
theorem nk_depth : ∀ d : D, keyOk d = true → (nk d).depth = dep d
  | .non, _ => by simp [nk, NestedKey.depth, dep]
  | .int _, _ => by simp [nk, NestedKey.depth, dep]
  | .str _, _ => by simp [nk, NestedKey.depth, dep]
  | .tup xs, h => by simp only [nk, NestedKey.depth, dep, nks_depth xs (by simpa [keyOk] using h)]
  | .bl _, ha => by simp [keyOk] at ha
  | .lst _, ha => by simp [keyOk] at ha
  | .dct _, ha => by simp [keyOk] at ha
  | .obj _ _, ha => by simp [keyOk] at ha
theorem nks_depth : ∀ xs : List D, keyOks xs = true → NestedKey.depthAll (nks xs) = deps xs
  | [], _ => by simp [nks, NestedKey.depthAll, deps]
  | x :: xs, h => by
    have h1 : keyOk x = true ∧ keyOks xs = true := by simpa [keyOks] using h
    simp only [nks, NestedKey.depthAll, deps, nk_depth x h1.1, nks_depth xs h1.2]
end
section
variable {pins : List (Addr × Obj)} {σ : L2.St} {s : Shared}
theorem tup_nested (I : Inv X pins σ H s) {a : Addr} {vs : List V} (h : SqT X.K H a vs) {ks : List NestedKey} (k : ∀ us, Vals vs us → NestedAll s.heap ks us) : NestedIs s.heap (.tup ks) (.ref a) := by
  obtain ⟨its, r, ⟨o, ho, hc, n, hd⟩, _⟩ := I.tuple h
  exact .tup ho hc hd (by simpa using k its r)
mutual
theorem FR.nested (I : Inv X pins σ H s) (hK : G.K = X.K) : ∀ {v : V} {d : D}, FR G H O v d → keyOk d = true → ∀ u, RelV v u → NestedIs s.heap (nk d) u
  | _, _, .non, _, _, r => by cases r; exact .none
  | _, _, .bl b, h, _, r => by simp [keyOk] at h
  | _, _, .int i, _, _, ⟨t, e⟩ => by cases e; exact .int i t
  | _, _, .str x, _, _, ⟨t, e⟩ => by cases e; exact .text _ t
  | _, _, .tup (ds := ds) e hd n r, hp, u, hu => by
    cases hu
    exact tup_nested I (sqF e) fun us q => FRs.nested I hK r (by simpa [keyOk] using hp) us q
  | _, _, .tupk (ds := ds) k r, hp, u, hu => by
    cases hu
    exact tup_nested I (hK ▸ k).sq fun us q => FRs.nested I hK r (by simpa [keyOk] using hp) us q
  | _, _, .lst e n r, hp, u, hu => by simp [keyOk] at hp
  | _, _, .dct _ _ _ _ _ _ _ _, hp, _, _ => by simp [keyOk] at hp
  | _, _, .obj _ _ _, hp, _, _ => by simp [keyOk] at hp
theorem FRs.nested (I : Inv X pins σ H s) (hK : G.K = X.K) : ∀ {vs : List V} {ds : List D}, FRs G H O vs ds → keyOks ds = true → ∀ us, Vals vs us → NestedAll s.heap (nks ds) us
  | _, _, .nil, _, us, r => by cases r; exact .nil
  | _, _, .cons (d := d) (ds := ds) a b, hp, us, r => by
    have h' : keyOk d = true ∧ keyOks ds = true := by simpa [keyOks] using hp
    cases r with
    | cons r1 r2 => exact .cons (FR.nested I hK a h'.1 _ r1) (FRs.nested I hK b h'.2 _ r2)
end
end
/-! ### storing -/
/-- an entry -/
def KR (G : Gx) (H : Hp) (O : Addr → Prop) (x : NestedKey × Addr × Value) (q : D × D) : Prop := x.1 = nk q.1 ∧ keyOk q.1 = true ∧ FR G H O (.ref x.2.1) q.1 ∧ ∃ v, RelV v x.2.2 ∧ FR G H O v q.2
abbrev NX := NestedKey × Addr × Value
theorem put_new {k : D} {v : D} {a : Addr} {u : Value} (hk : keyOk k = true) (n : KR G H O (nk k, a, u) (k, v)) : ∀ {xs : List NX} {kvs : List (D × D)}, Paired (KR G H O) xs kvs → (∀ x ∈ xs, x.1 ≠ nk k) → Paired (KR G H O) (xs ++ [(nk k, a, u)]) (dput k v kvs)
  | _, _, .nil, _ => .cons n .nil
  | _, _, .cons (a := x) (b := q) h t, ne => by
    have hx := ne x List.mem_cons_self
    have hf : eqv q.1 k = false := by
      cases he : eqv q.1 k with
      | false => rfl
      | true => exact absurd (h.1.trans ((nk_eqv _ _ h.2.1 hk).mp he)) hx
    show Paired _ _ (if eqv q.1 k then _ else _)
    rw [hf, if_neg (by decide)]
    exact .cons h (put_new hk n t fun y hy => ne y (List.mem_cons_of_mem _ hy))
theorem put_id {k : NestedKey} {u : Value} {xs : List NX} (ne : ∀ x ∈ xs, x.1 ≠ k) : xs.map (putAt k u) = xs := by
  refine (List.map_congr_left fun x hx => ?_).trans (List.map_id xs)
  unfold putAt
  rw [if_neg (ne x hx)]
  rfl
theorem put_old {k v : D} {u : Value} (hk : keyOk k = true) (n : ∃ y, RelV y u ∧ FR G H O y v) : ∀ {xs : List NX} {kvs : List (D × D)}, Paired (KR G H O) xs kvs → (xs.map (·.1)).Nodup → (∃ x ∈ xs, x.1 = nk k) → Paired (KR G H O) (xs.map (putAt (nk k) u)) (dput k v kvs)
  | _, _, .nil, _, ⟨_, z, _⟩ => by cases z
  | _, _, .cons (a := x) (b := q) (l₁ := xs) h t, nd, ⟨y, hy, ey⟩ => by
    rw [List.map_cons, List.nodup_cons] at nd
    have e := nk_eqv q.1 k h.2.1 hk
    rw [← h.1] at e
    show Paired _ _ (if eqv q.1 k then _ else _)
    by_cases hx : x.1 = nk k
    · rw [if_pos (e.mpr hx), List.map_cons, put_id fun z hz hk' => nd.1 (by rw [hx, ← hk']; exact List.mem_map_of_mem hz)]
      refine .cons ?_ t
      unfold putAt
      rw [if_pos hx]
      exact ⟨h.1, h.2.1, h.2.2.1, n⟩
    · rw [if_neg fun z => hx (e.mp z), List.map_cons]
      refine .cons ?_ (put_old hk n t nd.2 ?_)
      · unfold putAt
        rw [if_neg hx]
        exact h
      · rcases List.mem_cons.mp hy with z | z
        · exact absurd (z ▸ ey) hx
        · exact ⟨y, z, ey⟩
theorem put_keys {k : NestedKey} {u : Value} (xs : List NX) : (xs.map (putAt k u)).map (·.1) = xs.map (·.1) := by
  rw [List.map_map]
  refine List.map_congr_left fun x _ => ?_
  show (putAt k u x).1 = x.1
  unfold putAt
  split <;> rfl
theorem atKey_some {xs : List NX} {k : NestedKey} (h : (atKey xs k).isSome = true) : ∃ x ∈ xs, x.1 = k := by
  unfold atKey at h
  rw [Option.isSome_map, List.find?_isSome] at h
  obtain ⟨x, hx, e⟩ := h
  exact ⟨x, hx, of_decide_eq_true e⟩
theorem atKey_none {xs : List NX} {k : NestedKey} (h : ¬ (atKey xs k).isSome = true) : ∀ x ∈ xs, x.1 ≠ k := fun x hx e => h (by
  unfold atKey
  rw [Option.isSome_map, List.find?_isSome]
  exact ⟨x, hx, decide_eq_true e⟩)
theorem stored_kr {k v : D} {a : Addr} {u : Value} (hk : keyOk k = true) (n : KR G H O (nk k, a, u) (k, v)) {xs : List NX} {kvs : List (D × D)} (t : Paired (KR G H O) xs kvs) (nd : (xs.map (·.1)).Nodup) :
    Paired (KR G H O) (storedH xs (nk k) a u) (dput k v kvs) ∧ ((storedH xs (nk k) a u).map (·.1)).Nodup := by
  unfold storedH
  by_cases h : (atKey xs (nk k)).isSome = true
  · rw [if_pos h, put_keys]
    exact ⟨put_old hk n.2.2.2 t nd (atKey_some h), nd⟩
  · rw [if_neg h]
    refine ⟨put_new hk n t (atKey_none h), ?_⟩
    rw [List.map_append, List.nodup_append]
    refine ⟨nd, by simp, fun a ha b hb => ?_⟩
    obtain ⟨x, hx, rfl⟩ := List.mem_map.mp ha
    have hb' : b = nk k := by simpa using hb
    rw [hb']
    exact atKey_none h x hx
/-- the pairs of a list, one after the other -/
inductive PL (X : Cx) (G : Gx) (H : Hp) (O : Addr → Prop) (s : Shared) : List V → List D → List Value → List NX → Prop
  | nil : PL X G H O s [] [] [] []
  | cons {b a : Addr} {k v : D} {uk u : Value} {vs : List V} {ds : List D} {us : List Value} {ps : List NX} : IsTup s.heap b #[.ref a, u] → KR G H O (nk k, a, u) (k, v) → NestedIs s.heap (nk k) (.ref a) → keyT k = true → PL X G H O s vs ds us ps → PL X G H O s (.ref b :: vs) (.tup [k, v] :: ds) (.ref b :: us) ((nk k, a, u) :: ps)
theorem keyT_spec {k : D} (h : keyT k = true) : (∃ xs, k = .tup xs) ∧ keyOk k = true ∧ dep k ≤ 8 := by
  simp only [keyT, Bool.and_eq_true, decide_eq_true_eq] at h
  refine ⟨?_, h.1.2, h.2⟩
  cases k with
  | tup xs => exact ⟨xs, rfl⟩
  | _ => simp [isTup] at h
theorem FRs.two {vs : List V} {k v : D} (h : FRs G H O vs [k, v]) : ∃ x y, vs = [x, y] ∧ FR G H O x k ∧ FR G H O y v := by
  cases h with
  | cons a r => cases r with
    | cons b r => cases r; exact ⟨_, _, rfl, a, b⟩
theorem pl_of {pins : List (Addr × Obj)} {σ : L2.St} {s : Shared} (I : Inv X pins σ H s) (hK : G.K = X.K) : ∀ {ds : List D} {vs : List V} {us : List Value} {acc res : List (D × D)}, FRs G H O vs ds → Vals vs us → dmkT ds acc = some res → ∃ ps, PL X G H O s vs ds us ps
  | [], _, _, _, _, .nil, r, _ => by cases r; exact ⟨_, .nil⟩
  | d :: ds, _, _, acc, res, .cons a r, .cons ru rs, h => by
    unfold dmkT at h
    split at h
    · rename_i e; cases e
    · rename_i k v r1 e1
      cases e1
      split at h
      · rename_i hk
        obtain ⟨⟨xs, ek⟩, k2, k3⟩ := keyT_spec hk
        obtain ⟨ps, hp⟩ := pl_of I hK r rs h
        obtain ⟨b, vs2, eb, hb, fb⟩ := (show BR G H O _ _ from .inl a).tup
        obtain ⟨x, y, e3, fx, fy⟩ := fb.two
        subst eb e3
        obtain rfl : _ = Value.ref b := ru
        obtain ⟨its, rv, ht, _⟩ := I.tuple (hK ▸ hb)
        obtain ⟨u1, u2, ei, r1, r2⟩ := vals2 rv
        subst ei
        subst ek
        obtain ⟨a1, vs3, ea, _, _⟩ := (show BR G H O _ _ from .inl fx).tup
        subst ea
        obtain rfl : u1 = Value.ref a1 := r1
        exact ⟨_, .cons (uk := .none) (by simpa using ht) ⟨rfl, k2, fx, _, r2, fy⟩ (fx.nested I hK k2 _ rfl) hk hp⟩
      · cases h
    · cases h
theorem pl_stored {s : Shared} : ∀ {ds : List D} {vs : List V} {us : List Value} {ps : List NX} {acc res : List (D × D)} {xs : List NX}, PL X G H O s vs ds us ps → dmkT ds acc = some res → Paired (KR G H O) xs acc → (xs.map (·.1)).Nodup → Paired (KR G H O) (storedAllH xs ps) res ∧ ((storedAllH xs ps).map (·.1)).Nodup
  | _, _, _, _, acc, res, xs, .nil, h, t, nd => by
    simp only [dmkT, Option.some.injEq] at h
    subst h
    exact ⟨t, nd⟩
  | _, _, _, _, acc, res, xs, .cons (k := k) (v := v) (a := a) (u := u) h1 h2 h3 h4 h5, h, t, nd => by
    simp only [dmkT, h4, if_true] at h
    obtain ⟨g1, g2⟩ := stored_kr (keyT_spec h4).2.1 h2 t nd
    exact pl_stored (xs := storedH xs (nk k) a u) h5 h g1 g2
theorem pl_at {s : Shared} : ∀ {ds : List D} {vs : List V} {us : List Value} {ps : List NX}, PL X G H O s vs ds us ps → us.length = ps.length ∧ ∀ (j : Nat) (x : NX), ps[j]? = some x → ∃ b, us[j]? = some (.ref b) ∧ IsTup s.heap b #[.ref x.2.1, x.2.2] ∧ NestedIs s.heap x.1 (.ref x.2.1) ∧ x.1.depth ≤ 8
  | _, _, _, _, .nil => ⟨rfl, fun j x h => by simp at h⟩
  | _, _, _, _, .cons h1 h2 h3 h4 h5 => by
    obtain ⟨l, f⟩ := pl_at h5
    refine ⟨by rw [List.length_cons, List.length_cons, l], fun j x h => ?_⟩
    cases j with
    | zero =>
      rw [List.getElem?_cons_zero, Option.some.injEq] at h
      subst h
      obtain ⟨_, k2, k3⟩ := keyT_spec h4
      exact ⟨_, rfl, h1, h3, by rw [nk_depth _ k2]; exact k3⟩
    | succ j =>
      rw [List.getElem?_cons_succ] at h ⊢
      exact f j x h
theorem fre_of (hW : G.w = X.w) : ∀ {xs : List NX} {kvs : List (D × D)}, Paired (KR G H O) xs kvs → FRe G H O (xs.map (entryOfKey (nestedKind X.prog X.w))) kvs
  | _, _, .nil => .nil
  | _, _, .cons (a := x) (b := (k, d)) ⟨h1, h2, h3, v, h4, h5⟩ t => .cons (by rw [hW, ← h1]; rfl) (show RelV (.ref x.2.1) (.ref x.2.1) from rfl) h3 h4 h5 (fre_of hW t)
theorem keys_of : ∀ {xs : List NX} {kvs : List (D × D)}, Paired (KR G H O) xs kvs → kvs.map (fun q => nk q.1) = xs.map (·.1)
  | _, _, .nil => rfl
  | _, _, .cons h t => by rw [List.map_cons, List.map_cons, keys_of t, h.1]
/-- dict(pairs), the keys being tuples -/
theorem call_dictNK (hK : G.K = X.K) (hW : G.w = X.w) (hc : X.calm = true) (hu : X.A.units + 40 < cLine) : CallR X (.type "dict") (rBf G (bfD .dict)) := by
  rintro pins s σ H xs us Q I rx ⟨O, ds, r, lv, bs, e, q⟩
  obtain ⟨v, d, rfl, rfl, b, e⟩ := bs.one_of e
  unfold dictD at e
  split at e
  · obtain ⟨kvs, hn, rfl⟩ := Option.map_eq_some_iff.mp e
    obtain ⟨l, vs, rfl, hl, f⟩ := b.lst
    obtain ⟨u, rfl, rv⟩ := vals1 rx
    obtain rfl : u = .ref l := rv
    obtain ⟨its, rits, pl, hz⟩ := I.list (SqL.of hl)
    obtain ⟨ps, hp⟩ := pl_of I hK f rits hn
    obtain ⟨pll, pat⟩ := pl_at hp
    obtain ⟨st1, st2⟩ := pl_stored hp hn .nil List.nodup_nil
    obtain ⟨o, n, ho, hcl, hd, hdat⟩ := pl
    let Ts : Nat → Addr := fun j => match its[j]? with
      | some (.ref b) => b
      | _ => 0
    have hlen : ps.length ≤ sizeLine := by rw [← pll, ← rits.length]; exact hz
    let pv : List (Value × Value) := ps.map fun x => (.ref x.2.1, x.2.2)
    have hpl : pv.length = ps.length := List.length_map ..
    refine call_dict_pairsH (knd := nestedKind X.prog X.w) (ps := ps) (PairArg.list l its.toArray Ts pv) (I.ok.hd hc) (show X.A.in1.in1.units + 8 < cLine by simp only [Around.in1_units]; omega) ⟨⟨o, n, ho, hcl, hd, hdat⟩, ?_, fun j k v hj => ?_⟩ ⟨hpl.symm, fun i k v hj => ?_⟩ (fun h' hk x hx => ?_) (by rw [hpl]; exact hlen) fun h' tk hd' hk => ?_
    · rw [hpl, ← pll]; simp
    · rw [List.getElem?_map] at hj
      obtain ⟨x, hx, e2⟩ := Option.map_eq_some_iff.mp hj
      cases e2
      obtain ⟨b, e3, e4, _⟩ := pat j x hx
      have eT : Ts j = b := by show (match its[j]? with | some (.ref b) => b | _ => 0) = b; rw [e3]
      rw [eT]
      exact ⟨by simpa using e3, .inl e4⟩
    · rw [PairRel, List.getElem?_map] at hj
      obtain ⟨x, hx, e2⟩ := Option.map_eq_some_iff.mp hj
      cases e2
      exact ⟨x.1, x.2.1, hx, rfl⟩
    · obtain ⟨j, hj⟩ := List.mem_iff_getElem?.mp hx
      obtain ⟨b, _, _, e5, e6⟩ := pat j x hj
      exact nestedKind_stays.stays (fun b o vs n e _ => hk b o (Nat.ne_of_lt (Heap.lt_size e)) (by simp) e) ⟨e5, e6⟩
    · obtain ⟨o', es, ep, g1, g2, g3, g4, _, g5⟩ := hd'
      have hm : (s.heap.objs.size == sysModules) = false := beq_eq_false_iff_ne.mpr (Nat.ne_of_gt I.big)
      have hf : H s.heap.objs.size = none := I.hok.fresh (Nat.le_refl _)
      refine ⟨.ref s.heap.objs.size, upd H s.heap.objs.size (pin s.heap.objs.size o'), I.laid (t' := tk) (fun b o e => hk b o (by simp) e) (Nat.le_refl _) ⟨g1, ⟨_, g1⟩, fun h1 h2 e k => k _ e⟩, rfl, q o' es ep _ hf g2 g3 ?_ hm ?_ ?_⟩
      · rw [size_of_entries g4]
        have := storedAllH_length ps ([] : List NX)
        rw [List.length_nil, Nat.zero_add] at this
        exact Nat.le_trans this hlen
      · rw [g4]
        exact fre_of hW st1
      · rw [keys_of st1]
        exact st2
  · cases e
end
end Bh
/-! text Bh5a -/
set_option Elab.async false
set_option linter.all false
set_option maxRecDepth 100000
set_option maxHeartbeats 1000000
/-! Bh5a: what an evaluator's result asks of the machine. -/
namespace Bh
open PySem PySem.W L2 PyProof.Rows

/-- the program: its tables, what they name -/
structure Pr where
  G : Gx
  T : List (Addr × Str)
  pg : Pg
  gl : Nat → Str
  dn : Nat → Str
  mn : Nat → Str
  cn : Nat → Str
  da : Nat → Addr
  dfd : Nat → FuncData
  dps : Nat → List Str
  top : Nat → Bool
  exc : Nat → Bool
/-- a frame of the program -/
structure FOk (p : Pr) (ow : List Nat) (F : Fm) : Prop where
  ow : F.ow = ow
  G : F.G = p.G
  T : F.T = p.T
  oe : ∀ a, F.Oe a → F.Ox a
theorem FOk.guard {p : Pr} {ow : List Nat} {F : Fm} (k : FOk p ow F) (q : Addr) : FOk p ow (F.guard q) := ⟨k.ow, k.G, k.T, fun a z => .inl (k.oe a z)⟩
def Wish (F : Fm) (W : WX) (σ : L2.St) (H : Hp) (env : Env) {α : Type} (r : R α) (S : α → Env → Hp → Prop) : Prop := match r with
  | .ok a env' => ∀ H', Post F σ H env H' env' → S a env' H'
  | .exc c env' => ∀ dx H', Post F σ H env H' env' → W (.ref (F.G.ca c)) dx σ H'
  | .err => False
section
variable {F : Fm} {W : WX} {σ : L2.St} {H H1 : Hp} {env env1 : Env} {α β : Type}
theorem Wish.bind {r : R α} {k : α → Env → R β} {S : β → Env → Hp → Prop} (w : Wish F W σ H env (r.bind k) S) : Wish F W σ H env r (fun a env1 H1 => Wish F W σ H1 env1 (k a env1) S) := by
  cases r with
  | ok a e =>
    intro H1 P1
    have w' : Wish F W σ H env (k a e) S := w
    cases h : k a e with
    | ok b e2 => rw [h] at w'; exact fun H2 P2 => w' H2 (P1.trans P2)
    | exc c e2 => rw [h] at w'; exact fun dx H2 P2 => w' dx H2 (P1.trans P2)
    | err => rw [h] at w'; exact w'
  | exc c e => exact w
  | err => exact w
theorem Wish.imp {r : R α} {S S' : α → Env → Hp → Prop} (w : Wish F W σ H env r S) (h : ∀ a env' H', Post F σ H env H' env' → S a env' H' → S' a env' H') : Wish F W σ H env r S' := by
  cases r with
  | ok a e => exact fun H' P => h a e H' P (w H' P)
  | exc c e => exact w
  | err => exact w
theorem Wish.of {o : Option α} {S : α → Env → Hp → Prop} (w : Wish F W σ H env (R.of o env) S) : ∃ a, o = some a ∧ ∀ H', Post F σ H env H' env → S a env H' := by
  cases o with
  | none => exact w.elim
  | some a => exact ⟨a, rfl, w⟩
end
/-- a result: data; where it is new, more is known of it -/
def VR (F : Fm) (σ : L2.St) (env : Env) (Hs H : Hp) (nw : Nat → Bool) (v : V) (d : D) : Prop :=
  FR F.G H (OO F σ env) v d ∧ (nw (kindOf d) = true → kindOf d ≠ 0 → ∃ p, v = .ref p ∧ ¬ Av Hs p ∧ ¬ OO F σ env p ∧ Cont F.G H (OO (F.guard p) σ env) p d ∧ FI (F.guard p) σ H env)
def tE (p : Pr) (ow : List Nat) (tb : Tb) (cf : CF) (W : WX) (e : E) : TE := fun σ H Q =>
  ∃ F env, FOk p ow F ∧ FI F σ H env ∧ Wish F W σ H env (evE tb cf e env) fun d env' H' => ∀ v, VR F σ env' H H' (isNew tb e) v d → Q v H'
def tO (p : Pr) (ow : List Nat) (tb : Tb) (cf : CF) (W : WX) (e : E) : TE := match lateOf e with
  | some i => tVar i
  | none => tE p ow tb cf W e
def tOs (p : Pr) (ow : List Nat) (tb : Tb) (cf : CF) (W : WX) : Es → List TE
  | .nil => []
  | .cons e es => tO p ow tb cf W e :: tOs p ow tb cf W es
def tAs : List TE → TA
  | [] => tNil
  | t :: ts => tCons t (tAs ts)
/-- the late operands own -/
def lateIn (ow : List Nat) : Es → Bool
  | .nil => true
  | .cons e es => (match lateOf e with
    | some i => decide (i ∈ ow)
    | none => true) && lateIn ow es
inductive OR (F : Fm) (σ : L2.St) (H : Hp) (env : Env) : Es → List V → List D → Prop
  | nil : OR F σ H env .nil [] []
  | late {e : E} {es : Es} {i : Nat} {v : V} {d : D} {vs : List V} {ds : List D} : lateOf e = some i → env.get i = some d → σ[i]? = some (some v) → OR F σ H env es vs ds → OR F σ H env (.cons e es) (v :: vs) (d :: ds)
  | now {e : E} {es : Es} {v : V} {d : D} {vs : List V} {ds : List D} : lateOf e = none → FR F.G H (OO F σ env) v d → OR F σ H env es vs ds → OR F σ H env (.cons e es) (v :: vs) (d :: ds)
section
variable {F : Fm} {W : WX} {σ : L2.St} {H H1 : Hp} {env env1 : Env} {tb : Tb} {cf : CF}
theorem OR.brs (I : FI F σ H env) : ∀ {es : Es} {vs : List V} {ds : List D}, lateIn F.ow es = true → OR F σ H env es vs ds → BRs F.G H (OO F σ env) vs ds
  | .nil, [], [], _, .nil => .nil
  | .cons e _, _ :: _, _ :: _, h, .late hl hg hs r => by
    simp only [lateIn, hl, Bool.and_eq_true, decide_eq_true_eq] at h
    obtain ⟨p, h1, h2, _⟩ := I.own _ _ hg h.1
    rw [hs] at h1
    cases h1
    exact .cons (.inr ⟨p, rfl, h2⟩) (OR.brs I h.2 r)
  | .cons e _, _ :: _, _ :: _, h, .now hl f r => by
    simp only [lateIn, hl, Bool.and_eq_true, decide_eq_true_eq] at h
    exact .cons (.inl f) (OR.brs I h.2 r)
theorem FI.slot (I : FI F σ H env) {i : Nat} {d : D} (hg : env.get i = some d) : ∃ v, σ[i]? = some (some v) := by
  by_cases h : i ∈ F.ow
  · obtain ⟨p, h1, _⟩ := I.own i d hg h
    exact ⟨_, h1⟩
  · obtain ⟨v, h1, _⟩ := I.fr i d hg h
    exact ⟨v, h1⟩
/-- the operands, from the left -/
theorem es_run {p : Pr} {ow : List Nat} (ok : FOk p ow F) : ∀ (es : Es) {H : Hp} {env : Env} {S : List D → Env → Hp → Prop} {Q : List V → Hp → Prop}, FI F σ H env → Wish F W σ H env (evEs tb cf es env) S →
    (∀ ds env' H' vs, Post F σ H env H' env' → OR F σ H' env' es vs ds → S ds env' H' → Q vs H') → tAs (tOs p ow tb cf W es) σ H Q
  | .nil, H, env, S, Q, I, w, q => q [] env H [] (.refl I) .nil (w H (.refl I))
  | .cons e es, H, env, S, Q, I, w, q => by
    show tO p ow tb cf W e σ H fun x H1 => tAs (tOs p ow tb cf W es) σ H1 fun xs H2 => Q (x :: xs) H2
    unfold tO
    unfold evEs at w
    cases hl : lateOf e with
    | some i =>
      rw [hl] at w
      obtain ⟨d0, hg, w1⟩ := w.bind.of
      obtain ⟨v, hv⟩ := I.slot hg
      refine ⟨v, hv, ?_⟩
      refine es_run ok es I (w1 H (.refl I)).bind fun ds env' H' vs P r w2 => ?_
      obtain ⟨d, hg', w3⟩ := w2.bind.of
      exact q (d :: ds) env' H' (v :: vs) P (.late hl hg' hv r) (w3 H' (.refl P.fi) H' (.refl P.fi))
    | none =>
      rw [hl] at w
      refine ⟨F, env, ok, I, w.bind.imp fun d env1 H1 P1 w1 v hv => ?_⟩
      refine es_run ok es P1.fi w1.bind fun ds env' H' vs P r w2 => ?_
      exact q (d :: ds) env' H' (v :: vs) (P1.trans P) (.now hl (hv.1.carry P.stp) r) (w2 H' (.refl P.fi))
end

/-! ### contexts -/
def bfName : Bf → Str
  | .len => "len"
  | .abs => "abs"
  | .int => "int"
  | .list => "list"
  | .tuple => "tuple"
  | .sorted => "sorted"
  | .max => "max"
  | .min => "min"
  | .dict => "dict"
  | .sum => "sum"
/-- what is promised behind a call -/
structure DP (T : List (Addr × Str)) (io : List Nat) (vs : List V) (G : Gx) (H : Hp) (Oe : Addr → Prop) (H' : Hp) (O' : Addr → Prop) (outs : List D) : Prop where
  keep : ∀ a o, H a = some o → (∀ i ∈ io, vs[i]? ≠ some (.ref a)) → Nt o → H' a = some o
  len : outs.length = io.length
  out : ∀ (n i : Nat) (d : D), io[n]? = some i → outs[n]? = some d → ∃ p, vs[i]? = some (.ref p) ∧ Cont G H' O' p d
  sub : ∀ a, Av H a → Av H' a
  tabs : LamX.Tabs T H'
/-- the arguments of a call -/
structure AR (T : List (Addr × Str)) (df : Def) (G : Gx) (H : Hp) (Oe : Addr → Prop) (vs : List V) (ds : List D) : Prop where
  vl : vs.length = df.np
  dl : ds.length = df.np
  live : Live H Oe
  tabs : LamX.Tabs T H
  fr : ∀ i d, ds[i]? = some d → i ∉ df.io → ∃ v, vs[i]? = some v ∧ FR G H Oe v d
  io : ∀ i d, ds[i]? = some d → i ∈ df.io → ∃ p, vs[i]? = some (.ref p) ∧ Oe p ∧ Cont G H Oe p d
  dist : ∀ i j p, i ∈ df.io → j ∈ df.io → vs[i]? = some (.ref p) → vs[j]? = some (.ref p) → i = j
/-- a def's promise: what the evaluator says -/
def spD (p : Pr) (df : Def) (g : List D → CR) : Sp := fun vs H Q E => ∃ (Oe : Addr → Prop) (ds : List D), AR p.T df p.G H Oe vs ds ∧ match g ds with
  | .ok r outs => ∀ v H', DP p.T df.io vs p.G H Oe H' Oe outs → FR p.G H' Oe v r →
      (df.fr = true → kindOf r = 1 ∨ kindOf r = 2 → ∃ q, v = .ref q ∧ ¬ Av H q ∧ Cont p.G H' (fun a => Oe a ∨ a = q) q r ∧ DP p.T df.io vs p.G H Oe H' (fun a => Oe a ∨ a = q) outs) → Q v H'
  | .exc c outs => ∀ dx H', DP p.T df.io vs p.G H Oe H' Oe outs → E (.ref (p.G.ca c)) dx H'
  | .err => False
/-- what the program's top has left -/
structure Facts (p : Pr) (prog : Program) (w : World) (K : Frag) (mg : Str → Option Value) (base : Heap) (k : Nat) : Prop where
  hK : p.G.K = K
  hW : p.G.w = w
  glob : ∀ g d, p.pg.tb.glob g = some d → ∃ v u, mg (p.gl g) = some u ∧ RelV v u ∧ ∀ H O, FR p.G H O v d
  bln : ∀ b, mg (bfName b) = none
  rng : mg "range" = none
  enm : mg "enumerate" = none
  dm : ∀ f, p.top f = true → mg (p.dn f) = some (.ref (p.da f))
  kp : ∀ f df, p.pg.defs f = some df → keepIn K (.ref (p.da f)) = true
  bi : ∀ f df, p.pg.defs f = some df → L2.Binds K (p.dfd f) (p.dps f) []
  fn : ∀ j, j ≤ k → ∀ f df, p.pg.defs f = some df → FnOk prog w K mg base (L2.CX prog w) j (p.da f) (p.dfd f) (p.dps f) (spD p df ((lev p.pg j).c 0 f))
  inj : ∀ g g', p.G.fnm g = p.G.fnm g' → g = g'
  nom : ∀ g j, p.G.fnm g ≠ p.mn j
  meth : ∀ c m f, p.pg.tb.meth c m = some f → Cls K (p.G.ca c) ∧ Meth K (p.G.ca c) (p.mn m) (p.da f) ∧ ∃ df, p.pg.defs f = some df
  init : ∀ c f, p.pg.tb.init c = some f → mg (p.cn c) = some (.ref (p.G.ca c)) ∧ Mk K (p.G.ca c) (p.da f) ∧ ∃ df, p.pg.defs f = some df
  exc : ∀ c, p.exc c = true → mg (p.cn c) = some (.ref (p.G.ca c)) ∧ keepIn K (.ref (p.G.ca c)) = true ∧ subIn K (.ref (p.G.ca c)) (.type "BaseException") = some true ∧ typeIn K (.ref (p.G.ca c)) = some (.type "type") ∧ excIn K (p.G.ca c) [.type "ValueError", .type "Exception", .type "BaseException", .type "object"] "ValueError.__new__" = true
  fld : ∀ c f, p.pg.tb.fld c f = true → Cls K (p.G.ca c) ∧ NoAttr K (p.G.ca c) (p.G.fnm f)
/-- lambdas may be made here -/
def LamOk (p : Pr) (X : Cx) : Prop := ∃ c P ql, X.env.qual ++ "<lambda>" = ql ∧ LamX.TabB X.base X.mg c P ∧ X.env.code = .ref c ∧ (P, ql) ∈ p.T ∧ ∀ q ∈ p.T, q.1 = P → q.2 = ql
structure Cok (p : Pr) (N : List Str) (tl : Bool) (sc : Scope) (k : Nat) (X : Cx) (W : WX) : Prop where
  nm : X.N = N
  nd : X.N.Nodup
  scope : X.env.scope = sc
  calm : X.calm = true
  room : Room k X.A
  tk : Takes X W
  lam : tl = true → LamOk p X
  facts : Facts p X.prog X.w X.K X.mg X.base k
theorem Cok.un {p : Pr} {N : List Str} {tl : Bool} {sc : Scope} {k : Nat} {X : Cx} {W : WX} (C : Cok p N tl sc k X W) : X.A.units + 110 < cLine := by
  have := C.room.un
  omega
end Bh
/-! text Bh5b -/
set_option Elab.async false
set_option linter.all false
set_option maxRecDepth 100000
set_option maxHeartbeats 1000000
/-! Bh5b: the shapes of expressions; rules, one a construct. -/
namespace Bh
open PySem PySem.W L2 PyProof.Rows

/-! ### shapes -/
def visB (sc : Scope) (x : Str) : Bool := match sc.names.lookup x with
  | some .local => true
  | some .cell => true
  | some .free => true
  | _ => false
def locB (sc : Scope) (x : Str) : Bool := match sc.names.lookup x with
  | some .local => true
  | some .cell => true
  | _ => false
def gloB (sc : Scope) (x : Str) : Bool := match sc.names.lookup x with
  | some .globalImplicit => true
  | _ => false
theorem visB_vis {sc : Scope} {x : Str} (h : visB sc x = true) : Vis sc x := by
  unfold visB at h
  unfold Vis
  split at h <;> simp_all
theorem locB_loc {sc : Scope} {x : Str} (h : locB sc x = true) : L2.Loc sc x := by
  unfold locB at h
  unfold L2.Loc
  split at h <;> simp_all
theorem gloB_glo {sc : Scope} {x : Str} (h : gloB sc x = true) : sc.names.lookup x = some .globalImplicit := by
  unfold gloB at h
  split at h <;> simp_all
def plainName (x : Str) : Bool := !(x == ("__debug__" : Str)) && !(x == ("__classdict__" : Str)) && !(x == ("__name__" : Str))
def isStar : Expr → Bool
  | .Starred _ _ => true
  | _ => false
theorem starEach_cons {e : Expr} (h : isStar e = false) (es : List Expr) (env : PySem.Env) : starEach (e :: es) env = (false, eval e env) :: starEach es env := by
  cases e <;> first | rfl | (simp [isStar] at h)
def asName : Expr → Option Str
  | .Name x _ => some x
  | _ => none
theorem asName_eq {e : Expr} {x : Str} (h : asName e = some x) : ∃ pos, e = .Name x pos := by
  cases e <;> simp [asName] at h
  subst h; exact ⟨_, rfl⟩
def asBin : Expr → Option (Expr × Operator × Expr)
  | .BinOp a o b _ => some (a, o, b)
  | _ => none
theorem asBin_eq {e a b : Expr} {o : Operator} (h : asBin e = some (a, o, b)) : ∃ pos, e = .BinOp a o b pos := by
  cases e <;> simp [asBin] at h
  obtain ⟨rfl, rfl, rfl⟩ := h; exact ⟨_, rfl⟩
def asCmp1 : Expr → Option (Expr × CmpOp × Expr)
  | .Compare a [o] [b] _ => some (a, o, b)
  | _ => none
theorem asCmp1_eq {e a b : Expr} {o : CmpOp} (h : asCmp1 e = some (a, o, b)) : ∃ pos, e = .Compare a [o] [b] pos := by
  unfold asCmp1 at h
  split at h
  · cases h; exact ⟨_, rfl⟩
  · cases h
def asCmp2 : Expr → Option (Expr × CmpOp × Expr × CmpOp × Expr)
  | .Compare a [o, q] [b, c] _ => some (a, o, b, q, c)
  | _ => none
theorem asCmp2_eq {e a b c : Expr} {o q : CmpOp} (h : asCmp2 e = some (a, o, b, q, c)) : ∃ pos, e = .Compare a [o, q] [b, c] pos := by
  unfold asCmp2 at h
  split at h
  · cases h; exact ⟨_, rfl⟩
  · cases h
def asUn : Expr → Option (UnaryOp × Expr)
  | .UnaryOp o a _ => some (o, a)
  | _ => none
theorem asUn_eq {e a : Expr} {o : UnaryOp} (h : asUn e = some (o, a)) : ∃ pos, e = .UnaryOp o a pos := by
  cases e <;> simp [asUn] at h
  obtain ⟨rfl, rfl⟩ := h; exact ⟨_, rfl⟩
def asIf : Expr → Option (Expr × Expr × Expr)
  | .IfExp c a b _ => some (c, a, b)
  | _ => none
theorem asIf_eq {e a b c : Expr} (h : asIf e = some (c, a, b)) : ∃ pos, e = .IfExp c a b pos := by
  cases e <;> simp [asIf] at h
  obtain ⟨rfl, rfl, rfl⟩ := h; exact ⟨_, rfl⟩
/-- a and (the rest), a or (the rest) -/
def asBool : Expr → Option (BoolOp × Expr × Expr)
  | .BoolOp o (a :: b :: r) pos => some (o, a, .BoolOp o (b :: r) pos)
  | _ => none
theorem asBool_eq {e a c : Expr} {o : BoolOp} (h : asBool e = some (o, a, c)) : ∃ b r pos, e = .BoolOp o (a :: b :: r) pos ∧ c = .BoolOp o (b :: r) pos := by
  unfold asBool at h
  split at h
  · cases h; exact ⟨_, _, _, rfl, rfl⟩
  · cases h
def asOne : Expr → Option Expr
  | .BoolOp _ [a] _ => some a
  | _ => none
theorem asOne_eq {e a : Expr} (h : asOne e = some a) : ∃ o pos, e = .BoolOp o [a] pos := by
  unfold asOne at h
  split at h
  · cases h; exact ⟨_, _, rfl⟩
  · cases h
def asTup : Expr → Option (List Expr)
  | .Tuple es _ _ => some es
  | _ => none
theorem asTup_eq {e : Expr} {es : List Expr} (h : asTup e = some es) : ∃ k pos, e = .Tuple es k pos := by
  cases e <;> simp [asTup] at h
  subst h; exact ⟨_, _, rfl⟩
def asLst : Expr → Option (List Expr)
  | .List es _ => some es
  | _ => none
theorem asLst_eq {e : Expr} {es : List Expr} (h : asLst e = some es) : ∃ pos, e = .List es pos := by
  cases e <;> simp [asLst] at h
  subst h; exact ⟨_, rfl⟩
def isSlice : Expr → Bool
  | .Slice _ _ _ _ => true
  | _ => false
theorem plainIx {b : Expr} (h : isSlice b = false) : PlainIx b := by
  intro o i
  cases b <;> first | rfl | (simp [isSlice] at h)
def asSub : Expr → Option (Expr × Expr)
  | .Subscript a b _ => some (a, b)
  | _ => none
theorem asSub_eq {e a b : Expr} (h : asSub e = some (a, b)) : ∃ pos, e = .Subscript a b pos := by
  cases e <;> simp [asSub] at h
  obtain ⟨rfl, rfl⟩ := h; exact ⟨_, rfl⟩
/-- x(es) -/
def asCall : Expr → Option (Str × List Expr)
  | .Call (.Name x _) es [] _ => some (x, es)
  | _ => none
theorem asCall_eq {e : Expr} {x : Str} {es : List Expr} (h : asCall e = some (x, es)) : ∃ p pos, e = .Call (.Name x p) es [] pos := by
  unfold asCall at h
  split at h
  · cases h; exact ⟨_, _, rfl⟩
  · cases h
/-- a call that may be super() -/
def isCall : Expr → Bool
  | .Call (.Name _ _) [] [] _ => true
  | _ => false
/-- o.m(es) -/
def asMeth : Expr → Option (Expr × Str × List Expr)
  | .Call (.Attribute o m ap) es [] cp => if !isCall o && (ap.endLine == cp.line) then some (o, m, es) else none
  | _ => none
theorem asMeth_eq {e o : Expr} {m : Str} {es : List Expr} (h : asMeth e = some (o, m, es)) : ∃ ap cp, e = .Call (.Attribute o m ap) es [] cp ∧ isCall o = false ∧ (ap.endLine == cp.line) = true := by
  unfold asMeth at h
  split at h
  · split at h
    · rename_i hl
      cases h
      simp only [Bool.and_eq_true, Bool.not_eq_true'] at hl
      exact ⟨_, _, rfl, hl.1, hl.2⟩
    · cases h
  · cases h
def asAttr : Expr → Option (Expr × Str)
  | .Attribute o m _ => some (o, m)
  | _ => none
theorem asAttr_eq {e o : Expr} {m : Str} (h : asAttr e = some (o, m)) : ∃ pos, e = .Attribute o m pos := by
  cases e <;> simp [asAttr] at h
  obtain ⟨rfl, rfl⟩ := h; exact ⟨_, rfl⟩
theorem attrBase {o : Expr} (h : isCall o = false) (f : Str) (env : PySem.Env) : attributeBase o f env (eval o env) = eval o env := by
  cases o with
  | Call g as kw q =>
    cases g <;> first | rfl | skip
    cases as <;> first | rfl | skip
    cases kw <;> first | rfl | (simp [isCall] at h)
  | _ => rfl
/-- a constant -/
def conIs : D → Expr → Bool
  | .int i, .Constant (.int j) _ _ => i == j
  | .bl a, .Constant (.bool b) _ _ => a == b
  | .non, .Constant .none _ _ => true
  | .str s, .Constant (.str x) _ _ => x.cps.toList == s
  | _, _ => false
def isVal : Expr → Bool
  | .UnaryOp .Not _ _ => false
  | .BoolOp _ _ _ => false
  | .IfExp _ _ _ _ => false
  | .Compare _ _ _ _ => false
  | _ => true
theorem isVal_true {e : Expr} (h : isVal e = true) (env : PySem.Env) (whole : Sem Value) : isTrue e env whole = (do let v ← whole; standAt e.pos; holding [v] (truthy v)) := by
  cases e with
  | UnaryOp o a pos => cases o <;> first | rfl | (simp [isVal] at h)
  | _ => first | rfl | (simp [isVal] at h)

theorem PEimp {X : Cx} {e : Expr} {t t' : TE} (h : PE X e t) (k : ∀ σ H Q, t' σ H Q → t σ H Q) : PE X e t' := ⟨fun pins s σ H Q I q => h.run pins s σ H Q I (k σ H Q q)⟩
theorem PTimp {X : Cx} {e : Expr} {t t' : TT} (h : PT X e t) (k : ∀ σ H Q, t' σ H Q → t σ H Q) : PT X e t' := ⟨fun pins s σ H Q I q => h.run pins s σ H Q I (k σ H Q q)⟩
inductive PEs (X : Cx) : List Expr → List TE → Prop
  | nil : PEs X [] []
  | cons {e : Expr} {t : TE} {es : List Expr} {ts : List TE} : PE X e t → isStar e = false → PEs X es ts → PEs X (e :: es) (t :: ts)
theorem PEs.pa {X : Cx} : ∀ {es : List Expr} {ts : List TE}, PEs X es ts → PA X es (tAs ts)
  | _, _, .nil => pa_nil
  | _, _, .cons h s r => pa_cons h r.pa (starEach_cons s _ _)
theorem PEs.plain {X : Cx} (pos : Pos) : ∀ {es : List Expr} {ts : List TE}, PEs X es ts → (backTo pos (starEach es X.env)).any (·.1) = false
  | _, _, .nil => rfl
  | _, _, .cons h s r => by
    rw [starEach_cons s]
    show (false || (backTo pos (starEach _ X.env)).any (·.1)) = false
    rw [PEs.plain pos r]
    rfl

/-! ### rules -/
section
variable {p : Pr} {N : List Str} {ow : List Nat} {tl : Bool} {sc : Scope} {F : Fm} {k : Nat} {X : Cx} {W : WX} {cf : CF} {tb : Tb}
theorem pe_slot (C : Cok p N tl sc k X W) {i : Nat} {x : Str} {pos : Pos} (h1 : N[i]? = some x) (h2 : visB sc x = true) (h3 : plainName x = true) : PE X (.Name x pos) (tVar i) := by
  simp only [plainName, Bool.and_eq_true, Bool.not_eq_true'] at h3
  exact pe_var (by rw [C.nm]; exact h1) (by rw [C.scope]; exact visB_vis h2) h3.1.1 h3.1.2
theorem Cok.gl (C : Cok p N tl sc k X W) {x : Str} (h : gloB sc x = true) : Gl X x := by
  show X.env.scope.names.lookup x = _
  rw [C.scope]
  exact gloB_glo h
/-- a result that is not new -/
theorem VR.old {σ : L2.St} {env : Env} {Hs H : Hp} {v : V} {d : D} (f : FR F.G H (OO F σ env) v d) : VR F σ env Hs H (fun _ => false) v d := ⟨f, fun z => nomatch z⟩
theorem s_var (C : Cok p N tl sc k X W) {i : Nat} {pe : Expr} (h : PE X pe (tVar i)) (hi : i ∉ ow) : PE X pe (tE p ow tb cf W (.var i)) := by
  refine PEimp h fun σ H Q ⟨F, env, ok, I, w⟩ => ?_
  obtain ⟨d, hg, w⟩ := w.of
  obtain ⟨v, hv, f⟩ := I.fr i d hg (by rw [ok.ow]; exact hi)
  exact ⟨v, hv, w H (.refl I) v (VR.old f)⟩
theorem conIs_pe {d : D} {pe : Expr} (h : conIs d pe = true) : ∃ v, PE X pe (tC v) ∧ ∀ (G : Gx) (H : Hp) (O : Addr → Prop), FR G H O v d := by
  unfold conIs at h
  split at h
  · rw [beq_iff_eq] at h; subst h; exact ⟨_, pe_int, fun _ _ _ => .int _⟩
  · rw [beq_iff_eq] at h; subst h; exact ⟨_, pe_bl, fun _ _ _ => .bl _⟩
  · exact ⟨_, pe_non, fun _ _ _ => .non⟩
  · rename_i s x _ _
    rw [beq_iff_eq] at h
    refine ⟨_, pe_str, fun _ _ _ => ?_⟩
    have e : x = ⟨s.toArray⟩ := by
      obtain ⟨c⟩ := x
      show (⟨c⟩ : Str) = _
      rw [← h]
    rw [e]
    exact .str _
  · cases h
theorem s_con {d : D} {pe : Expr} (h : conIs d pe = true) : PE X pe (tE p ow tb cf W (.con d)) := by
  obtain ⟨v, hv, f⟩ := conIs_pe (X := X) h
  exact PEimp hv fun σ H Q ⟨F, env, ok, I, w⟩ => w H (.refl I) v (VR.old (f _ _ _))
theorem s_glob (C : Cok p N tl sc k X W) {g : Nat} {pos : Pos} (h1 : gloB sc (p.gl g) = true) (h2 : plainName (p.gl g) = true) (hd : (p.pg.tb.glob g).isSome = true) : PE X (.Name (p.gl g) pos) (tE p ow p.pg.tb cf W (.glob g)) := by
  obtain ⟨d, e⟩ := Option.isSome_iff_exists.mp hd
  obtain ⟨v, u, hm, r, f⟩ := C.facts.glob g d e
  simp only [plainName, Bool.and_eq_true, Bool.not_eq_true'] at h2
  refine PEimp (pe_glob (C.gl h1) hm r h2.1.1) fun σ H Q ⟨F, env, ok, I, w⟩ => ?_
  obtain ⟨d', e', w⟩ := w.of
  rw [e] at e'
  cases e'
  exact w H (.refl I) v (VR.old (by rw [ok.G]; exact f _ _))
/-- a wish of a result, out of an operator's -/
theorem rr_of {σ : L2.St} {Hs H : Hp} {env : Env} {r : D} {nw : Nat → Bool} {Q : VK} (I : FI F σ H env) (dom : ∀ a, Av Hs a → Av H a) (hn : nw 3 = false)
    (w : ∀ H', Post F σ H env H' env → ∀ v, VR F σ env Hs H' nw v r → Q v H') : RR F.G H (OO F σ env) r Q := by
  have old : ∀ r : D, nw (kindOf r) = false ∨ kindOf r = 0 → (∀ H', Post F σ H env H' env → ∀ v, VR F σ env Hs H' nw v r → Q v H') → RX F.G H (OO F σ env) r Q := fun r h w v H1 e f =>
    w H1 (I.post e) v ⟨f, fun z1 z2 => by
      rcases h with h | h
      · rw [h] at z1; cases z1
      · exact (z2 h).elim⟩
  cases r with
  | lst ds =>
    intro H1 vs q e f n
    have n0 : H q = none := e.free n
    have P1 := I.post e
    have P2 := P1.fi.post (Ext.upd (o := .lst vs) n)
    have g1 : Cont F.G (upd H1 q (.lst vs)) (OO (F.guard q) σ env) q (.lst ds) := .lst upd_same (f.carry ⟨fun a o h _ _ => Ext.upd n a o h, fun a z => by
      rcases (guard_oo a).mp z with z | z
      · exact .inl z
      · exact .inr (z ▸ Av.none n), Ext.dom (Ext.upd n)⟩)
    refine w _ (P1.trans P2) _ ⟨.lst upd_same (P1.fi.free (Av.none n)) (FRs.upd n f), fun _ _ => ⟨q, rfl, fun z => Av.none n0 (dom q z), I.free (Av.none n0), g1, P1.fi.guard n⟩⟩
  | dct kvs =>
    intro o es ep q n h1 h2 h3 h4 f h5
    have P2 := I.post (Ext.upd (o := pin q o) n)
    have g1 : Cont F.G (upd H q (pin q o)) (OO (F.guard q) σ env) q (.dct kvs) := .dct upd_same h1 h2 h3 h4 (f.carry ⟨fun a o' h _ _ => Ext.upd n a o' h, fun a z => by
      rcases (guard_oo a).mp z with z | z
      · exact .inl z
      · exact .inr (z ▸ Av.none n), Ext.dom (Ext.upd n)⟩) h5
    refine w _ P2 _ ⟨.dct upd_same (I.free (Av.none n)) h1 h2 h3 h4 (f.carry (Ext.upd n).stp) h5, fun _ _ => ⟨q, rfl, fun z => Av.none n (dom q z), I.free (Av.none n), g1, I.guard n⟩⟩
  | obj c fs => exact old (.obj c fs) (.inl hn) w
  | non => exact old _ (.inr rfl) w
  | bl b => exact old _ (.inr rfl) w
  | int i => exact old _ (.inr rfl) w
  | str s => exact old _ (.inr rfl) w
  | tup xs => exact old _ (.inr rfl) w
theorem rx_of {σ : L2.St} {Hs H : Hp} {env : Env} {r : D} {Q : VK} (I : FI F σ H env)
    (w : ∀ H', Post F σ H env H' env → ∀ v, VR F σ env Hs H' (fun _ => false) v r → Q v H') : RX F.G H (OO F σ env) r Q := fun v H1 e f => w H1 (I.post e) v (VR.old f)
/-- two operands, then a wish of both -/
theorem two_run (ok : FOk p ow F) {σ : L2.St} {H : Hp} {env : Env} {es : Es} {ta tc : TE} {S : List D → Env → Hp → Prop} {R : V → V → Hp → Prop} (I : FI F σ H env) (w : Wish F W σ H env (evEs tb cf es env) S) (ht : tOs p ow tb cf W es = [ta, tc]) (hl : lateIn F.ow es = true)
    (q : ∀ x y dx dy env' H', Post F σ H env H' env' → BR F.G H' (OO F σ env') x dx → BR F.G H' (OO F σ env') y dy → S [dx, dy] env' H' → R x y H') : ta σ H fun x H1 => tc σ H1 fun y H2 => R x y H2 := by
  have h := es_run ok es (Q := fun vs H' => match vs with
    | [x, y] => R x y H'
    | _ => True) I w fun ds env' H' vs P r s => by
    have b := OR.brs P.fi hl r
    cases b with
    | nil => trivial
    | cons b1 b2 =>
      cases b2 with
      | nil => trivial
      | cons b2 b3 =>
        cases b3 with
        | nil => exact q _ _ _ _ env' H' P b1 b2 s
        | cons _ _ => trivial
  rw [ht] at h
  exact h
end
end Bh
/-! text Bh5c -/
set_option Elab.async false
set_option linter.all false
set_option maxRecDepth 100000
set_option maxHeartbeats 1000000
/-! Bh5c: rules for operators, places, built-ins. -/
namespace Bh
open PySem PySem.W L2 PyProof.Rows
theorem PEs.two {X : Cx} {a b : Expr} {ts : List TE} (h : PEs X [a, b] ts) : ∃ ta tc, ts = [ta, tc] ∧ PE X a ta ∧ PE X b tc := by
  cases h with
  | cons h1 _ r => cases r with
    | cons h2 _ r => cases r; exact ⟨_, _, rfl, h1, h2⟩
theorem PEs.one {X : Cx} {a : Expr} {ts : List TE} (h : PEs X [a] ts) : ∃ ta, ts = [ta] ∧ PE X a ta := by
  cases h with
  | cons h1 _ r => cases r; exact ⟨_, rfl, h1⟩
theorem PEs.hd {X : Cx} {a : Expr} {as : List Expr} {ts : List TE} (pos : Pos) (h : PEs X (a :: as) ts) : starEach (a :: as) X.env = (false, eval a X.env) :: starEach as X.env ∧ (backTo pos (starEach as X.env)).any (·.1) = false := by
  cases h with
  | cons h1 h2 h3 => exact ⟨starEach_cons h2 _ _, h3.plain pos⟩
section
variable {p : Pr} {N : List Str} {ow : List Nat} {tl : Bool} {sc : Scope} {F : Fm} {k : Nat} {X : Cx} {W : WX} {cf : CF} {tb : Tb} {pos : Pos} {es : Es}
theorem s_op (C : Cok p N tl sc k X W) {o : Op2} {a b : Expr} (h : PEs X [a, b] (tOs p ow tb cf W es)) (hl : lateIn ow es = true) : PE X (.BinOp a (op2 o) b pos) (tE p ow tb cf W (.op o es)) := by
  obtain ⟨ta, tc, ht, ha, hb⟩ := h.two
  refine PEimp (pe_op (op_allD C.facts.hK o) ha hb) fun σ H Q ⟨F, env, ok, I, w⟩ => ?_
  rw [evE] at w
  refine two_run ok I w.bind ht (by rw [ok.ow]; exact hl) fun x y dx dy env' H' P bx bz w => ?_
  obtain ⟨r, e, w⟩ := w.of
  rw [← ok.G]
  exact ⟨OO F σ env', dx, dy, r, P.fi.alive, bx, bz, e, rr_of P.fi P.stp.dom rfl w⟩
/-- the test of a comparison -/
def tT (p : Pr) (ow : List Nat) (tb : Tb) (cf : CF) (W : WX) (e : E) : TT := fun σ H Q =>
  ∃ F env, FOk p ow F ∧ FI F σ H env ∧ Wish F W σ H env (evE tb cf e env) fun d env' H' => ∃ b, d = .bl b ∧ Q b H'
theorem t_of {e : E} {pe : Expr} (h : PE X pe (tE p ow tb cf W e)) (hv : isVal pe = true) : PT X pe (tT p ow tb cf W e) :=
  PTimp (pt_val h (fun whole => isVal_true hv _ _)) fun σ H Q ⟨F, env, ok, I, w⟩ => ⟨F, env, ok, I, w.imp fun d env' H' P ⟨b, e, q⟩ v r => by
    subst e
    have f := r.1
    cases f
    exact ⟨b, rfl, q⟩⟩
theorem s_cmp (C : Cok p N tl sc k X W) {c : Cm} {a b : Expr} (h : PEs X [a, b] (tOs p ow tb cf W es)) (hl : lateIn ow es = true) (hm : behindInMarks (cm2 c) b = false) : PE X (.Compare a [cm2 c] [b] pos) (tE p ow tb cf W (.cmp c es)) := by
  obtain ⟨ta, tc, ht, ha, hb⟩ := h.two
  refine PEimp (pe_cmpR (op_cmpD C.facts.hK (by have := C.un; omega) c) ha hb hm) fun σ H Q ⟨F, env, ok, I, w⟩ => ?_
  rw [evE] at w
  refine two_run ok I w.bind ht (by rw [ok.ow]; exact hl) fun x y dx dy env' H' P bx bz w => ?_
  obtain ⟨r, e, w⟩ := w.of
  obtain ⟨q, e', rfl⟩ := Option.map_eq_some_iff.mp e
  rw [← ok.G]
  exact ⟨OO F σ env', dx, dy, q, P.fi.alive, bx, bz, e', w H' (.refl P.fi) _ (VR.old (.bl q))⟩
theorem t_cmp (C : Cok p N tl sc k X W) {c : Cm} {a b : Expr} (h : PEs X [a, b] (tOs p ow tb cf W es)) (hl : lateIn ow es = true) (hm : behindInMarks (cm2 c) b = false) : PT X (.Compare a [cm2 c] [b] pos) (tT p ow tb cf W (.cmp c es)) := by
  obtain ⟨ta, tc, ht, ha, hb⟩ := h.two
  refine PTimp (pt_cmpR (op_cmpD C.facts.hK (by have := C.un; omega) c) ha hb hm) fun σ H Q ⟨F, env, ok, I, w⟩ => ?_
  rw [evE] at w
  refine two_run ok I w.bind ht (by rw [ok.ow]; exact hl) fun x y dx dy env' H' P bx bz w => ?_
  obtain ⟨r, e, w⟩ := w.of
  obtain ⟨q, e', rfl⟩ := Option.map_eq_some_iff.mp e
  obtain ⟨b, e2, w⟩ := w H' (.refl P.fi)
  cases e2
  rw [← ok.G]
  exact ⟨OO F σ env', dx, dy, q, P.fi.alive, bx, bz, e', q, rfl, w⟩
/-- two operands of which the second is no late one -/
theorem two_now (ok : FOk p ow F) {σ : L2.St} {H : Hp} {env : Env} {ea eb : E} {S : List D → Env → Hp → Prop} {R : V → V → Hp → Prop} (I : FI F σ H env) (w : Wish F W σ H env (evEs tb cf (.cons ea (.cons eb .nil)) env) S)
    (hl : lateIn F.ow (.cons ea (.cons eb .nil)) = true) (hn : lateOf eb = none)
    (q : ∀ x y dx dy env' H', Post F σ H env H' env' → BR F.G H' (OO F σ env') x dx → FR F.G H' (OO F σ env') y dy → S [dx, dy] env' H' → R x y H') : tO p ow tb cf W ea σ H fun x H1 => tO p ow tb cf W eb σ H1 fun y H2 => R x y H2 := by
  have h := es_run ok _ (Q := fun vs H' => match vs with
    | [x, y] => R x y H'
    | _ => True) I w fun ds env' H' vs P r s => by
    have b := OR.brs P.fi hl r
    cases b with
    | nil => trivial
    | cons b1 b2 =>
      cases b2 with
      | nil => trivial
      | cons b2 b3 =>
        cases b3 with
        | cons _ _ => trivial
        | nil =>
          have f : ∃ v d, FR F.G H' (OO F σ env') v d ∧ True := ⟨_, _, .non, trivial⟩
          cases r with
          | late h1 h2 h3 r =>
            cases r with
            | late g1 g2 g3 r => rw [hn] at g1; cases g1
            | now g1 g2 r => exact q _ _ _ _ env' H' P b1 g2 s
          | now h1 h2 r =>
            cases r with
            | late g1 g2 g3 r => rw [hn] at g1; cases g1
            | now g1 g2 r => exact q _ _ _ _ env' H' P b1 g2 s
  exact h
theorem chain_run (ok : FOk p ow F) {c1 c2 : Cm} {ea eb ec : E} {σ : L2.St} {H : Hp} {env : Env} {S : D → Env → Hp → Prop} (hl : lateIn ow (.cons ea (.cons eb .nil)) = true) (hn : lateOf eb = none) (I : FI F σ H env)
    (w : Wish F W σ H env (evE tb cf (.chain c1 c2 (.cons ea (.cons eb .nil)) ec) env) S) {Q : VK} (hS : ∀ b env' H', S (.bl b) env' H' → Q (.bl b) H') :
    tChain (rCm p.G (cmpD c1)) (rCm p.G (cmpD c2)) (tO p ow tb cf W ea) (tO p ow tb cf W eb) (tE p ow tb cf W ec) σ H Q := by
  rw [evE] at w
  refine two_now ok I w.bind (by rw [ok.ow]; exact hl) hn fun x y dx dy env' H' P bx fz w => ?_
  have w' : Wish F W σ H' env' (match cmpD c1 dx dy with
      | some true => (evE tb cf ec env').bind fun z env => R.of ((cmpD c2 dy z).map .bl) env
      | some false => .ok (.bl false) env'
      | none => .err) S := w
  cases e : cmpD c1 dx dy with
  | none => rw [e] at w'; exact w'.elim
  | some q =>
    rw [e] at w'
    refine ⟨OO F σ env', dx, dy, q, P.fi.alive, by rw [← ok.G]; exact bx, by rw [← ok.G]; exact .inl fz, e, q, rfl, ?_⟩
    cases q with
    | false =>
      rw [if_neg (by decide)]
      exact hS _ _ _ (w' H' (.refl P.fi))
    | true =>
      rw [if_pos rfl]
      refine ⟨F, env', ok, P.fi, Wish.imp (Wish.bind w') fun z env2 H2 P2 w2 v hv => ?_⟩
      obtain ⟨r, e2, w3⟩ := w2.of
      obtain ⟨q2, e3, rfl⟩ := Option.map_eq_some_iff.mp e2
      exact ⟨OO F σ env2, dy, z, q2, P2.fi.alive, by rw [← ok.G]; exact .inl (fz.carry P2.stp), by rw [← ok.G]; exact .inl hv.1, e3, hS _ _ _ (w3 H2 (.refl P2.fi))⟩
theorem s_chain (C : Cok p N tl sc k X W) {c1 c2 : Cm} {ea eb ec : E} {a b c : Expr} (ha : PE X a (tO p ow tb cf W ea)) (hb : PE X b (tO p ow tb cf W eb)) (hc : PE X c (tE p ow tb cf W ec)) (hl : lateIn ow (.cons ea (.cons eb .nil)) = true) (hn : lateOf eb = none)
    (hm : lastMarks [cm2 c1, cm2 c2] [b, c] = false) : PE X (.Compare a [cm2 c1, cm2 c2] [b, c] pos) (tE p ow tb cf W (.chain c1 c2 (.cons ea (.cons eb .nil)) ec)) := by
  have hu : X.A.units + 102 < cLine := by have := C.un; omega
  exact PEimp (pe_chain (op_cmpD C.facts.hK hu c1) (op_cmpD C.facts.hK hu c2) ha hb hc hm) fun σ H Q ⟨F, env, ok, I, w⟩ => chain_run ok hl hn I w fun b env' H' h => h _ (VR.old (.bl b))
theorem t_chain (C : Cok p N tl sc k X W) {c1 c2 : Cm} {ea eb ec : E} {a b c : Expr} (ha : PE X a (tO p ow tb cf W ea)) (hb : PE X b (tO p ow tb cf W eb)) (hc : PE X c (tE p ow tb cf W ec)) (hl : lateIn ow (.cons ea (.cons eb .nil)) = true) (hn : lateOf eb = none)
    (hm : lastMarks [cm2 c1, cm2 c2] [b, c] = false) : PT X (.Compare a [cm2 c1, cm2 c2] [b, c] pos) (tT p ow tb cf W (.chain c1 c2 (.cons ea (.cons eb .nil)) ec)) := by
  have hu : X.A.units + 102 < cLine := by have := C.un; omega
  exact PTimp (pt_chain (op_cmpD C.facts.hK hu c1) (op_cmpD C.facts.hK hu c2) ha hb hc hm) fun σ H Q ⟨F, env, ok, I, w⟩ => chain_run ok hl hn I w fun b env' H' ⟨b', e, q⟩ => by cases e; exact ⟨b, rfl, q⟩
theorem s_neg (C : Cok p N tl sc k X W) {e : E} {a : Expr} (ha : PE X a (tE p ow tb cf W e)) : PE X (.UnaryOp .USub a pos) (tE p ow tb cf W (.neg e)) := by
  refine PEimp (pe_un un_neg ha) fun σ H Q ⟨F, env, ok, I, w⟩ => ?_
  rw [evE] at w
  refine ⟨F, env, ok, I, w.bind.imp fun d env' H' P w v r => ?_⟩
  cases d with
  | int i =>
    have f := r.1
    cases f
    exact ⟨i, rfl, w H' (.refl P.fi) _ (VR.old (.int _))⟩
  | _ => exact w.elim
theorem s_no (C : Cok p N tl sc k X W) {e : E} {a : Expr} (ha : PE X a (tE p ow tb cf W e)) : PE X (.UnaryOp .Not a pos) (tE p ow tb cf W (.no e)) := by
  refine PEimp (pe_not ha) fun σ H Q ⟨F, env, ok, I, w⟩ => ?_
  rw [evE] at w
  refine ⟨F, env, ok, I, w.bind.imp fun d env' H' P w v r => ?_⟩
  cases d with
  | bl i =>
    have f := r.1
    cases f
    exact ⟨i, rfl, w H' (.refl P.fi) _ (VR.old (.bl _))⟩
  | _ => exact w.elim
theorem t_no (C : Cok p N tl sc k X W) {e : E} {a : Expr} (ha : PT X a (tT p ow tb cf W e)) : PT X (.UnaryOp .Not a pos) (tT p ow tb cf W (.no e)) := by
  refine PTimp (pt_not ha) fun σ H Q ⟨F, env, ok, I, w⟩ => ?_
  rw [evE] at w
  refine ⟨F, env, ok, I, w.bind.imp fun d env' H' P w => ?_⟩
  cases d with
  | bl i =>
    obtain ⟨b, e, q⟩ := w H' (.refl P.fi)
    cases e
    exact ⟨i, rfl, q⟩
  | _ => exact w.elim
theorem VR.weak {σ : L2.St} {env : Env} {Hs Hs' H : Hp} {nw : Nat → Bool} {v : V} {d : D} (h : VR F σ env Hs H nw v d) : VR F σ env Hs' H (fun _ => false) v d := ⟨h.1, fun z => nomatch z⟩
theorem s_and (C : Cok p N tl sc k X W) {ea eb : E} {a b : Expr} {r : List Expr} (ha : PE X a (tE p ow tb cf W ea)) (hb : PE X (.BoolOp .And (b :: r) pos) (tE p ow tb cf W eb)) : PE X (.BoolOp .And (a :: b :: r) pos) (tE p ow tb cf W (.and ea eb)) := by
  refine PEimp (pe_and ha hb) fun σ H Q ⟨F, env, ok, I, w⟩ => ?_
  rw [evE] at w
  refine ⟨F, env, ok, I, w.bind.imp fun d env' H' P w v r => ?_⟩
  cases d with
  | bl i =>
    have f := r.1
    cases f
    refine ⟨i, rfl, ?_⟩
    cases i with
    | true =>
      rw [if_pos rfl]
      exact ⟨F, env', ok, P.fi, Wish.imp w fun d env2 H2 P2 w v r => w v r.weak⟩
    | false =>
      rw [if_neg (by decide)]
      exact w H' (.refl P.fi) _ (VR.old (.bl _))
  | _ => exact w.elim
theorem s_or (C : Cok p N tl sc k X W) {ea eb : E} {a b : Expr} {r : List Expr} (ha : PE X a (tE p ow tb cf W ea)) (hb : PE X (.BoolOp .Or (b :: r) pos) (tE p ow tb cf W eb)) : PE X (.BoolOp .Or (a :: b :: r) pos) (tE p ow tb cf W (.or ea eb)) := by
  refine PEimp (pe_or ha hb) fun σ H Q ⟨F, env, ok, I, w⟩ => ?_
  rw [evE] at w
  refine ⟨F, env, ok, I, w.bind.imp fun d env' H' P w v r => ?_⟩
  cases d with
  | bl i =>
    have f := r.1
    cases f
    refine ⟨i, rfl, ?_⟩
    cases i with
    | true =>
      rw [if_pos rfl]
      exact w H' (.refl P.fi) _ (VR.old (.bl _))
    | false =>
      rw [if_neg (by decide)]
      exact ⟨F, env', ok, P.fi, Wish.imp w fun d env2 H2 P2 w v r => w v r.weak⟩
  | _ => exact w.elim
theorem s_ite (C : Cok p N tl sc k X W) {ec ea eb : E} {c a b : Expr} (hc : PT X c (tT p ow tb cf W ec)) (ha : PE X a (tE p ow tb cf W ea)) (hb : PE X b (tE p ow tb cf W eb)) : PE X (.IfExp c a b pos) (tE p ow tb cf W (.ite ec ea eb)) := by
  refine PEimp (pe_ifExp hc ha hb) fun σ H Q ⟨F, env, ok, I, w⟩ => ?_
  rw [evE] at w
  refine ⟨F, env, ok, I, w.bind.imp fun d env' H' P w => ?_⟩
  cases d with
  | bl i =>
    refine ⟨i, rfl, ?_⟩
    cases i with
    | true =>
      rw [if_pos rfl]
      exact ⟨F, env', ok, P.fi, Wish.imp w fun d env2 H2 P2 w v r => w v r.weak⟩
    | false =>
      rw [if_neg (by decide)]
      exact ⟨F, env', ok, P.fi, Wish.imp w fun d env2 H2 P2 w v r => w v r.weak⟩
  | _ => exact w.elim
/-- no late operand -/
def noLate : Es → Bool
  | .nil => true
  | .cons e es => (lateOf e).isNone && noLate es
theorem OR.frs {σ : L2.St} {H : Hp} {env : Env} : ∀ {es : Es} {vs : List V} {ds : List D}, noLate es = true → OR F σ H env es vs ds → FRs F.G H (OO F σ env) vs ds
  | .nil, [], [], _, .nil => .nil
  | .cons e _, _ :: _, _ :: _, h, .late hl hg hs r => by simp [noLate, hl] at h
  | .cons e _, _ :: _, _ :: _, h, .now hl f r => by
    simp only [noLate, hl, Bool.and_eq_true] at h
    exact .cons f (OR.frs h.2 r)
theorem noLate_in : ∀ {es : Es} {ow : List Nat}, noLate es = true → lateIn ow es = true
  | .nil, _, _ => rfl
  | .cons e es, _, h => by
    simp only [noLate, Bool.and_eq_true, Option.isNone_iff_eq_none] at h
    simp only [lateIn, h.1, noLate_in h.2, Bool.and_self]
theorem s_tup (C : Cok p N tl sc k X W) {as : List Expr} {x1 : Nat} (h : PEs X as (tOs p ow tb cf W es)) (hl : noLate es = true) : PE X (.Tuple as x1 pos) (tE p ow tb cf W (.tup es)) := by
  refine PEimp (pe_tupF h.pa) fun σ H Q ⟨F, env, ok, I, w⟩ => ?_
  rw [evE] at w
  refine es_run ok es I w.bind fun ds env' H' vs P r w => ?_
  have f := r.frs hl
  have w' : Wish F W σ H' env' (if okLen ds.length then (.ok (.tup ds) env' : R D) else .err) _ := w
  split at w'
  · rename_i hz
    refine ⟨by rw [f.length]; exact okLen_le hz, fun q ob n hd => ?_⟩
    exact w' _ (P.fi.post (Ext.upd n)) _ (VR.old (fr_newtup P.fi.alive n hd f))
  · exact w'.elim
theorem s_lst (C : Cok p N tl sc k X W) {as : List Expr} (h : PEs X as (tOs p ow tb cf W es)) (hl : noLate es = true) : PE X (.List as pos) (tE p ow tb cf W (.lst es)) := by
  refine PEimp (pe_lst h.pa) fun σ H Q ⟨F, env, ok, I, w⟩ => ?_
  rw [evE] at w
  refine es_run ok es I w.bind fun ds env' H' vs P r w => ?_
  have f := r.frs hl
  have w' : Wish F W σ H' env' (if okLen ds.length then (.ok (.lst ds) env' : R D) else .err) _ := w
  split at w'
  · rename_i hz
    refine ⟨by rw [f.length]; exact okLen_le hz, fun q n => ?_⟩
    exact rr_of P.fi P.stp.dom rfl w' H' vs q (Same.refl H') f n
  · exact w'.elim
theorem s_idx (C : Cok p N tl sc k X W) {a b : Expr} (h : PEs X [a, b] (tOs p ow tb cf W es)) (hl : lateIn ow es = true) (hs : isSlice b = false) : PE X (.Subscript a b pos) (tE p ow tb cf W (.idx es)) := by
  obtain ⟨ta, tc, ht, ha, hb⟩ := h.two
  refine PEimp (pe_ix (ix_D C.facts.hK) ha hb (plainIx hs)) fun σ H Q ⟨F, env, ok, I, w⟩ => ?_
  rw [evE] at w
  refine two_run ok I w.bind ht (by rw [ok.ow]; exact hl) fun x y dx dy env' H' P bx bz w => ?_
  obtain ⟨r, e, w⟩ := w.of
  rw [← ok.G]
  exact ⟨OO F σ env', dx, dy, r, P.fi.alive, bx, bz, e, rx_of P.fi w⟩
/-- a part of a slice -/
def tP (p : Pr) (ow : List Nat) (tb : Tb) (cf : CF) (W : WX) : Option E → TO
  | none => tNoPart
  | some e => tPart (tE p ow tb cf W e)
inductive PPt (X : Cx) (p : Pr) (ow : List Nat) (tb : Tb) (cf : CF) (W : WX) : Option E → Option Expr → Prop
  | none : PPt X p ow tb cf W none none
  | some {e : E} {pe : Expr} : PE X pe (tE p ow tb cf W e) → PPt X p ow tb cf W (some e) (some pe)
theorem PPt.po {o : Option E} {po : Option Expr} (h : PPt X p ow tb cf W o po) : PO X po (tP p ow tb cf W o) := by
  cases h with
  | none => exact po_none
  | some h => exact po_some h
theorem part_run (ok : FOk p ow F) {o : Option E} {σ : L2.St} {H : Hp} {env : Env} {S : Option Int → Env → Hp → Prop} {Q : Option Int → Hp → Prop} (I : FI F σ H env) (w : Wish F W σ H env (evP tb cf o env) S)
    (q : ∀ l env' H', Post F σ H env H' env' → S l env' H' → Q l H') : tP p ow tb cf W o σ H Q := by
  cases o with
  | none =>
    rw [evP] at w
    exact q none env H (.refl I) (w H (.refl I))
  | some e =>
    rw [evP] at w
    show ∃ F env, _
    refine ⟨F, env, ok, I, w.bind.imp fun d env' H' P w' v r => ?_⟩
    cases d with
    | int i =>
      have f := r.1
      cases f
      exact ⟨i, rfl, q (some i) env' H' P (w' H' (.refl P.fi))⟩
    | _ => exact w'.elim
theorem s_slice (C : Cok p N tl sc k X W) {ea : E} {lo hi : Option E} {a : Expr} {pl ph : Option Expr} {p2 : Pos} (hl : ∀ i, lateOf ea = some i → i ∈ ow) (ha : PE X a (tO p ow tb cf W ea)) (h1 : PPt X p ow tb cf W lo pl) (h2 : PPt X p ow tb cf W hi ph) :
    PE X (.Subscript a (.Slice pl ph none p2) pos) (tE p ow tb cf W (.slice ea lo hi)) := by
  refine PEimp (pe_slice (sl_D C.facts.hK) ha h1.po h2.po) fun σ H Q ⟨F, env, ok, I, w⟩ => ?_
  rw [evE] at w
  show tO p ow tb cf W ea σ H _
  unfold tO
  cases e : lateOf ea with
  | some i =>
    rw [e] at w
    obtain ⟨d0, hg, w1⟩ := w.bind.of
    obtain ⟨v, hv⟩ := I.slot hg
    refine ⟨v, hv, part_run ok I (w1 H (.refl I)).bind fun l env1 H1 P1 w2 => ?_⟩
    refine part_run ok P1.fi w2.bind fun h env2 H2 P2 w3 => ?_
    obtain ⟨d, hg2, w4⟩ := w3.bind.of
    obtain ⟨r, er, w5⟩ := (w4 H2 (.refl P2.fi)).of
    obtain ⟨q, q1, q2, _⟩ := P2.fi.own i d hg2 (by rw [ok.ow]; exact hl i e)
    rw [hv] at q1
    cases q1
    rw [← ok.G]
    exact ⟨OO F σ env2, d, r, P2.fi.alive, .inr ⟨q, rfl, q2⟩, er, rr_of P2.fi (fun a z => (P1.trans P2).stp.dom a z) rfl w5⟩
  | none =>
    rw [e] at w
    refine ⟨F, env, ok, I, w.bind.imp fun d env0 H0 P0 w1 v hv => ?_⟩
    refine part_run ok P0.fi w1.bind fun l env1 H1 P1 w2 => ?_
    refine part_run ok P1.fi w2.bind fun h env2 H2 P2 w3 => ?_
    obtain ⟨r, er, w5⟩ := w3.of
    rw [← ok.G]
    exact ⟨OO F σ env2, d, r, P2.fi.alive, .inl (hv.1.carry (P1.trans P2).stp), er, rr_of P2.fi (fun a z => (P0.trans (P1.trans P2)).stp.dom a z) rfl w5⟩
/-- a built-in function's reading -/
theorem bf_run (ok : FOk p ow F) {g : List D → Option D} {σ : L2.St} {H : Hp} {Q : VK} {e : E} (hl : lateIn ow es = true) (hn : isNew tb e 3 = false) (I : FI F σ H env)
    (w : Wish F W σ H env ((evEs tb cf es env).bind fun ds env => R.of (g ds) env) fun d env' H' => ∀ v, VR F σ env' H H' (isNew tb e) v d → Q v H') : tCB (rBf p.G g) (tAs (tOs p ow tb cf W es)) σ H Q := by
  refine es_run ok es I w.bind fun ds env' H' vs P r w => ?_
  obtain ⟨d, e, w⟩ := w.of
  rw [← ok.G]
  exact ⟨OO F σ env', ds, d, P.fi.alive, r.brs P.fi (by rw [ok.ow]; exact hl), e, rr_of P.fi P.stp.dom hn w⟩
theorem bf_names (b : Bf) : plainName (bfName b) = true := by cases b <;> decide +kernel
theorem s_bf (C : Cok p N tl sc k X W) {b : Bf} {a : Expr} {as : List Expr} {q : Pos} (hg : gloB sc (bfName b) = true) (h : PEs X (a :: as) (tOs p ow tb cf W es)) (hl : lateIn ow es = true) : PE X (.Call (.Name (bfName b) q) (a :: as) [] pos) (tE p ow tb cf W (.bf b es)) := by
  have gl := C.gl hg
  have nm := C.facts.bln b
  have pn := bf_names b
  simp only [plainName, Bool.and_eq_true, Bool.not_eq_true', beq_eq_false_iff_ne] at pn
  obtain ⟨⟨pn1, pn2⟩, pn3⟩ := pn
  have hdb : (bfName b == ("__debug__" : Str)) = false := by simpa using pn1
  have hs : starEach (a :: as) X.env = (false, eval a X.env) :: starEach as X.env ∧ (backTo pos (starEach as X.env)).any (·.1) = false := by
    exact h.hd pos
  have pa := h.pa
  have fin : ∀ σ H Q, tE p ow tb cf W (.bf b es) σ H Q → tCB (rBf p.G (bfD b)) (tAs (tOs p ow tb cf W es)) σ H Q := fun σ H Q ⟨F, env, ok, I, w⟩ => by
    rw [evE] at w
    exact bf_run ok hl rfl I w
  have hu : X.A.units + 105 < cLine := by have := C.un; omega
  cases b
  · exact PEimp (pe_callB (call_lenD' C.facts.hK) gl nm (by decide +kernel) pa pn3 hdb hs.1 hs.2) fin
  · exact PEimp (pe_callB call_absD gl nm (by decide +kernel) pa pn3 hdb hs.1 hs.2) fin
  · exact PEimp (pe_callTy call_intD gl nm (by decide +kernel) pa pn3 hdb hs.1 hs.2) fin
  · exact PEimp (pe_callTy (call_listD C.facts.hK) gl nm (by decide +kernel) pa pn3 hdb hs.1 hs.2) fin
  · exact PEimp (pe_callTy (call_tupleD C.facts.hK) gl nm (by decide +kernel) pa pn3 hdb hs.1 hs.2) fin
  · exact PEimp (pe_callB (call_sortedD' C.facts.hK hu) gl nm (by decide +kernel) pa pn3 hdb hs.1 hs.2) fin
  · exact PEimp (pe_callB (call_maxD C.calm) gl nm (by decide +kernel) pa pn3 hdb hs.1 hs.2) fin
  · exact PEimp (pe_callB (call_minD C.facts.hK hu C.calm) gl nm (by decide +kernel) pa pn3 hdb hs.1 hs.2) fin
  · exact PEimp (pe_callTy (call_dictNK C.facts.hK C.facts.hW C.calm (by omega)) gl nm (by decide +kernel) pa pn3 hdb hs.1 hs.2) fin
  · exact PEimp (pe_callB (call_sumD C.facts.hK C.calm) gl nm (by decide +kernel) pa pn3 hdb hs.1 hs.2) fin
end
end Bh
/-! text Bh5d -/
set_option Elab.async false
set_option linter.all false
set_option maxRecDepth 100000
set_option maxHeartbeats 1000000
/-! Bh5d: what a call leaves. -/
namespace Bh
open PySem PySem.W L2 PyProof.Rows

section
variable {F : Fm} {σ : L2.St} {H H1 : Hp} {env env1 : Env}
/-- the frame with more that no data may touch -/
def Fm.more (F : Fm) (O : Addr → Prop) : Fm := { F with Ox := O }
/-- the slots of L, which own, are changed, and what Z tells; all else stands -/
theorem FI.chgs (I : FI F σ H env) {L : List (Nat × D)} {Z Ox' : Addr → Prop} (hL : ∀ q ∈ L, q.1 ∈ F.ow ∧ ∃ d, env.get q.1 = some d) (e1 : env1.length = env.length) (e2 : ∀ j, (∀ q ∈ L, q.1 ≠ j) → env1.get j = env.get j)
    (e3 : ∀ q ∈ L, env1.get q.1 = some q.2) (k : ∀ a o, H a = some o → (∀ q ∈ L, σ[q.1]? ≠ some (some (.ref a))) → Nt o → ¬ Z a → H1 a = some o)
    (hZ : ∀ a, Z a → ¬ Av F.H0 a ∧ F.Ox a ∧ ¬ ownA F.ow σ env a) (dom : ∀ a, Av H a → Av H1 a) (tabs : LamX.Tabs F.T H1)
    (o1 : ∀ a, F.Ox a → Ox' a) (o2 : ∀ a, Ox' a → F.Ox a ∨ ¬ Av H a) (o3 : Live H1 Ox')
    (hc : ∀ q ∈ L, ∀ a, σ[q.1]? = some (some (.ref a)) → Cont F.G H1 (fun b => Ox' b ∨ ownA F.ow σ env b) a q.2) :
    FI (F.more Ox') σ H1 env1 ∧ Stp H (OO F σ env) H1 (OO (F.more Ox') σ env1) ∧ ∀ a, ownA F.ow σ env1 a ↔ ownA F.ow σ env a := by
  have hown : ∀ a, ownA F.ow σ env1 a ↔ ownA F.ow σ env a := fun a => by
    have ex : ∀ i, (∃ d, env1.get i = some d) ↔ ∃ d, env.get i = some d := fun i => by
      by_cases h : ∃ q ∈ L, q.1 = i
      · obtain ⟨q, hq, rfl⟩ := h
        exact ⟨fun _ => (hL q hq).2, fun _ => ⟨_, e3 q hq⟩⟩
      · rw [e2 i fun q hq z => h ⟨q, hq, z⟩]
    unfold ownA
    constructor
    · rintro ⟨i, a1, a2, a3⟩; exact ⟨i, a1, (ex i).mp a2, a3⟩
    · rintro ⟨i, a1, a2, a3⟩; exact ⟨i, a1, (ex i).mpr a2, a3⟩
  have hOO : ∀ a, OO (F.more Ox') σ env1 a ↔ (Ox' a ∨ ownA F.ow σ env a) := fun a => by
    show (Ox' a ∨ ownA F.ow σ env1 a) ↔ _
    rw [hown]
  have st : Stp H (OO F σ env) H1 (OO (F.more Ox') σ env1) := by
    refine ⟨fun a o e t n => k a o e (fun q hq z => ?_) t fun z => n (.inl (hZ a z).2.1), fun a z => ?_, dom⟩
    · exact n (.inr ⟨q.1, (hL q hq).1, (hL q hq).2, z⟩)
    · rcases (hOO a).mp z with z | z
      · rcases o2 a z with y | y
        · exact .inl (.inl y)
        · exact .inr y
      · exact .inl (.inr z)
  have st2 : Stp H1 (fun b => Ox' b ∨ ownA F.ow σ env b) H1 (OO (F.more Ox') σ env1) := .mono fun a z => (hOO a).mp z
  refine ⟨⟨e1.trans I.len, ?_, ?_, ?_, ?_, o3, ?_, I.live0, fun a z => o1 a (I.oe a z), fun a h => dom a (I.sub a h), tabs, fun q hq => (I.ex q hq).carry st⟩, st, hown⟩
  · intro i d h n
    have h' : env.get i = some d := by rw [← e2 i fun q hq z => n (z ▸ (hL q hq).1)]; exact h
    obtain ⟨v, a, b⟩ := I.fr i d h' n
    exact ⟨v, a, b.carry st⟩
  · intro i d h n
    by_cases hi : ∃ q ∈ L, q.1 = i
    · obtain ⟨q, hq, rfl⟩ := hi
      rw [e3 q hq] at h
      cases h
      obtain ⟨d0, h0⟩ := (hL q hq).2
      obtain ⟨a, a1, a2, a3⟩ := I.own _ d0 h0 n
      exact ⟨a, a1, (hc q hq a a1).carry st2 rfl, a3⟩
    · have h' : env.get i = some d := by rw [← e2 i fun q hq z => hi ⟨q, hq, z⟩]; exact h
      obtain ⟨a, a1, a2, a3⟩ := I.own i d h' n
      obtain ⟨o, ho, ht⟩ := a2.av
      have ho' : H a = some o := ho
      have h1 : H1 a = some o := by
        refine k a o ho' (fun q hq z => ?_) ht fun z => (hZ a z).2.2 ⟨i, n, ⟨d, h'⟩, a1⟩
        exact hi ⟨q, hq, I.dist q.1 i a (hL q hq).1 n (hL q hq).2 ⟨d, h'⟩ z a1⟩
      exact ⟨a, a1, a2.carry st (h1.trans ho'.symm), a3⟩
  · rintro i j a hi hj hx hy h1 h2
    have ex : ∀ i, (∃ d, env1.get i = some d) → ∃ d, env.get i = some d := fun i ⟨d, hd⟩ => by
      by_cases h : ∃ q ∈ L, q.1 = i
      · obtain ⟨q, hq, rfl⟩ := h
        exact (hL q hq).2
      · rw [e2 i fun q hq z => h ⟨q, hq, z⟩] at hd
        exact ⟨d, hd⟩
    exact I.dist i j a hi hj (ex i hx) (ex j hy) h1 h2
  · intro a o h n t
    have ha := I.kp a o h n t
    refine k a o ha (fun q hq z => ?_) t fun z => ?_
    · obtain ⟨d0, h0⟩ := (hL q hq).2
      obtain ⟨b, b1, _, b3⟩ := I.own _ d0 h0 (hL q hq).1
      rw [z] at b1
      cases b1
      rcases b3 with ⟨j, hj⟩ | hn
      · exact n j hj
      · exact hn ⟨o, h, t⟩
    · exact (hZ a z).1 ⟨o, h, t⟩
  · intro q hq
    obtain ⟨a, b, c, d, hd⟩ := I.ip q hq
    refine ⟨a, b, c, ?_⟩
    by_cases hi : ∃ r ∈ L, r.1 = q.1
    · obtain ⟨r, hr, er⟩ := hi
      exact ⟨r.2, by rw [← er]; exact e3 r hr⟩
    · exact ⟨d, by rw [e2 q.1 fun r hr z => hi ⟨r, hr, z⟩]; exact hd⟩
end

/-! ### what was lent -/
/-- something of the kind k stands at a -/
inductive KindAt (H : Hp) (a : Addr) : Nat → Prop
  | lst {vs : List V} : H a = some (.lst vs) → KindAt H a 1
  | dct {o : Obj} : H a = some (pin a o) → KindAt H a 2
  | obj {C dx : Addr} {fs : List (Str × V)} : H a = some (.ins C dx fs) → KindAt H a 3
theorem Cont.kind {G : Gx} {H H' : Hp} {O : Addr → Prop} {a : Addr} {d : D} (h : Cont G H O a d) (e : H' a = H a) : KindAt H' a (kindOf d) := by
  cases h with
  | lst e2 _ => exact .lst (e.trans e2)
  | dct e2 _ _ _ _ _ _ => exact .dct (e.trans e2)
  | obj e2 _ => exact .obj (e.trans e2)
section
variable {G : Gx} {H : Hp} {O O2 L : Addr → Prop}
mutual
theorem FR.lent (h2 : ∀ a, O2 a → O a ∨ L a) : ∀ {v : V} {d : D}, (∀ a, L a → ∃ k, KindAt H a k ∧ hasK k d = false) → FR G H O v d → FR G H O2 v d
  | _, _, _, .non => .non
  | _, _, _, .bl b => .bl b
  | _, _, _, .int i => .int i
  | _, _, _, .str x => .str x
  | _, .tup ds, hk, .tup (a := a) e hd n r => by
    refine .tup e hd (fun z => ?_) (FRs.lent h2 (fun b hb => let ⟨k, k1, k2⟩ := hk b hb; ⟨k, k1, by simpa [hasK] using k2⟩) r)
    rcases h2 a z with z | z
    · exact n z
    · obtain ⟨k, c, _⟩ := hk a z
      cases c with
      | lst e2 => rw [e] at e2; cases e2
      | dct e2 => rw [e] at e2; cases e2
      | obj e2 => rw [e] at e2; cases e2
  | _, .tup ds, hk, .tupk t r => .tupk t (FRs.lent h2 (fun b hb => let ⟨k, k1, k2⟩ := hk b hb; ⟨k, k1, by simpa [hasK] using k2⟩) r)
  | _, .lst ds, hk, .lst (a := a) e n r => by
    refine .lst e (fun z => ?_) (FRs.lent h2 (fun b hb => let ⟨k, k1, k2⟩ := hk b hb; ⟨k, k1, by simp only [hasK, Bool.or_eq_false_iff] at k2; exact k2.2⟩) r)
    rcases h2 a z with z | z
    · exact n z
    · obtain ⟨k, c, k2⟩ := hk a z
      cases c with
      | lst e2 => simp [hasK] at k2
      | dct e2 => rw [e] at e2; cases e2
      | obj e2 => rw [e] at e2; cases e2
  | _, .dct kvs, hk, .dct (a := a) e n h1 h3 h4 h5 r h6 => by
    have no : ∀ b, ¬ L b := fun b hb => by
      obtain ⟨k, _, k2⟩ := hk b hb
      simp [hasK] at k2
    exact (FR.dct e n h1 h3 h4 h5 r h6).carry (.mono fun b z => (h2 b z).resolve_right (no b))
  | _, .obj c fs, hk, .obj (a := a) e n r => by
    have no : ∀ b, ¬ L b := fun b hb => by
      obtain ⟨k, _, k2⟩ := hk b hb
      simp [hasK] at k2
    exact (FR.obj e n r).carry (.mono fun b z => (h2 b z).resolve_right (no b))
theorem FRs.lent (h2 : ∀ a, O2 a → O a ∨ L a) : ∀ {vs : List V} {ds : List D}, (∀ a, L a → ∃ k, KindAt H a k ∧ hasKs k ds = false) → FRs G H O vs ds → FRs G H O2 vs ds
  | _, _, _, .nil => .nil
  | _, _ :: _, hk, .cons a b => .cons (FR.lent h2 (fun c hc => let ⟨k, k1, k2⟩ := hk c hc; ⟨k, k1, by simp only [hasKs, Bool.or_eq_false_iff] at k2; exact k2.1⟩) a)
      (FRs.lent h2 (fun c hc => let ⟨k, k1, k2⟩ := hk c hc; ⟨k, k1, by simp only [hasKs, Bool.or_eq_false_iff] at k2; exact k2.2⟩) b)
end
theorem Cont.kid (h2 : ∀ a, O2 a → O a ∨ L a) {q : Addr} {d : D} (hk : ∀ a, L a → ∃ k, KindAt H a k ∧ kidK k d = false) (c : Cont G H O q d) : Cont G H O2 q d := by
  have no : (∀ k, kidK k d = true) → ∀ b, ¬ L b := fun h b hb => by
    obtain ⟨k, _, k2⟩ := hk b hb
    rw [h k] at k2; cases k2
  cases c with
  | lst e r => exact .lst e (r.lent h2 fun b hb => let ⟨k, k1, k2⟩ := hk b hb; ⟨k, k1, by simpa [kidK] using k2⟩)
  | dct e a1 a2 a3 a4 r a5 => exact (Cont.dct e a1 a2 a3 a4 r a5).carry (.mono fun b z => (h2 b z).resolve_right (no (fun k => by simp [kidK]) b)) rfl
  | obj e r => exact (Cont.obj e r).carry (.mono fun b z => (h2 b z).resolve_right (no (fun k => by simp [kidK]) b)) rfl
theorem Cont.lent (h2 : ∀ a, O2 a → O a ∨ L a) {q : Addr} {d : D} (hk : ∀ a, L a → ∃ k, KindAt H a k ∧ hasK k d = false) (c : Cont G H O q d) : Cont G H O2 q d := by
  have no : (∀ k, hasK k d = true) → ∀ b, ¬ L b := fun h b hb => by
    obtain ⟨k, _, k2⟩ := hk b hb
    rw [h k] at k2; cases k2
  cases c with
  | lst e r => exact .lst e (r.lent h2 fun b hb => let ⟨k, k1, k2⟩ := hk b hb; ⟨k, k1, by simp only [hasK, Bool.or_eq_false_iff] at k2; exact k2.2⟩)
  | dct e a1 a2 a3 a4 r a5 => exact (Cont.dct e a1 a2 a3 a4 r a5).carry (.mono fun b z => (h2 b z).resolve_right (no (fun k => by simp [hasK]) b)) rfl
  | obj e r => exact (Cont.obj e r).carry (.mono fun b z => (h2 b z).resolve_right (no (fun k => by simp [hasK]) b)) rfl
end
end Bh
/-! text Bh5e -/
set_option Elab.async false
set_option linter.all false
set_option maxRecDepth 100000
set_option maxHeartbeats 1000000
/-! Bh5e: the arguments of a call, and its wish. -/
namespace Bh
open PySem PySem.W L2 PyProof.Rows
def ioOf : E → Option Nat
  | .io i => some i
  | _ => none
def borOf : E → Option Nat
  | .bor i => some i
  | _ => none
def isOwn : E → Bool
  | .own _ => true
  | _ => false
def argIo : Es → Nat → List Nat
  | .nil, _ => []
  | .cons e es, n => match ioOf e with
    | some _ => n :: argIo es (n + 1)
    | none => argIo es (n + 1)
def ioSlots : Es → List Nat
  | .nil => []
  | .cons e es => match ioOf e with
    | some i => i :: ioSlots es
    | none => ioSlots es
def borSlots : Es → List Nat
  | .nil => []
  | .cons e es => match borOf e with
    | some i => i :: borSlots es
    | none => borSlots es
def noOwn : Es → Bool
  | .nil => true
  | .cons e es => !isOwn e && noOwn es
def esLen : Es → Nat
  | .nil => 0
  | .cons _ es => esLen es + 1
/-- positions to slots -/
def ioAt : Es → Nat → Option Nat
  | .nil, _ => none
  | .cons e _, 0 => ioOf e
  | .cons _ es, i + 1 => ioAt es i
def argsOk (ow io : List Nat) (es : Es) : Bool := decide (argIo es 0 = io) && decide (ioSlots es).Nodup && (borSlots es).all (fun i => decide (i ∉ ioSlots es)) && noOwn es && lateIn ow es
/-- the slots of the inout arguments, with what they hold behind the call -/
def backL : Es → List D → List (Nat × D)
  | .nil, _ => []
  | .cons e es, os => match ioOf e, os with
    | some i, o :: os => (i, o) :: backL es os
    | _, os => backL es os
theorem putBack_io {i : Nat} {es : Es} {o : D} {os : List D} {env : Env} : putBack (.cons (.io i) es) (o :: os) env = putBack es os (env.put i o) := rfl
theorem putBack_cons {e : E} {es : Es} {os : List D} {env : Env} (h : ioOf e = none) : putBack (.cons e es) os env = putBack es os env := by
  cases e <;> first | rfl | (simp [ioOf] at h)
theorem ioOf_eq {e : E} {i : Nat} (h : ioOf e = some i) : e = .io i := by cases e <;> simp [ioOf] at h; rw [h]
theorem borOf_eq {e : E} {i : Nat} (h : borOf e = some i) : e = .bor i := by cases e <;> simp [borOf] at h; rw [h]
theorem backL_slots : ∀ {es : Es} {os : List D} {q : Nat × D}, q ∈ backL es os → q.1 ∈ ioSlots es
  | .nil, _, _, h => nomatch h
  | .cons e es, os, q, h => by
    unfold backL at h
    unfold ioSlots
    cases he : ioOf e with
    | none =>
      rw [he] at h
      exact backL_slots h
    | some i =>
      rw [he] at h
      cases os with
      | nil => exact List.mem_cons_of_mem _ (backL_slots h)
      | cons o os =>
        rcases List.mem_cons.mp h with h | h
        · rw [h]; exact List.mem_cons_self
        · exact List.mem_cons_of_mem _ (backL_slots h)
theorem putBack_len : ∀ (es : Es) (os : List D) (env : Env), (putBack es os env).length = env.length
  | .nil, _, _ => by simp [putBack]
  | .cons e es, os, env => by
    cases he : ioOf e with
    | none => rw [putBack_cons he]; exact putBack_len es os env
    | some i =>
      have := ioOf_eq he
      subst this
      cases os with
      | nil => exact putBack_len es [] env
      | cons o os => rw [putBack_io, putBack_len es os, put_len]
theorem putBack_other : ∀ (es : Es) (os : List D) (env : Env) (j : Nat), j ∉ ioSlots es → (putBack es os env).get j = env.get j
  | .nil, _, _, _, _ => by simp [putBack]
  | .cons e es, os, env, j, h => by
    unfold ioSlots at h
    cases he : ioOf e with
    | none =>
      rw [he] at h
      rw [putBack_cons he]; exact putBack_other es os env j h
    | some i =>
      rw [he] at h
      have h1 : j ≠ i := fun z => h (z ▸ List.mem_cons_self)
      have h2 : j ∉ ioSlots es := fun z => h (List.mem_cons_of_mem _ z)
      have := ioOf_eq he
      subst this
      cases os with
      | nil => exact putBack_other es [] env j h2
      | cons o os =>
        rw [putBack_io, putBack_other es os _ j h2]
        unfold Env.get Env.put
        rw [List.getElem?_set_ne (Ne.symm h1)]
theorem putBack_get : ∀ (es : Es) (os : List D) (env : Env), (ioSlots es).Nodup → (∀ i ∈ ioSlots es, i < env.length) → ∀ q ∈ backL es os, (putBack es os env).get q.1 = some q.2
  | .nil, _, _, _, _, q, h => nomatch h
  | .cons e es, os, env, nd, hl, q, h => by
    unfold backL at h
    unfold ioSlots at nd hl
    cases he : ioOf e with
    | none =>
      rw [he] at h nd hl
      rw [putBack_cons he]
      exact putBack_get es os env nd hl q h
    | some i =>
      rw [he] at h nd hl
      have nd' := List.nodup_cons.mp nd
      have := ioOf_eq he
      subst this
      cases os with
      | nil => exact putBack_get es [] env nd'.2 (fun j hj => hl j (List.mem_cons_of_mem _ hj)) q h
      | cons o os =>
        rw [putBack_io]
        rcases List.mem_cons.mp h with h | h
        · rw [h]
          rw [putBack_other es os _ i nd'.1, get_put (hl i List.mem_cons_self), if_pos rfl]
        · exact putBack_get es os _ nd'.2 (fun j hj => by rw [put_len]; exact hl j (List.mem_cons_of_mem _ hj)) q h
/-- a changed slot: its place among the inout parameters -/
theorem backL_at : ∀ (es : Es) (os : List D) (m : Nat) (q : Nat × D), q ∈ backL es os → ∃ n i : Nat, (argIo es m)[n]? = some (i + m) ∧ os[n]? = some q.2 ∧ ioAt es i = some q.1
  | .nil, _, _, q, h => nomatch h
  | .cons e es, os, m, q, h => by
    unfold backL at h
    unfold argIo
    cases he : ioOf e with
    | none =>
      rw [he] at h
      obtain ⟨n, i, h1, h2, h3⟩ := backL_at es os (m + 1) q h
      exact ⟨n, i + 1, by rw [h1]; congr 1; omega, h2, h3⟩
    | some s =>
      rw [he] at h
      cases os with
      | nil =>
        obtain ⟨n, i, h1, h2, h3⟩ := backL_at es [] (m + 1) q h
        simp at h2
      | cons o os =>
        rcases List.mem_cons.mp h with h | h
        · subst h
          exact ⟨0, 0, by simp, by simp, he⟩
        · obtain ⟨n, i, h1, h2, h3⟩ := backL_at es os (m + 1) q h
          exact ⟨n + 1, i + 1, by simp only [List.getElem?_cons_succ]; rw [h1]; congr 1; omega, by simpa using h2, h3⟩
/-- every inout argument is among them -/
theorem backL_all : ∀ (es : Es) (os : List D) (m i s : Nat), os.length = (argIo es m).length → ioAt es i = some s → ∃ o, (s, o) ∈ backL es os
  | .nil, _, _, _, _, _, h => nomatch h
  | .cons e es, os, m, i, s, hl, h => by
    unfold argIo at hl
    unfold backL
    cases he : ioOf e with
    | none =>
      rw [he] at hl
      cases i with
      | zero => have h' : ioOf e = some s := h; rw [he] at h'; cases h'
      | succ i => exact backL_all es os (m + 1) i s hl h
    | some t =>
      rw [he] at hl
      cases os with
      | nil => simp at hl
      | cons o os =>
        cases i with
        | zero =>
          have h' : ioOf e = some s := h
          rw [he] at h'
          cases h'
          exact ⟨o, List.mem_cons_self⟩
        | succ i =>
          obtain ⟨o', ho⟩ := backL_all es os (m + 1) i s (by simpa using hl) h
          exact ⟨o', List.mem_cons_of_mem _ ho⟩
theorem argIo_mem : ∀ (es : Es) (m i : Nat), (i + m) ∈ argIo es m ↔ (ioAt es i).isSome = true
  | .nil, m, i => by simp [argIo, ioAt]
  | .cons e es, m, i => by
    unfold argIo
    have low : ∀ (es : Es) (m x : Nat), x ∈ argIo es m → m ≤ x := by
      intro es
      induction es using Es.rec (motive_1 := fun _ => True) (motive_3 := fun _ => True) (motive_4 := fun _ => True) <;> try trivial
      case nil => intro m x h; simp [argIo] at h
      case cons e es _ ih =>
        intro m x h
        unfold argIo at h
        cases he : ioOf e with
        | none => rw [he] at h; have := ih (m + 1) x h; omega
        | some t =>
          rw [he] at h
          rcases List.mem_cons.mp h with h | h
          · omega
          · have := ih (m + 1) x h; omega
    cases i with
    | zero =>
      show _ ↔ (ioOf e).isSome = true
      cases he : ioOf e with
      | none =>
        simp only [Nat.zero_add, Option.isSome_none, Bool.false_eq_true, iff_false]
        intro z
        have := low es (m + 1) m z
        omega
      | some t => simp
    | succ i =>
      show _ ↔ (ioAt es i).isSome = true
      rw [← argIo_mem es (m + 1) i]
      have e1 : i + 1 + m = i + (m + 1) := by omega
      rw [e1]
      cases he : ioOf e with
      | none => exact Iff.rfl
      | some t =>
        simp only [List.mem_cons]
        constructor
        · rintro (z | z)
          · omega
          · exact z
        · exact .inr
theorem ioAt_slot : ∀ {es : Es} {i s : Nat}, ioAt es i = some s → s ∈ ioSlots es
  | .nil, _, _, h => nomatch h
  | .cons e es, 0, s, h => by
    have h' : ioOf e = some s := h
    unfold ioSlots
    rw [h']
    exact List.mem_cons_self
  | .cons e es, i + 1, s, h => by
    have h' : ioAt es i = some s := h
    unfold ioSlots
    cases he : ioOf e with
    | none => exact ioAt_slot h'
    | some t => exact List.mem_cons_of_mem _ (ioAt_slot h')
theorem ioAt_inj : ∀ {es : Es} {i j s : Nat}, (ioSlots es).Nodup → ioAt es i = some s → ioAt es j = some s → i = j
  | .nil, _, _, _, _, h, _ => nomatch h
  | .cons e es, 0, 0, _, _, _, _ => rfl
  | .cons e es, 0, j + 1, s, nd, h1, h2 => by
    have h' : ioOf e = some s := h1
    unfold ioSlots at nd
    rw [h'] at nd
    exact ((List.nodup_cons.mp nd).1 (ioAt_slot (show ioAt es j = some s from h2))).elim
  | .cons e es, i + 1, 0, s, nd, h1, h2 => by
    have h' : ioOf e = some s := h2
    unfold ioSlots at nd
    rw [h'] at nd
    exact ((List.nodup_cons.mp nd).1 (ioAt_slot (show ioAt es i = some s from h1))).elim
  | .cons e es, i + 1, j + 1, s, nd, h1, h2 => by
    have nd' : (ioSlots es).Nodup := by
      unfold ioSlots at nd
      split at nd
      · exact (List.nodup_cons.mp nd).2
      · exact nd
    rw [ioAt_inj nd' (show ioAt es i = some s from h1) (show ioAt es j = some s from h2)]
section
variable {F : Fm} {W : WX} {σ : L2.St} {H H1 : Hp} {env env1 : Env}
theorem OR.len : ∀ {es : Es} {vs : List V} {ds : List D}, OR F σ H env es vs ds → vs.length = esLen es ∧ ds.length = esLen es
  | .nil, [], [], .nil => ⟨rfl, rfl⟩
  | .cons e _, _ :: _, _ :: _, .late _ _ _ r => by
    obtain ⟨h1, h2⟩ := OR.len r
    exact ⟨by simp [esLen, h1], by simp [esLen, h2]⟩
  | .cons e _, _ :: _, _ :: _, .now _ _ r => by
    obtain ⟨h1, h2⟩ := OR.len r
    exact ⟨by simp [esLen, h1], by simp [esLen, h2]⟩
theorem lateOf_io {e : E} {i : Nat} (h : ioOf e = some i) : lateOf e = some i := by rw [ioOf_eq h]; rfl
theorem lateOf_cases {e : E} {i : Nat} (h : lateOf e = some i) : isOwn e = true ∨ ioOf e = some i ∨ borOf e = some i := by
  cases e <;> simp [lateOf] at h
  · exact .inl rfl
  · exact .inr (.inl (by rw [h]; rfl))
  · exact .inr (.inr (by rw [h]; rfl))
/-- an inout argument -/
theorem OR.io : ∀ {es : Es} {vs : List V} {ds : List D}, OR F σ H env es vs ds → ∀ {i s : Nat}, ioAt es i = some s → ∃ v d, vs[i]? = some v ∧ ds[i]? = some d ∧ σ[s]? = some (some v) ∧ env.get s = some d
  | .nil, [], [], .nil, _, _, h => nomatch h
  | .cons e _, v :: _, d :: _, .late hl hg hs r, 0, s, h => by
    have h' : ioOf e = some s := h
    rw [lateOf_io h'] at hl
    cases hl
    exact ⟨v, d, rfl, rfl, hs, hg⟩
  | .cons e _, v :: _, d :: _, .now hl _ r, 0, s, h => by
    have h' : ioOf e = some s := h
    rw [lateOf_io h'] at hl
    cases hl
  | .cons e _, v :: _, d :: _, .late hl hg hs r, i + 1, s, h => OR.io r (i := i) h
  | .cons e _, v :: _, d :: _, .now _ _ r, i + 1, s, h => OR.io r (i := i) h
/-- another argument -/
theorem OR.other (I : FI F σ H env) {Oe : Addr → Prop} (h2 : ∀ a, Oe a → OO F σ env a) : ∀ {es : Es} {vs : List V} {ds : List D}, OR F σ H env es vs ds → noOwn es = true → lateIn F.ow es = true →
    (∀ i ∈ borSlots es, ∀ a, σ[i]? = some (some (.ref a)) → ¬ Oe a) → ∀ {i : Nat} {d : D}, ds[i]? = some d → ioAt es i = none → ∃ v, vs[i]? = some v ∧ FR F.G H Oe v d
  | .nil, [], [], .nil, _, _, _, _, _, h, _ => by simp at h
  | .cons e _, v :: _, d :: _, .late hl hg hs r, hn, hi, hb, 0, d', h, ha => by
    simp only [List.getElem?_cons_zero, Option.some.injEq] at h
    subst h
    have ha' : ioOf e = none := ha
    simp only [noOwn, Bool.and_eq_true, Bool.not_eq_true'] at hn
    simp only [lateIn, hl, Bool.and_eq_true, decide_eq_true_eq] at hi
    rcases lateOf_cases hl with z | z | z
    · rw [hn.1] at z; cases z
    · rw [ha'] at z; cases z
    · obtain ⟨p, h1, c, _⟩ := I.own _ _ hg hi.1
      rw [hs] at h1
      cases h1
      exact ⟨_, rfl, (c.carry (.mono h2) rfl).fr (hb _ (by unfold borSlots; rw [z]; exact List.mem_cons_self) p hs)⟩
  | .cons e _, v :: _, d :: _, .now hl f r, hn, hi, hb, 0, d', h, ha => by
    simp only [List.getElem?_cons_zero, Option.some.injEq] at h
    subst h
    exact ⟨v, rfl, f.carry (.mono h2)⟩
  | .cons e _, v :: _, d :: _, .late hl hg hs r, hn, hi, hb, i + 1, d', h, ha => by
    simp only [noOwn, Bool.and_eq_true] at hn
    simp only [lateIn, Bool.and_eq_true] at hi
    refine OR.other I h2 r hn.2 hi.2 (fun j hj => hb j ?_) (i := i) (by simpa using h) ha
    unfold borSlots
    split
    · exact List.mem_cons_of_mem _ hj
    · exact hj
  | .cons e _, v :: _, d :: _, .now hl f r, hn, hi, hb, i + 1, d', h, ha => by
    simp only [noOwn, Bool.and_eq_true] at hn
    simp only [lateIn, Bool.and_eq_true] at hi
    refine OR.other I h2 r hn.2 hi.2 (fun j hj => hb j ?_) (i := i) (by simpa using h) ha
    unfold borSlots
    split
    · exact List.mem_cons_of_mem _ hj
    · exact hj
/-- what is lent: its data -/
theorem OR.bor : ∀ {es : Es} {vs : List V} {ds : List D}, OR F σ H env es vs ds → ∀ i ∈ borSlots es, ∃ d, env.get i = some d ∧ (∀ r, lentOk es ds r = true → hasK (kindOf d) r = false) ∧ ∀ r, lentOut es ds r = true → kidK (kindOf d) r = false
  | .nil, [], [], .nil, _, h => nomatch h
  | .cons e es, v :: vs, d :: ds, .late hl hg hs r, i, h => by
    unfold borSlots at h
    cases hb : borOf e with
    | some j =>
      have := borOf_eq hb
      subst this
      cases hl
      rw [hb] at h
      rcases List.mem_cons.mp h with h | h
      · subst h
        refine ⟨d, hg, fun r hr => ?_, fun r hr => ?_⟩
        · have hr' : (!hasK (kindOf d) r && lentOk es ds r) = true := hr
          simp only [Bool.and_eq_true, Bool.not_eq_true'] at hr'
          exact hr'.1
        · have hr' : (!kidK (kindOf d) r && lentOut es ds r) = true := hr
          simp only [Bool.and_eq_true, Bool.not_eq_true'] at hr'
          exact hr'.1
      · obtain ⟨d', h1, h2, h3⟩ := OR.bor r i h
        refine ⟨d', h1, fun r hr => h2 r ?_, fun r hr => h3 r ?_⟩
        · have hr' : (!hasK (kindOf d) r && lentOk es ds r) = true := hr
          simp only [Bool.and_eq_true] at hr'
          exact hr'.2
        · have hr' : (!kidK (kindOf d) r && lentOut es ds r) = true := hr
          simp only [Bool.and_eq_true] at hr'
          exact hr'.2
    | none =>
      rw [hb] at h
      obtain ⟨d', h1, h2, h3⟩ := OR.bor r i h
      exact ⟨d', h1, fun r hr => h2 r (by cases e <;> first | exact hr | (simp [borOf] at hb)), fun r hr => h3 r (by cases e <;> first | exact hr | (simp [borOf] at hb))⟩
  | .cons e es, v :: vs, d :: ds, .now hl f r, i, h => by
    unfold borSlots at h
    cases hb : borOf e with
    | some j =>
      have := borOf_eq hb
      subst this
      cases hl
    | none =>
      rw [hb] at h
      obtain ⟨d', h1, h2, h3⟩ := OR.bor r i h
      exact ⟨d', h1, fun r hr => h2 r (by cases e <;> first | exact hr | (simp [borOf] at hb)), fun r hr => h3 r (by cases e <;> first | exact hr | (simp [borOf] at hb))⟩
end
end Bh
/-! text Bh5f -/
set_option Elab.async false
set_option linter.all false
set_option maxRecDepth 100000
set_option maxHeartbeats 1000000
/-! Bh5f: calls. -/
namespace Bh
open PySem PySem.W L2 PyProof.Rows
section
variable {p : Pr} {N : List Str} {ow : List Nat} {tl : Bool} {sc : Scope} {F : Fm} {k : Nat} {X : Cx} {W : WX} {cf : CF} {tb : Tb} {pos : Pos} {es : Es}
variable {σ : L2.St} {H H' : Hp} {env : Env} {df : Def} {vs : List V} {ds : List D}
/-- lent -/
def Lt (σ : L2.St) (es : Es) (a : Addr) : Prop := ∃ i ∈ borSlots es, σ[i]? = some (some (.ref a))
/-- what no data of the callee may touch -/
def OeC (F : Fm) (σ : L2.St) (env : Env) (es : Es) (a : Addr) : Prop := OO F σ env a ∧ ¬ Lt σ es a
structure ArgsOk (ow io : List Nat) (es : Es) : Prop where
  io : argIo es 0 = io
  nd : (ioSlots es).Nodup
  bor : ∀ i ∈ borSlots es, i ∉ ioSlots es
  own : noOwn es = true
  late : lateIn ow es = true
theorem argsOk_of {io : List Nat} (h : argsOk ow io es = true) : ArgsOk ow io es := by
  unfold argsOk at h
  simp only [Bool.and_eq_true, decide_eq_true_eq, List.all_eq_true] at h
  obtain ⟨⟨⟨⟨h1, h2⟩, h3⟩, h4⟩, h5⟩ := h
  exact ⟨h1, h2, h3, h4, h5⟩
theorem ArgsOk.mem {io : List Nat} (a : ArgsOk ow io es) (i : Nat) : i ∈ io ↔ (ioAt es i).isSome = true := by
  rw [← argIo_mem es 0 i, Nat.add_zero, a.io]
theorem lateIn_io : ∀ {es : Es}, lateIn ow es = true → (∀ s ∈ ioSlots es, s ∈ ow) ∧ ∀ s ∈ borSlots es, s ∈ ow
  | .nil, _ => ⟨fun _ h => (nomatch h), fun _ h => (nomatch h)⟩
  | .cons e es, h => by
    simp only [lateIn, Bool.and_eq_true] at h
    obtain ⟨h1, h2⟩ := lateIn_io h.2
    refine ⟨fun s hs => ?_, fun s hs => ?_⟩
    · unfold ioSlots at hs
      cases he : ioOf e with
      | none => rw [he] at hs; exact h1 s hs
      | some i =>
        rw [he] at hs
        rcases List.mem_cons.mp hs with hs | hs
        · have h0 := h.1
          rw [lateOf_io he] at h0
          rw [hs]
          simpa using h0
        · exact h1 s hs
    · unfold borSlots at hs
      cases he : borOf e with
      | none => rw [he] at hs; exact h2 s hs
      | some i =>
        rw [he] at hs
        rcases List.mem_cons.mp hs with hs | hs
        · have h0 := h.1
          have := borOf_eq he
          subst this
          rw [hs]
          simpa [lateOf] using h0
        · exact h2 s hs
theorem call_ar (hG : F.G = p.G) (hT : F.T = p.T) (hw : F.ow = ow) (I : FI F σ H env) (r : OR F σ H env es vs ds) (a : ArgsOk ow df.io es) (hn : esLen es = df.np) : AR p.T df p.G H (OeC F σ env es) vs ds := by
  obtain ⟨l1, l2⟩ := r.len
  have sub : ∀ a, OeC F σ env es a → OO F σ env a := fun _ z => z.1
  have hl : lateIn F.ow es = true := by rw [hw]; exact a.late
  obtain ⟨m1, m2⟩ := lateIn_io a.late
  refine ⟨l1.trans hn, l2.trans hn, fun b z => I.alive b z.1, by rw [← hT]; exact I.tabs, fun i d h hi => ?_, fun i d h hi => ?_, fun i j b hi hj h1 h2 => ?_⟩
  · rw [← hG]
    refine r.other I sub a.own hl (fun j hj b hb z => z.2 ⟨j, hj, hb⟩) h ?_
    cases e : ioAt es i with
    | none => rfl
    | some s => exact (hi ((a.mem i).mpr (by rw [e]; rfl))).elim
  · obtain ⟨s, hs⟩ := Option.isSome_iff_exists.mp ((a.mem i).mp hi)
    obtain ⟨v, d', h1, h2, h3, h4⟩ := r.io hs
    rw [h] at h2
    cases h2
    have hso := m1 s (ioAt_slot hs)
    obtain ⟨b, b1, c, _⟩ := I.own s d h4 (by rw [hw]; exact hso)
    rw [h3] at b1
    cases b1
    refine ⟨b, h1, ⟨.inr ⟨s, by rw [hw]; exact hso, ⟨d, h4⟩, h3⟩, fun ⟨j, hj, hb⟩ => ?_⟩, by rw [← hG]; exact c.carry (.mono sub) rfl⟩
    obtain ⟨d2, g2, _⟩ := r.bor j hj
    have := I.dist s j b (by rw [hw]; exact hso) (by rw [hw]; exact m2 j hj) ⟨d, h4⟩ ⟨d2, g2⟩ h3 hb
    exact a.bor j hj (this ▸ ioAt_slot hs)
  · obtain ⟨s, hs⟩ := Option.isSome_iff_exists.mp ((a.mem i).mp hi)
    obtain ⟨t, ht⟩ := Option.isSome_iff_exists.mp ((a.mem j).mp hj)
    obtain ⟨v, d, g1, g2, g3, g4⟩ := r.io hs
    obtain ⟨w, e, f1, f2, f3, f4⟩ := r.io ht
    rw [h1] at g1
    rw [h2] at f1
    cases g1
    cases f1
    have := I.dist s t b (by rw [hw]; exact m1 s (ioAt_slot hs)) (by rw [hw]; exact m1 t (ioAt_slot ht)) ⟨d, g4⟩ ⟨e, f4⟩ g3 f3
    rw [← this] at ht
    exact ioAt_inj a.nd hs ht
/-- what was lent stands as it did -/
theorem lent_kind {T : List (Addr × Str)} {io : List Nat} {Oe O' : Addr → Prop} {outs : List D} (hT : F.T = T) (hw : F.ow = ow) (I : FI F σ H env) (r : OR F σ H env es vs ds) (a : ArgsOk ow io es) (P : DP T io vs F.G H Oe H' O' outs) :
    ∀ b, Lt σ es b → ∃ d, (∀ x, lentOk es ds x = true → hasK (kindOf d) x = false) ∧ (∀ x, lentOut es ds x = true → kidK (kindOf d) x = false) ∧ KindAt H' b (kindOf d) := fun b ⟨i, hi, hs⟩ => by
  obtain ⟨m1, m2⟩ := lateIn_io a.late
  obtain ⟨d, hg, k1, k2⟩ := r.bor i hi
  have hio : i ∈ F.ow := by rw [hw]; exact m2 i hi
  obtain ⟨q, q1, c, _⟩ := I.own i d hg hio
  rw [hs] at q1
  cases q1
  obtain ⟨o, ho, hnt⟩ := c.av
  have ho' : H b = some o := ho
  have h1 : H' b = some o := by
    refine P.keep b o ho' (fun j hj z => ?_) hnt
    · obtain ⟨s, es'⟩ := Option.isSome_iff_exists.mp ((a.mem j).mp hj)
      obtain ⟨v, d2, g1, g2, g3, g4⟩ := r.io es'
      rw [z] at g1
      cases g1
      have := I.dist i s b hio (by rw [hw]; exact m1 s (ioAt_slot es')) ⟨d, hg⟩ ⟨d2, g4⟩ hs g3
      exact a.bor i hi (this ▸ ioAt_slot es')
  exact ⟨d, k1, k2, c.kind (h1.trans ho'.symm)⟩
theorem slot_at : ∀ {es : Es} {s : Nat}, s ∈ ioSlots es → ∃ i, ioAt es i = some s
  | .nil, _, h => nomatch h
  | .cons e es, s, h => by
    unfold ioSlots at h
    cases he : ioOf e with
    | none =>
      rw [he] at h
      obtain ⟨i, hi⟩ := slot_at h
      exact ⟨i + 1, hi⟩
    | some t =>
      rw [he] at h
      rcases List.mem_cons.mp h with h | h
      · exact ⟨0, by rw [h]; exact he⟩
      · obtain ⟨i, hi⟩ := slot_at h
        exact ⟨i + 1, hi⟩
/-- the frame behind a call -/
theorem call_back {T : List (Addr × Str)} {io : List Nat} {O' Ox' : Addr → Prop} {outs : List D} (hT : F.T = T) (hw : F.ow = ow) (I : FI F σ H env) (r : OR F σ H env es vs ds) (a : ArgsOk ow io es) {Oe : Addr → Prop} (P : DP T io vs F.G H Oe H' O' outs)
    (lo : outs.all (lentOut es ds) = true) (o1 : ∀ b, F.Ox b → Ox' b) (o2 : ∀ b, Ox' b → F.Ox b ∨ ¬ Av H b) (o3 : Live H' Ox') (oo : ∀ b, (Ox' b ∨ ownA F.ow σ env b) → O' b ∨ Lt σ es b) :
    FI (F.more Ox') σ H' (putBack es outs env) ∧ Stp H (OO F σ env) H' (OO (F.more Ox') σ (putBack es outs env)) ∧ ∀ b, ownA F.ow σ (putBack es outs env) b ↔ ownA F.ow σ env b := by
  obtain ⟨m1, m2⟩ := lateIn_io a.late
  have hlen : outs.length = (argIo es 0).length := by rw [a.io]; exact P.len
  have hget : ∀ s ∈ ioSlots es, ∃ d, env.get s = some d := by
    intro s hs
    obtain ⟨i, hi⟩ := slot_at hs
    obtain ⟨v, d, _, _, _, h⟩ := r.io hi
    exact ⟨d, h⟩
  refine I.chgs (L := backL es outs) (Z := fun _ => False) (fun q hq => ⟨by rw [hw]; exact m1 _ (backL_slots hq), hget _ (backL_slots hq)⟩) (putBack_len es outs env) (fun j hj => ?_) (putBack_get es outs env a.nd fun i hi => ?_) (fun b o e n t _ => ?_)
    (fun _ z => z.elim) P.sub (hT ▸ P.tabs) o1 o2 o3 fun q hq b hb => ?_
  · by_cases h : j ∈ ioSlots es
    · obtain ⟨i, hi⟩ := slot_at h
      obtain ⟨o', ho⟩ := backL_all es outs 0 i j hlen hi
      exact (hj _ ho rfl).elim
    · exact putBack_other es outs env j h
  · obtain ⟨d, hd⟩ := hget i hi
    exact get_lt hd
  · refine P.keep b o e (fun i hi z => ?_) t
    obtain ⟨s, hs⟩ := Option.isSome_iff_exists.mp ((a.mem i).mp hi)
    obtain ⟨v, d, g1, g2, g3, g4⟩ := r.io hs
    rw [z] at g1
    cases g1
    obtain ⟨o', ho⟩ := backL_all es outs 0 i s hlen hs
    exact n _ ho g3
  · obtain ⟨n, i, h1, h2, h3⟩ := backL_at es outs 0 q hq
    rw [a.io, Nat.add_zero] at h1
    obtain ⟨b', g1, c⟩ := P.out n i q.2 h1 h2
    obtain ⟨v, d, f1, f2, f3, f4⟩ := r.io h3
    rw [g1] at f1
    cases f1
    rw [hb] at f3
    cases f3
    have lo' := List.all_eq_true.mp lo q.2 (List.mem_of_getElem? h2)
    refine c.kid oo fun x hx => ?_
    obtain ⟨d0, _, k2, k3⟩ := lent_kind hT hw I r a P x hx
    exact ⟨_, k3, k2 _ lo'⟩
/-- what is not owned stands behind a call -/
theorem call_kx {T : List (Addr × Str)} {io : List Nat} {Oe O' : Addr → Prop} {outs : List D} (hT : F.T = T) (hw : F.ow = ow) (r : OR F σ H env es vs ds) (a : ArgsOk ow io es) (P : DP T io vs F.G H Oe H' O' outs) :
    ∀ b o, H b = some o → ¬ ownA F.ow σ env b → Nt o → H' b = some o := fun b o h n t => P.keep b o h (fun i hi z => by
  obtain ⟨s, hs⟩ := Option.isSome_iff_exists.mp ((a.mem i).mp hi)
  obtain ⟨v, d, g1, g2, g3, g4⟩ := r.io hs
  rw [z] at g1
  cases g1
  exact n ⟨s, by rw [hw]; exact (lateIn_io a.late).1 s (ioAt_slot hs), ⟨d, g4⟩, g3⟩) t
end
end Bh
/-! text Bh5g -/
set_option Elab.async false
set_option linter.all false
set_option maxRecDepth 100000
set_option maxHeartbeats 1000000
/-! Bh5g: calls of defs, methods, classes. -/
namespace Bh
open PySem PySem.W L2 PyProof.Rows
section
variable {p : Pr} {N : List Str} {ow : List Nat} {tl : Bool} {sc : Scope} {F : Fm} {k : Nat} {X : Cx} {W : WX} {cf : CF} {tb : Tb} {pos : Pos} {es : Es}
theorem call_sp {σ : L2.St} {H Hs : Hp} {env : Env} {df : Def} {vs : List V} {ds : List D} (hG : F.G = p.G) (hT : F.T = p.T) (hw : F.ow = ow) {g : List D → CR} {Q : VK} {nw : Nat → Bool} (hnw : ∀ k, nw k = true → df.fr = true ∧ (k = 1 ∨ k = 2))
    (I : FI F σ H env) (r : OR F σ H env es vs ds) (a : ArgsOk ow df.io es) (hn : esLen es = df.np) (dom : ∀ b, Av Hs b → Av H b)
    (w : Wish F W σ H env (callRes es ds env (g ds)) fun d env' H' => ∀ v, VR F σ env' Hs H' nw v d → Q v H') : spD p df g vs H Q (WE W σ) := by
  refine ⟨OeC F σ env es, ds, call_ar hG hT hw I r a hn, ?_⟩
  have oo : ∀ b, OO F σ env b → OeC F σ env es b ∨ Lt σ es b := fun b z => by
    by_cases h : Lt σ es b
    · exact .inr h
    · exact .inl ⟨z, h⟩
  cases hg : g ds with
  | err => rw [hg] at w; exact w.elim
  | exc c outs =>
    rw [hg] at w
    intro dx H' P
    have w' : Wish F W σ H env (if outs.all (lentOut es ds) then (.exc c (putBack es outs env) : R D) else .err) _ := w
    split at w'
    · rename_i lo
      rw [← hG] at P
      obtain ⟨I1, st, own⟩ := call_back (Ox' := F.Ox) hT hw I r a P lo (fun _ z => z) (fun _ z => .inl z) (fun b z => P.sub b (I.live b z)) oo
      have P1 : Post F σ H env H' (putBack es outs env) := ⟨I1, st, fun b z => (own b).mp z, call_kx hT hw r a P⟩
      have := w' dx H' P1
      rw [hG] at this
      exact this
    · exact w'.elim
  | ok r' outs =>
    rw [hg] at w
    intro v H' P f nw'
    have w' : Wish F W σ H env (if lentOk es ds r' && outs.all (lentOut es ds) then (.ok r' (putBack es outs env) : R D) else .err) _ := w
    split at w'
    · rename_i lo
      rw [Bool.and_eq_true] at lo
      rw [← hG] at P f nw'
      obtain ⟨I1, st, own⟩ := call_back (Ox' := F.Ox) hT hw I r a P lo.2 (fun _ z => z) (fun _ z => .inl z) (fun b z => P.sub b (I.live b z)) oo
      have P1 : Post F σ H env H' (putBack es outs env) := ⟨I1, st, fun b z => (own b).mp z, call_kx hT hw r a P⟩
      have lk : ∀ b, Lt σ es b → ∃ k, KindAt H' b k ∧ hasK k r' = false := fun b hb =>
        let ⟨d0, k1, _, k3⟩ := lent_kind hT hw I r a P b hb
        ⟨_, k3, k1 _ lo.1⟩
      have oo' : ∀ b, OO F σ (putBack es outs env) b → OeC F σ env es b ∨ Lt σ es b := fun b z => oo b (z.imp id (own b).mp)
      refine w' H' P1 v ⟨f.lent oo' lk, fun z1 z2 => ?_⟩
      obtain ⟨q, rfl, hq, cq, Pq⟩ := nw' (hnw _ z1).1 (hnw _ z1).2
      have oq : ∀ b, ((F.Ox b ∨ b = q) ∨ ownA F.ow σ env b) → (OeC F σ env es b ∨ b = q) ∨ Lt σ es b := fun b z => by
        rcases z with (z | z) | z
        · exact (oo b (.inl z)).elim (fun y => .inl (.inl y)) .inr
        · exact .inl (.inr z)
        · exact (oo b (.inr z)).elim (fun y => .inl (.inl y)) .inr
      obtain ⟨I2, st2, own2⟩ := call_back (Ox' := fun b => F.Ox b ∨ b = q) hT hw I r a Pq lo.2 (fun _ z => .inl z) (fun b z => z.elim .inl fun y => .inr (y ▸ hq)) (fun b z => z.elim (fun y => P.sub b (I.live b y)) fun y => y ▸ cq.av) oq
      have nq : ¬ OO F σ (putBack es outs env) q := fun z => I.free hq (z.imp id (own q).mp)
      have hs0 : ¬ Av Hs q := fun z => hq (dom q z)
      refine ⟨q, rfl, hs0, nq, cq.lent (fun b z => ?_) lk, I2⟩
      refine oq b ?_
      rcases z with z | z
      · exact .inl z
      · exact .inr ((own2 b).mp z)
    · exact w'.elim
theorem pe_callS0 {CX : CXT} {f : Addr} {fd : FuncData} {ps : List Str} {sp : Sp} {E : L2.St → XK} {x : Str} {q : Pos} (F : FnOk X.prog X.w X.K X.mg X.base CX k f fd ps sp) (hr : Room k X.A) (hg : Gl X x) (hm : X.mg x = some (.ref f)) (hk : keepIn X.K (.ref f) = true) (hb : L2.Binds X.K fd ps [])
    (hx : ∀ σ, PassesAt CX X σ (E σ)) (hdb : (x == ("__debug__" : Str)) = false) : PE X (.Call (.Name x q) [] [] pos) (tCallS sp E tNil) := by
  refine ⟨fun pins s σ H Q I h => ?_⟩
  refine wpAny_Call_Name_kw (ld_glob I hg hm ?_ hdb)
  exact callWith_K0 I.kIn hk (run_fnS (us := []) F hr hb (hx σ) I .nil h)
theorem Post.domL {σ : L2.St} {H H' : Hp} {env env' : Env} (P : Post F σ H env H' env') : ∀ b, Av H b → Av H' b := P.stp.dom
theorem s_call (C : Cok p N tl sc k X W) {f : Nat} {df : Def} {as : List Expr} {q : Pos} (hdf : p.pg.defs f = some df) (ht : p.top f = true) (hfr : p.pg.tb.fresh f = df.fr) (hg : gloB sc (p.dn f) = true) (hpn : plainName (p.dn f) = true)
    (h : PEs X as (tOs p ow p.pg.tb (lev p.pg k) W es)) (ha : argsOk ow df.io es = true) (hn : esLen es = df.np) : PE X (.Call (.Name (p.dn f) q) as [] pos) (tE p ow p.pg.tb (lev p.pg k) W (.call f es)) := by
  simp only [plainName, Bool.and_eq_true, Bool.not_eq_true'] at hpn
  have fin : ∀ σ H Q, tE p ow p.pg.tb (lev p.pg k) W (.call f es) σ H Q → tCallS (spD p df ((lev p.pg k).c 0 f)) (WE W) (tAs (tOs p ow p.pg.tb (lev p.pg k) W es)) σ H Q := fun σ H Q ⟨F, env, ok, I, w⟩ => by
    rw [evE] at w
    exact es_run ok es I w.bind fun ds env' H' vs P r w => call_sp ok.G ok.T ok.ow (fun j hj => by
      have hj' : ((j == 1 || j == 2) && p.pg.tb.fresh f) = true := hj
      rw [Bool.and_eq_true, Bool.or_eq_true, beq_iff_eq, beq_iff_eq] at hj'
      exact ⟨by rw [← hfr]; exact hj'.2, hj'.1⟩) P.fi r (argsOk_of ha) hn P.domL w
  cases as with
  | nil =>
    refine PEimp (pe_callS0 (C.facts.fn k (Nat.le_refl _) f df hdf) C.room (C.gl hg) (C.facts.dm f ht) (C.facts.kp f df hdf) (C.facts.bi f df hdf) (fun σ => passAt C.tk σ) hpn.1.1) fun σ H Q hh => ?_
    have := fin σ H Q hh
    generalize hts : tOs p ow p.pg.tb (lev p.pg k) W es = ts at h this
    cases h
    exact this
  | cons e es' =>
    exact PEimp (pe_callS (C.facts.fn k (Nat.le_refl _) f df hdf) C.room (C.gl hg) (C.facts.dm f ht) (C.facts.kp f df hdf) (C.facts.bi f df hdf) (fun σ => passAt C.tk σ) h.pa hpn.1.1 (h.hd pos).1 (h.hd pos).2) fin
/-! methods -/
def tM (X : Cx) (k : Nat) (m : Str) (E : L2.St → XK) (ta : TE) (t : TA) : TE := fun σ H Q => ta σ H fun x H1 => ∃ (a C dx : Addr) (fs : List (Str × V)) (f : Addr) (fd : FuncData) (ps : List Str) (sp : Sp), x = .ref a ∧ H1 a = some (.ins C dx fs) ∧ Cls X.K C ∧ Meth X.K C m f ∧ fs.lookup m = none ∧
  FnOk X.prog X.w X.K X.mg X.base (L2.CX X.prog X.w) k f fd ps sp ∧ L2.Binds X.K fd ps [] ∧ t σ H1 fun vs H2 => sp (x :: vs) H2 Q (E σ)
theorem meth_eval {o : Expr} (h : isCall o = false) (m : Str) (apos pos : Pos) (es : List Expr) (env : PySem.Env) (hf : methodCallForm es.length (backTo pos (starEach es env)) [] = true) (hl : (apos.endLine == pos.line) = true) :
    eval (.Call (.Attribute o m apos) es [] pos) env = (do
      let ov ← eval o env
      standAt apos.atName
      let (f, first) ← holding [ov] (getMethod ov m (do return (← importBound o env).getD true))
      callWith pos f first (backTo pos (starEach es env)) (backToKw pos (keywordEach [] env))) := by
  have e1 : eval (.Call (.Attribute o m apos) es [] pos) env = (do
      let ov ← attributeBase o m env (eval o env)
      standAt apos.atName
      methodCall o m apos pos env ov es.length (backTo pos (starEach es env)) []) := by rfl
  rw [e1, attrBase h]
  unfold methodCall calleeOf methodCallPos
  simp only [hf, hl, Bool.not_true, Bool.false_or, if_true]
  rfl
theorem few_of {ts : List TE} {as : List Expr} (h : PEs X as ts) (hn : as.length < 30) : methodCallForm as.length (backTo pos (starEach as X.env)) [] = true := by
  have h1 := h.plain pos
  unfold methodCallForm
  have h2 : (backTo pos (starEach as X.env)).all (fun x => !x.1) = true := by
    rw [List.all_eq_not_any_not]
    simp only [Bool.not_not]
    rw [h1]; rfl
  rw [h2]
  simpa using hn
theorem pe_methS {E : L2.St → XK} {o : Expr} {m : Str} {as : List Expr} {ap : Pos} {ta : TE} {ts : List TE} (ho : isCall o = false) (he : PE X o ta) (hr : Room k X.A) (hx : ∀ σ, PassesAt (L2.CX X.prog X.w) X σ (E σ)) (ha : PEs X as ts) (hn : as.length < 30) (hl : (ap.endLine == pos.line) = true) :
    PE X (.Call (.Attribute o m ap) as [] pos) (tM X k m E ta (tAs ts)) := by
  have ht := meth_eval ho m ap pos as X.env (few_of ha hn) hl
  refine ⟨fun pins s σ H Q I h => ?_⟩
  refine methodCall_KW (thn (he.run pins s σ H _ I h) fun u s1 ⟨x, H1, I1, rx, a, C, dx, fs, f, fd, ps, sp, ex, ea, c, hm, l, F, hb, q⟩ => ?_) ht
  subst ex
  obtain rfl : u = Value.ref a := rx
  refine getmeth_ok I1 ea c hm l ?_
  cases as with
  | nil =>
    cases ha
    exact callWith_K0 (first := [.ref a]) I1.kIn hm.kp (run_fnS (us := [.ref a]) (vs := [.ref a]) F hr hb (hx σ) I1 (.cons rfl .nil) q)
  | cons e es' =>
    refine callWith_K (first := [.ref a]) (h₀ := X.base) I.ok.mod.kin hm.kp (thn (ha.pa.run pos pins s1 σ H1 _ I1 q) fun us s2 ⟨vs, H2, I2, r, q2⟩ => ⟨I2.kIn, ?_⟩) (ha.hd pos).1 (ha.hd pos).2
    exact run_fnS (us := .ref a :: us) (vs := .ref a :: vs) F hr hb (hx σ) I2 (.cons rfl r) q2
/-- the args of a method fit its def -/
def methOk (p : Pr) (ow : List Nat) (m : Nat) (es : Es) : Prop := ∀ c f, p.pg.tb.meth c m = some f → ∀ df, p.pg.defs f = some df → argsOk ow df.io es = true ∧ esLen es = df.np
theorem obj_here {σ : L2.St} {H : Hp} {O : Addr → Prop} {a : Addr} {c m f : Nat} {fs : List (Nat × D)} (C : Cok p N tl sc k X W) (ok : FOk p ow F) (hmt : p.pg.tb.meth c m = some f) (b : Cont F.G H O a (.obj c fs)) :
    ∃ (dx : Addr) (vs : List (Str × V)) (df : Def), H a = some (.ins (p.G.ca c) dx vs) ∧ Cls X.K (p.G.ca c) ∧ Meth X.K (p.G.ca c) (p.mn m) (p.da f) ∧ vs.lookup (p.mn m) = none ∧ p.pg.defs f = some df := by
  obtain ⟨h1, h2, df, h3⟩ := C.facts.meth c m f hmt
  cases b with
  | obj e r =>
    rw [ok.G] at e r
    exact ⟨_, _, df, e, h1, h2, r.noLook (fun g => C.facts.nom g m), h3⟩
theorem s_meth (C : Cok p N tl sc k X W) {m : Nat} {eo : E} {o : Expr} {as : List Expr} {ap : Pos} (hc : isCall o = false) (ho : PE X o (tO p ow p.pg.tb (lev p.pg k) W eo)) (h : PEs X as (tOs p ow p.pg.tb (lev p.pg k) W es)) (hn : as.length < 30) (hlp : (ap.endLine == pos.line) = true)
    (hl : ∀ i, lateOf eo = some i → i ∈ ow) (hm : methOk p ow m (.cons eo es)) : PE X (.Call (.Attribute o (p.mn m) ap) as [] pos) (tE p ow p.pg.tb (lev p.pg k) W (.meth m eo es)) := by
  refine PEimp (pe_methS (E := WE W) hc ho C.room (fun σ => passAt C.tk σ) h hn hlp) fun σ H Q ⟨F, env, ok, I, w⟩ => ?_
  rw [evE] at w
  show tO p ow p.pg.tb (lev p.pg k) W eo σ H _
  unfold tO
  cases hlo : lateOf eo with
  | some i =>
    rw [hlo] at w
    have w1 : Wish F W σ H env (match env.get i with
      | some (.obj c _) => match p.pg.tb.meth c m with
        | some f => (evEs p.pg.tb (lev p.pg k) es env).bind fun ds env => match env.get i with
          | some (.obj c' fs) => if c' = c then callRes (.cons eo es) (.obj c' fs :: ds) env ((lev p.pg k).c 0 f (.obj c' fs :: ds)) else .err
          | _ => .err
        | none => .err
      | _ => .err) _ := w
    split at w1
    · rename_i c fs0 hg
      have hio : i ∈ F.ow := by rw [ok.ow]; exact hl i hlo
      obtain ⟨a, hs, ct, _⟩ := I.own i _ hg hio
      split at w1
      · rename_i f hmt
        obtain ⟨dx, vs0, df, g1, g2, g3, g4, g5⟩ := obj_here (σ := σ) C ok hmt ct
        obtain ⟨m1, m2⟩ := hm c f hmt df g5
        refine ⟨_, hs, a, p.G.ca c, dx, vs0, p.da f, p.dfd f, p.dps f, spD p df ((lev p.pg k).c 0 f), rfl, g1, g2, g3, g4, C.facts.fn k (Nat.le_refl _) f df g5, C.facts.bi f df g5, ?_⟩
        refine es_run ok es I w1.bind fun ds env' H' vs P r w => ?_
        split at w
        · rename_i c' fs hg'
          split at w
          · rename_i ec
            subst ec
            exact call_sp (nw := fun _ => false) ok.G ok.T ok.ow (fun j hj => nomatch hj) P.fi (.late hlo hg' hs r) (argsOk_of m1) m2 P.domL w
          · exact w.elim
        · exact w.elim
      · exact w1.elim
    · exact w1.elim
  | none =>
    rw [hlo] at w
    refine ⟨F, env, ok, I, w.bind.imp fun d env1 H1 P1 w1 v hv => ?_⟩
    split at w1
    · rename_i c fs
      have hv1 := hv.1
      cases hv1 with
      | obj e n rf =>
        rename_i a dx0 vsx
        split at w1
        · rename_i f hmt
          obtain ⟨dx, vs0, df, g1, g2, g3, g4, g5⟩ := obj_here (σ := σ) C ok hmt (Cont.obj e rf)
          obtain ⟨m1, m2⟩ := hm c f hmt df g5
          refine ⟨a, p.G.ca c, dx, vs0, p.da f, p.dfd f, p.dps f, spD p df ((lev p.pg k).c 0 f), rfl, g1, g2, g3, g4, C.facts.fn k (Nat.le_refl _) f df g5, C.facts.bi f df g5, ?_⟩
          refine es_run ok es P1.fi w1.bind fun ds env' H' vs P r w => ?_
          exact call_sp (nw := fun _ => false) ok.G ok.T ok.ow (fun j hj => nomatch hj) P.fi (.now hlo (hv.1.carry P.stp) r) (argsOk_of m1) m2 (fun b hb => P.domL b (P1.domL b hb)) w
        · exact w1.elim
    · exact w1.elim
end
end Bh
/-! text Bh5h -/
set_option Elab.async false
set_option linter.all false
set_option maxRecDepth 100000
set_option maxHeartbeats 1000000
/-! Bh5h: making, fields, methods of lists, a look into a display. -/
namespace Bh
open PySem PySem.W L2 PyProof.Rows
section
variable {p : Pr} {N : List Str} {ow : List Nat} {tl : Bool} {sc : Scope} {F : Fm} {k : Nat} {X : Cx} {W : WX} {cf : CF} {tb : Tb} {pos : Pos} {es : Es}
theorem run_makeS {pins : List (Addr × Obj)} {σ : L2.St} {H : Hp} {s : Shared} {Q : VK} {us : List Value} {vs : List V} {C f : Addr} {fd : FuncData} {ps : List Str} {sp : Sp} {CX : CXT} {E : XK} (M : Mk X.K C f) (F : FnOk X.prog X.w X.K X.mg X.base CX k f fd ps sp) (hr : Room (k + 1) X.A) (hb : L2.Binds X.K fd ps [])
    (hx : PassesAt CX X σ E) (I : Inv X pins σ H s) (r : Vals vs us)
    (h : ∀ x dx, H x = none → H dx = none → dx ≠ x → sp (.ref x :: vs) (upd (upd H dx (.own x)) x (.ins C dx [])) (fun v H2 => v = .non ∧ Q (.ref x) H2) E) :
    wpAny (model X.prog X.w) X.A (call (.ref C) us) (EP X pins σ Q) X.xe s := by
  have hq := h (s.heap.objs.size + 1) s.heap.objs.size (I.hok.fresh (Nat.le_succ _)) (I.hok.fresh (Nat.le_refl _)) (Nat.ne_of_lt (Nat.lt_succ_self _))
  have I2 := Inv.made (C := C) I
  have r2 : Vals (V.ref (s.heap.objs.size + 1) :: vs) (Value.ref (s.heap.objs.size + 1) :: us) := .cons rfl r
  have hl : (Value.ref (s.heap.objs.size + 1) :: us ++ []).length = ps.length := by
    have e := r2.length
    rw [F.len _ _ _ _ hq] at e
    rw [List.append_nil]
    exact e.symm
  have hb2 := hb _ (Value.ref (s.heap.objs.size + 1) :: us) I2.kIn hl
  rw [List.append_nil] at hb2
  refine wpAny_call (make_map (f := f) I.kIn M.makes M.init (beq_iff_eq.mp M.fn) (codeAny_mono (F.run _ X.stack _ _ ⟨Value.ref (s.heap.objs.size + 1) :: us, []⟩ (Value.ref (s.heap.objs.size + 1) :: us) _ _ E (hr.make C us [])
    (I2.env0.make C us []) hb2 r2 hq) fun r s' hq' => ?_))
  cases r with
  | error e => exact hx pins _ _ e s' I2 hq'
  | ok fl =>
    cases fl with
    | ret u =>
      obtain ⟨v, H', I3, rv, ev, q3⟩ := I2.after hq'
      subst ev
      exact ⟨rv, ⟨V.ref (s.heap.objs.size + 1), H', I3, rfl, q3⟩⟩
    | next => exact False.elim hq'
    | brk => exact False.elim hq'
    | cont => exact False.elim hq'
def tMakeS (C : Addr) (sp : Sp) (E : L2.St → XK) (t : TA) : TE := fun σ H Q => t σ H fun vs H1 => ∀ x dx, H1 x = none → H1 dx = none → dx ≠ x →
  sp (.ref x :: vs) (upd (upd H1 dx (.own x)) x (.ins C dx [])) (fun v H2 => v = .non ∧ Q (.ref x) H2) (E σ)
theorem pe_makeS {C f : Addr} {fd : FuncData} {ps : List Str} {sp : Sp} {CX : CXT} {E : L2.St → XK} {x : Str} {q : Pos} {as : List Expr} {ts : List TE} (M : Mk X.K C f) (F : FnOk X.prog X.w X.K X.mg X.base CX k f fd ps sp) (hr : Room (k + 1) X.A) (hg : Gl X x) (hm : X.mg x = some (.ref C)) (hb : L2.Binds X.K fd ps [])
    (hx : ∀ σ, PassesAt CX X σ (E σ)) (ha : PEs X as ts) (hdb : (x == ("__debug__" : Str)) = false) : PE X (.Call (.Name x q) as [] pos) (tMakeS C sp E (tAs ts)) := by
  refine ⟨fun pins s σ H Q I h => ?_⟩
  refine wpAny_Call_Name_kw (ld_glob I hg hm ?_ hdb)
  cases as with
  | nil =>
    cases ha
    exact callWith_K0 I.kIn M.kp (run_makeS (us := []) M F hr hb (hx σ) I .nil h)
  | cons e es' =>
    refine callWith_K (h₀ := X.base) I.ok.mod.kin M.kp (thn (ha.pa.run pos pins s σ H _ I h) fun us s1 ⟨vs, H1, I1, r, q⟩ => ⟨I1.kIn, ?_⟩) (ha.hd pos).1 (ha.hd pos).2
    exact run_makeS M F hr hb (hx σ) I1 r q
theorem noLate_none : ∀ {es : Es}, noLate es = true → ioSlots es = [] ∧ borSlots es = [] ∧ ∀ os env, putBack es os env = env
  | .nil, _ => ⟨rfl, rfl, fun os env => by simp [putBack]⟩
  | .cons e es, h => by
    simp only [noLate, Bool.and_eq_true, Option.isNone_iff_eq_none] at h
    obtain ⟨h1, h2, h3⟩ := noLate_none h.2
    have i1 : ioOf e = none := by
      cases z : ioOf e with
      | none => rfl
      | some i => rw [lateOf_io z] at h; exact nomatch h.1
    have i2 : borOf e = none := by
      cases z : borOf e with
      | none => rfl
      | some i =>
        have := borOf_eq z
        subst this
        exact nomatch h.1
    exact ⟨by unfold ioSlots; rw [i1]; exact h1, by unfold borSlots; rw [i2]; exact h2, fun os env => by rw [putBack_cons i1]; exact h3 os env⟩
theorem make_sp (ok : FOk p ow F) {σ : L2.St} {H Hs : Hp} {env : Env} {df : Def} {vs : List V} {ds : List D} {x dx : Addr} {c : Nat} {g : List D → CR} {Q : VK}
    (I : FI F σ H env) (f : FRs F.G H (OO F σ env) vs ds) (hio : df.io = [0]) (hn : ds.length + 1 = df.np) (nx : H x = none) (nd : H dx = none) (ne : dx ≠ x) (dom : ∀ b, Av Hs b → Av H b)
    (hl : noLate es = true) (w : Wish F W σ H env (makeRes es ds env (g (.obj c [] :: ds))) fun d env' H' => ∀ v, VR F σ env' Hs H' (fun _ => true) v d → Q v H') :
    spD p df g (.ref x :: vs) (upd (upd H dx (.own x)) x (.ins (p.G.ca c) dx [])) (fun v H2 => v = .non ∧ Q (.ref x) H2) (WE W σ) := by
  obtain ⟨n1, n2, n3⟩ := noLate_none hl
  have e0 : Ext H (upd H dx (.own x)) := Ext.upd nd
  have I0 := I.ext e0
  have nx0 : upd H dx (.own x) x = none := by rw [upd_ne (Ne.symm ne)]; exact nx
  have Ig := I0.guard (o := .ins (p.G.ca c) dx []) nx0
  have e1 : Ext (upd H dx (.own x)) (upd (upd H dx (.own x)) x (.ins (p.G.ca c) dx [])) := Ext.upd nx0
  have st : Stp H (OO F σ env) (upd (upd H dx (.own x)) x (.ins (p.G.ca c) dx [])) (fun b => OO F σ env b ∨ b = x) := ⟨fun a o h _ _ => e1 a o (e0 a o h), fun a z => z.elim .inl fun y => .inr (by rw [y]; exact Av.none nx), fun a n => e1.dom a (e0.dom a n)⟩
  have fg := f.carry st
  have back : ∀ (H' : Hp) (outs : List D), DP p.T df.io (.ref x :: vs) p.G (upd (upd H dx (.own x)) x (.ins (p.G.ca c) dx [])) (fun b => OO F σ env b ∨ b = x) H' (fun b => OO F σ env b ∨ b = x) outs →
      FI (F.guard x) σ H' env ∧ Post F σ H env H' env := fun H' outs P => by
    have k1 : ∀ a o, (upd (upd H dx (.own x)) x (.ins (p.G.ca c) dx [])) a = some o → (∀ q ∈ ([] : List (Nat × D)), σ[q.1]? ≠ some (some (.ref a))) → Nt o → ¬ a = x → H' a = some o := fun a o h _ t z => by
      refine P.keep a o h (fun i hi q => ?_) t
      rw [hio] at hi
      have hi0 : i = 0 := by simpa using hi
      subst hi0
      simp only [List.getElem?_cons_zero, ne_eq, Option.some.injEq, V.ref.injEq] at q
      exact z q.symm
    have k2 : ∀ a, a = x → ¬ Av (F.guard x).H0 a ∧ (F.guard x).Ox a ∧ ¬ ownA (F.guard x).ow σ env a := fun a z => by
      subst z
      refine ⟨?_, .inr rfl, fun ⟨i, hi, ⟨d, hd⟩, hs⟩ => ?_⟩
      · exact fun z => Av.none nx (I.sub a z)
      · obtain ⟨b, b1, ct, _⟩ := I.own i d hd hi
        rw [hs] at b1
        cases b1
        exact Av.none nx ct.av
    have k3 : LamX.Tabs (F.guard x).T H' := by
      show LamX.Tabs F.T H'
      rw [ok.T]; exact P.tabs
    obtain ⟨I1, st1, own⟩ := Ig.chgs (L := []) (env1 := env) (H1 := H') (Z := fun b => b = x) (Ox' := (F.guard x).Ox) (fun _ h => nomatch h) rfl (fun _ _ => rfl) (fun _ h => nomatch h) k1 k2 P.sub k3 (fun _ z => z) (fun _ z => .inl z) (fun a z => P.sub a (Ig.live a z)) (fun _ h => nomatch h)
    have IF : FI F σ H' env := FI.unguard I1 ok.oe
    refine ⟨I1, IF, ⟨fun a o h t n => ?_, fun a z => .inl z, fun a n => P.sub a (e1.dom a (e0.dom a n))⟩, fun _ z => z, fun a o h n t => k1 a o (e1 a o (e0 a o h)) (fun _ h => nomatch h) t fun z => by rw [z, nx] at h; cases h⟩
    exact st1.keep a o (e1 a o (e0 a o h)) t fun z => by
      rcases (guard_oo a).mp z with z | z
      · exact n z
      · rw [z, nx] at h; cases h
  refine ⟨fun b => OO F σ env b ∨ b = x, .obj c [] :: ds, ⟨?_, ?_, ?_, ?_, ?_, ?_, ?_⟩, ?_⟩
  · rw [List.length_cons, f.length]; exact hn
  · rw [List.length_cons]; exact hn
  · rintro b (z | z)
    · exact e1.dom b (e0.dom b (I.alive b z))
    · rw [z]; exact ⟨_, upd_same, fun _ y => nomatch y⟩
  · have := Ig.tabs
    rw [← ok.T]; exact this
  · intro i d h hi
    rw [hio] at hi
    cases i with
    | zero => simp at hi
    | succ i =>
      obtain ⟨v, h1, h2⟩ := fg.get (i := i) (by simpa using h)
      exact ⟨v, by simpa using h1, by rw [ok.G] at h2; exact h2⟩
  · intro i d h hi
    rw [hio] at hi
    have hi0 : i = 0 := by simpa using hi
    subst hi0
    simp only [List.getElem?_cons_zero, Option.some.injEq] at h
    subst h
    exact ⟨x, rfl, .inr rfl, .obj upd_same .nil⟩
  · intro i j b hi hj _ _
    rw [hio] at hi hj
    have h1 : i = 0 := by simpa using hi
    have h2 : j = 0 := by simpa using hj
    rw [h1, h2]
  · cases hg : g (.obj c [] :: ds) with
    | err => rw [hg] at w; exact w.elim
    | exc cx outs =>
      rw [hg] at w
      intro d2 H' P
      cases outs with
      | nil => exact w.elim
      | cons o outs =>
        have w' : Wish F W σ H env (if outs.all (lentOut es ds) then (.exc cx (putBack es outs env) : R D) else .err) _ := w
        split at w'
        · rw [n3] at w'
          have := w' d2 H' (back H' _ P).2
          rw [ok.G] at this
          exact this
        · exact w'.elim
    | ok r outs =>
      rw [hg] at w
      intro v H' P fr _
      cases r with
      | non =>
        cases outs with
        | nil => exact w.elim
        | cons o outs =>
          have w' : Wish F W σ H env (if lentOk es ds o && outs.all (lentOut es ds) then (.ok o (putBack es outs env) : R D) else .err) _ := w
          split at w'
          · rw [n3] at w'
            cases fr
            obtain ⟨I1, P1⟩ := back H' _ P
            obtain ⟨q, q1, cq⟩ := P.out 0 0 o (by rw [hio]; rfl) rfl
            simp only [List.getElem?_cons_zero, Option.some.injEq, V.ref.injEq] at q1
            subst q1
            have nxo : ¬ OO F σ env x := I.free (Av.none nx)
            have hs0 : ¬ Av Hs x := fun z => Av.none nx (dom x z)
            rw [← ok.G] at cq
            refine ⟨rfl, w' H' P1 (.ref x) ⟨(cq.carry (.mono fun b z => .inl z) rfl).fr nxo, fun _ _ => ⟨x, rfl, hs0, nxo, cq.carry (.mono fun b z => (guard_oo b).mp z) rfl, I1⟩⟩⟩
          · exact w'.elim
      | _ => exact w.elim
/-- the defs of the classes' __init__ -/
theorem s_make (C : Cok p N tl sc k X W) {c f : Nat} {df : Def} {as : List Expr} {q : Pos} (hi : p.pg.tb.init c = some f) (hdf : p.pg.defs f = some df) (hg : gloB sc (p.cn c) = true) (hpn : plainName (p.cn c) = true)
    (h : PEs X as (tOs p ow p.pg.tb (lev p.pg k) W es)) (hl : noLate es = true) (hio : df.io = [0]) (hn : esLen es + 1 = df.np) : PE X (.Call (.Name (p.cn c) q) as [] pos) (tE p ow p.pg.tb (lev p.pg k) W (.make c es)) := by
  obtain ⟨g1, g2, df', g3⟩ := C.facts.init c f hi
  simp only [plainName, Bool.and_eq_true, Bool.not_eq_true'] at hpn
  cases k with
  | zero =>
    have hz : ∀ σ H Q, tE p ow p.pg.tb (lev p.pg 0) W (.make c es) σ H Q → tAs (tOs p ow p.pg.tb (lev p.pg 0) W es) σ H (fun _ _ => False) := fun σ H Q ⟨F, env, ok, IF, w⟩ => by
      rw [evE] at w
      refine es_run ok es IF w.bind fun ds env' H' vs P r w => ?_
      rw [hi] at w
      exact w
    refine PEimp (t := fun σ H Q => tAs (tOs p ow p.pg.tb (lev p.pg 0) W es) σ H (fun _ _ => False)) ⟨fun pins s σ H Q I hh => ?_⟩ hz
    refine wpAny_Call_Name_kw (ld_glob I (C.gl hg) g1 ?_ hpn.1.1)
    cases as with
    | nil =>
      generalize hts : tOs p ow p.pg.tb (lev p.pg 0) W es = ts at h hh
      cases h
      exact hh.elim
    | cons e es' => exact callWith_K (h₀ := X.base) I.ok.mod.kin g2.kp (thn (h.pa.run pos pins s σ H _ I hh) fun us s1 ⟨vs, H1, I1, r, q⟩ => q.elim) (h.hd pos).1 (h.hd pos).2
  | succ k =>
    refine PEimp (pe_makeS (k := k) g2 (C.facts.fn k (Nat.le_succ k) f df hdf) C.room (C.gl hg) g1 (C.facts.bi f df hdf) (fun σ => passAt C.tk σ) h hpn.1.1) fun σ H Q ⟨F, env, ok, I, w⟩ => ?_
    rw [evE] at w
    refine es_run ok es I w.bind fun ds env' H' vs P r w => ?_
    rw [hi] at w
    intro x dx nx nd ne
    exact make_sp ok P.fi (r.frs hl) hio (by rw [r.len.2]; exact hn) nx nd ne P.domL hl w
theorem s_fld (C : Cok p N tl sc k X W) {f : Nat} {a : Expr} {e : E} (hc : isCall a = false) (ha : PE X a (tO p ow p.pg.tb cf W e)) (hl : lateIn ow (.cons e .nil) = true) : PE X (.Attribute a (p.G.fnm f) pos) (tE p ow p.pg.tb cf W (.fld (.cons e .nil) f)) := by
  refine PEimp (pe_fld ha (attrBase hc _ _)) fun σ H Q ⟨F, env, ok, I, w⟩ => ?_
  rw [evE] at w
  have h := es_run ok (.cons e .nil) (Q := fun vs H' => match vs with
    | [x] => ∃ a C dx fs v, x = .ref a ∧ H' a = some (.ins C dx fs) ∧ Cls X.K C ∧ NoAttr X.K C (p.G.fnm f) ∧ fs.lookup (p.G.fnm f) = some v ∧ Q v H'
    | _ => True) I w.bind fun ds env' H' vs P r w => by
    have b := OR.brs P.fi (by rw [ok.ow]; exact hl) r
    cases b with
    | nil => trivial
    | cons b1 b2 =>
      cases b2 with
      | cons _ _ => trivial
      | nil =>
        split at w
        · rename_i c fs hd
          cases hd
          split at w
          · rename_i hf
            obtain ⟨d, hd, w⟩ := w.of
            obtain ⟨a, dx, vs, rfl, e1, r1⟩ := b1.obj
            obtain ⟨h1, h2⟩ := C.facts.fld c f hf
            rw [ok.G] at e1 r1
            obtain ⟨v, hv, fv⟩ := r1.look (fun g' e => C.facts.inj f g' e) hd
            exact ⟨a, _, dx, vs, v, rfl, e1, h1, h2, hv, w H' (.refl P.fi) v (VR.old (by rw [ok.G]; exact fv))⟩
          · exact w.elim
        · exact w.elim
  exact h
end
end Bh
/-! text Bh5h2 -/
set_option Elab.async false
set_option linter.all false
set_option maxRecDepth 100000
set_option maxHeartbeats 1000000
/-! Bh5h2: enumerate over a tuple. -/
namespace Bh
open PySem PySem.W L2 PyProof.Rows
open AutoSeq1 (wpAny_loadPart')
/-- a new iterator of the tuple at t -/
abbrev tupIt (t : Addr) : Obj := { cls := .type "tuple_iterator", data := .fields #[.ref t, .int 0 0] }
/-- a new enumerate object over the iterator at i -/
abbrev enO (i : Addr) : Obj := { cls := .type "enumerate", data := .fields #[.none, .bool false, .ref i, rawInt 0, .none, .none] }
theorem enum_newT (t : Addr) (o : Obj) (its : Array Value) (n : Nat) (hc : o.cls = .type "tuple") (hd : o.data = .seq its n) :
    Meets (Builtin.«enumerate.__new__» ⟨[.type "enumerate", .ref t], []⟩) fun _ R s => s.heap.get? t = some o ∧ R (.ok (.ret (.ref (s.heap.push (tupIt t)).objs.size))) { s with heap := (s.heap.push (tupIt t)).push (enO s.heap.objs.size) } :=
  .of_wp fun prog w A R s hh => by
    obtain ⟨hp, gg, dd, kk, oo⟩ := s
    obtain ⟨ho, hR⟩ := hh
    have hs := sub_enumerate
    have hT : Heap.IsTuple (Shared.heap ⟨hp, gg, dd, kk, oo⟩) t its := ⟨o, ho, hc, n, hd⟩
    wp_walk using wpAny_loadPart' ho
    refine wpAny_stack_any fun st => wpAny_pure ?_
    split
    · rename_i q _ _ _ _ _
      cases (q == Value.type "enumerate")
      all_goals
        wp_walk using wpAny_loadPart' ho, wpAny_pyIter_tuple hT
        exact ⟨_, rfl, hR⟩
    · wp_walk using wpAny_loadPart' ho, wpAny_pyIter_tuple hT
      exact ⟨_, rfl, hR⟩
section
variable {prog : Program} {w : World} {A : Around} {E : Value → Shared → Prop} {s : Shared}
theorem call_enumT {t : Addr} {its : Array Value} {Q : Value → Shared → Prop} (hT : s.heap.IsTuple t its)
    (k : ∀ h', IsEnum h' (s.heap.objs.size + 1) s.heap.objs.size 0 .none → h'.IsTupleIter s.heap.objs.size t 0 → (∀ b o, s.heap.get? b = some o → h'.get? b = some o) → Q (.ref (s.heap.objs.size + 1)) { s with heap := h' }) :
    wpAny (model prog w) A (call (.type "enumerate") [.ref t]) Q E s := by
  obtain ⟨o, ho, hc, n, hd⟩ := hT
  have hz : (s.heap.push (tupIt t)).objs.size = s.heap.objs.size + 1 := Heap.size_push ..
  refine callType_new F.called_enumerate (by decide) (F.typeCall_enumerate_1 _) (F.newCall_enumerate_1 _) (fun obj => F.args_object_init_2 obj _) F.entry_enumerate_new (enum_newT t o its n hc hd) ⟨ho, ?_⟩
  show _ ∧ _
  rw [hz]
  have he : IsEnum ((s.heap.push (tupIt t)).push (enO s.heap.objs.size)) (s.heap.objs.size + 1) s.heap.objs.size 0 .none := by
    have := Heap.get?_push_size (s.heap.push (tupIt t)) (o := enO s.heap.objs.size) rfl
    rwa [hz] at this
  exact ⟨⟨_, he, rfl⟩, k _ he ⟨_, Heap.get?_push_of_some _ (Heap.get?_push_size _ rfl), rfl, rfl⟩ fun b o x => Heap.get?_push_of_some _ (Heap.get?_push_of_some _ x)⟩
end
/-- the list or tuple at a, each item in a new pair whose object is told -/
def ItN (Sq : Addr → Hp → List V → Prop) (a : Addr) : L2.It :=
  ⟨fun i H => ∃ xs x, Sq a H xs ∧ xs[i]? = some x, fun i H v H' => ∃ T o x, v = .ref T ∧ H T = none ∧ o.dict = none ∧ H' = upd H T (fz o [.int (i : Nat), x]) ∧ ∀ xs, Sq a H xs → xs[i]? = some x, fun i H => ∃ xs, Sq a H xs ∧ xs.length ≤ i⟩
abbrev ItT (K : Frag) (a : Addr) : L2.It := ItN (fun a H xs => SqT K H a xs) a
abbrev ItL (K : Frag) (a : Addr) : L2.It := ItN (fun a H xs => SqL K H a xs) a
/-- a pair's object -/
abbrev pairO (i tk : Nat) (y : Value) : Obj := { cls := .type "tuple", data := .seq #[.int i tk, y] }
/-- an iterator at its end -/
theorem draws_end {prog : Program} {w : World} {A : Around} {it a : Addr} {its : Array Value} {i : Nat} (hh : A.handled = none) (hx : its[i]? = none) : Draws prog w A it [it, a] i (fun _ _ => True) fun j h => j = i ∧ h.IsTupleIter it a i ∧ h.IsTuple a its where
  live := fun _ _ st => let ⟨o, ho, _⟩ := st.2.1; ⟨o, ho⟩
  frame := fun _ _ _ st hk => ⟨st.1, st.2.1.at fun o e => hk it (by simp) o e, st.2.2.at fun o e => hk a (by simp) o e⟩
  item := fun j s Q E hj st _ => by have := st.1; omega
  done := fun s Q E st hE => wpAny_nextOf_tuple_end hh st.2.1 st.2.2 hx hE
theorem turn_enT {P : Program} {w : World} {K : PySem.W.Frag} {elts : List Expr} {kk : Nat} {tpos : Pos} (a e it : Addr) :
    Turn P w K (.Tuple elts kk tpos) (ItT K a) [e, it] e fun i h => (∃ old, IsEnum h e it (i : Nat) old) ∧ h.IsTupleIter it a i ∧ e ≠ it where
  mem := List.mem_cons_self
  obj := fun i h st b hb => by
    obtain ⟨⟨old, he⟩, ⟨o, ho, hc, hd⟩, _⟩ := st
    rcases List.mem_cons.mp hb with z | hb
    · rw [z]; exact ⟨_, he, fun v q => nomatch q⟩
    · rw [List.mem_singleton.mp hb]; exact ⟨o, ho, fun v q => by rw [hd] at q; cases q⟩
  keep := fun i h h' st k => let ⟨⟨old, he⟩, hi, hne⟩ := st; ⟨⟨old, k e (by simp) _ he⟩, hi.at fun o q => k it (by simp) o q, hne⟩
  item := by
    intro X hP hw hK hc i pins s σ H E I hf st hg
    subst hP hw hK
    obtain ⟨⟨old, he⟩, hit, hne⟩ := st
    obtain ⟨xs, x, hq, hx⟩ := hg
    obtain ⟨its, rv, p, hz⟩ := I.tuple hq
    obtain ⟨u, hu, ru⟩ := rv.get hx
    have hlt : i < its.toArray.size := by simpa using (List.getElem?_eq_some_iff.mp hu).1
    have hel : e < s.heap.objs.size := Heap.lt_size he
    have hil : it < s.heap.objs.size := by obtain ⟨_, q, _⟩ := hit; exact Heap.lt_size q
    have hT : s.heap.IsTuple a its.toArray := p
    have hal : a ≠ it := fun z => by
      obtain ⟨o1, q1, q2, _⟩ := hit
      obtain ⟨o2, q3, q4, _⟩ := hT
      rw [z, q1] at q3
      cases q3
      rw [q2] at q4
      exact absurd q4 (by decide)
    have hae : e ≠ a := fun z => by
      obtain ⟨o2, q3, q4, _⟩ := hT
      rw [← z, he] at q3
      cases q3
      exact absurd (show Value.type "enumerate" = Value.type "tuple" from q4) (by decide)
    refine wpAny_pyNext_enum_itemD (Draws.tuple (prog := X.prog) (w := X.w) (A := X.A.in1) (I.ok.hd hc) it a hal its.toArray) he ⟨hit, hT⟩ hlt hne (by simp [hne, hae]) fun y h' tk hy ho hst hn hsz hk => ?_
    have ey : y = u := by
      have h1 : its[i]? = some y := by simpa using hy
      rw [hu] at h1
      cases h1; rfl
    subst ey
    refine ⟨_, rfl, wpAny_letOwnedTupleGo_enum (s := { s with heap := h', toks := tk + 1 }) ho fun h'' he' sb => ?_⟩
    have hT2 := (sb.2 _ (Nat.ne_of_gt hel)).trans hn
    have new : ObjOk X.prog X.w (upd H s.heap.objs.size (fz (pairO i tk y) [.int (i : Nat), x])) h'' s.heap.objs.size (fz (pairO i tk y) [.int (i : Nat), x]) :=
      ⟨hT2, show 2 ≤ sizeLine by decide, [.int i tk, y], .cons ⟨_, rfl⟩ (.cons ru .nil), ⟨_, hT2, rfl, _, rfl⟩⟩
    have I1 : Inv X pins σ (upd H s.heap.objs.size (fz (pairO i tk y) [.int (i : Nat), x])) { s with heap := h'', toks := tk + 1 } :=
      I.turnedNew (ch := [e, it]) (fun b ob hb q => (sb.2 b fun z => hb (by simp [z])).trans (hk b ob (fun z => hb (by simp [z])) (fun z => hb (by simp [z])) q)) hf (Nat.le_refl _) new
    refine ⟨.ref s.heap.objs.size, _, I1, rfl, ⟨_, _, x, rfl, I.hok.fresh (Nat.le_refl _), rfl, rfl, fun ys hy => by rw [I.tuple_inj hy hq]; exact hx⟩, ⟨⟨y, ?_⟩, hst.1.at fun o q => (sb.2 it (Ne.symm hne)).trans q, hne⟩, fun b hb => ?_⟩
    · rw [show ((i + 1 : Nat) : Int) = (i : Int) + 1 by omega]
      exact he'
    · have hb' : b < s.heap.objs.size := by
        rcases List.mem_cons.mp hb with z | hb
        · rw [z]; exact hel
        · rw [List.mem_singleton.mp hb]; exact hil
      rw [upd_ne (Nat.ne_of_lt hb')]
      exact (hf b hb).1
  done := by
    intro X hP hw hK hc i pins s σ H E I hf st hg
    subst hP hw hK
    obtain ⟨⟨old, he⟩, hit, hne⟩ := st
    obtain ⟨xs, hq, hx⟩ := hg
    obtain ⟨its, rv, p, hz⟩ := I.tuple hq
    obtain ⟨f0, f1, f2, f3, f4, f5⟩ := hf it (by simp)
    have hT : s.heap.IsTuple a its.toArray := p
    have hnone : its.toArray[i]? = none := by
      have := rv.length
      simp
      omega
    exact wpAny_pyNext_enum_endD (draws_end (prog := X.prog) (w := X.w) (A := X.A.in1) (I.ok.hd hc) hnone) he ⟨rfl, hit, hT⟩ fun h' eb => ⟨rfl, I.turned (t' := s.toks) (fun b o hb q => eb b o hb q) f0 f1 f3 f4 f5⟩
  self := fun A i s Q E st h => let ⟨⟨_, he⟩, _⟩ := st; wpAny_pyIter_enum he h
theorem turn_enL {P : Program} {w : World} {K : PySem.W.Frag} {elts : List Expr} {kk : Nat} {tpos : Pos} (a e it : Addr) :
    Turn P w K (.Tuple elts kk tpos) (ItL K a) [e, it] e fun i h => (∃ old, IsEnum h e it (i : Nat) old) ∧ h.IsListIter it a i ∧ e ≠ it where
  mem := List.mem_cons_self
  obj := fun i h st b hb => by
    obtain ⟨⟨old, he⟩, ⟨o, ho, hc, hd⟩, _⟩ := st
    rcases List.mem_cons.mp hb with z | hb
    · rw [z]; exact ⟨_, he, fun v q => nomatch q⟩
    · rw [List.mem_singleton.mp hb]; exact ⟨o, ho, fun v q => by rw [hd] at q; cases q⟩
  keep := fun i h h' st k => let ⟨⟨old, he⟩, hi, hne⟩ := st; ⟨⟨old, k e List.mem_cons_self _ he⟩, hi.at fun o q => k it (by simp) o q, hne⟩
  item := by
    intro X hP hw hK hc i pins s σ H E I hf st hg
    subst hP hw hK
    obtain ⟨⟨old, he⟩, hit, hne⟩ := st
    obtain ⟨xs, x, hq, hx⟩ := hg
    obtain ⟨its, rv, p, hz⟩ := I.list hq
    obtain ⟨y, hu, ru⟩ := rv.get hx
    have hel : e < s.heap.objs.size := Heap.lt_size he
    have hil : it < s.heap.objs.size := by obtain ⟨_, q, _⟩ := hit; exact Heap.lt_size q
    refine wpAny_pyNext_enum_item he hit p.isList (x := y) (by simpa using hu) hne fun h' ho hit2 hn hsz hk => ?_
    refine ⟨_, rfl, wpAny_letOwnedTupleGo_enum (s := { s with heap := h', toks := s.toks + 1 }) ho fun h'' he' sb => ?_⟩
    have hT2 := (sb.2 _ (Nat.ne_of_gt hel)).trans hn
    have new : ObjOk X.prog X.w (upd H s.heap.objs.size (fz (pairO i s.toks y) [.int (i : Nat), x])) h'' s.heap.objs.size (fz (pairO i s.toks y) [.int (i : Nat), x]) :=
      ⟨hT2, show 2 ≤ sizeLine by decide, [.int i s.toks, y], .cons ⟨_, rfl⟩ (.cons ru .nil), ⟨_, hT2, rfl, _, rfl⟩⟩
    have I1 : Inv X pins σ (upd H s.heap.objs.size (fz (pairO i s.toks y) [.int (i : Nat), x])) { s with heap := h'', toks := s.toks + 1 } :=
      I.turnedNew (ch := [e, it]) (fun b ob hb q => (sb.2 b fun z => hb (by simp [z])).trans (hk b ob (fun z => hb (by simp [z])) (fun z => hb (by simp [z])) q)) hf (Nat.le_refl _) new
    refine ⟨.ref s.heap.objs.size, _, I1, rfl, ⟨_, _, x, rfl, I.hok.fresh (Nat.le_refl _), rfl, rfl, fun ys hy => by rw [I.list_inj hy hq]; exact hx⟩, ⟨⟨y, ?_⟩, hit2.at fun o q => (sb.2 it (Ne.symm hne)).trans q, hne⟩, fun b hb => ?_⟩
    · rw [show ((i + 1 : Nat) : Int) = (i : Int) + 1 by omega]
      exact he'
    · have hb' : b < s.heap.objs.size := by
        rcases List.mem_cons.mp hb with z | hb
        · rw [z]; exact hel
        · rw [List.mem_singleton.mp hb]; exact hil
      rw [upd_ne (Nat.ne_of_lt hb')]
      exact (hf b hb).1
  done := by
    intro X hP hw hK hc i pins s σ H E I hf st hg
    subst hP hw hK
    obtain ⟨⟨old, he⟩, hit, hne⟩ := st
    obtain ⟨xs, hq, hx⟩ := hg
    obtain ⟨its, rv, p, hz⟩ := I.list hq
    obtain ⟨f0, f1, f2, f3, f4, f5⟩ := hf it (by simp)
    have hnl := rv.length
    exact wpAny_pyNext_enum_end (I.ok.hd hc) he hit p.isList (by simp; omega) fun h' eb => ⟨rfl, I.turned (t' := s.toks) (fun b o hb q => eb b o hb q) f0 f1 f3 f4 f5⟩
  self := fun A i s Q E st h => let ⟨⟨_, he⟩, _⟩ := st; wpAny_pyIter_enum he h
/-- enumerate over a list or a tuple -/
theorem pi_enumB {X : Cx} {e : Expr} {ta : TA} {p pos tpos : Pos} {elts : List Expr} {kk : Nat} (hg : Gl X "enumerate") (hm : X.mg "enumerate" = none) (ha : PA X [e] ta) (hs : starEach [e] X.env = [(false, eval e X.env)]) :
    PI X (.Tuple elts kk tpos) (.Call (.Name "enumerate" p) [e] [] pos) fun σ H R => ta σ H fun vs H1 => ∃ a, vs = [.ref a] ∧ ((∃ xs, SqL X.K H1 a xs ∧ R (ItL X.K a) H1) ∨ ∃ xs, SqT X.K H1 a xs ∧ R (ItT X.K a) H1) := by
  refine ⟨fun pins s σ H R I h => ?_⟩
  refine Call_ (ld_blt I hg hm boot_enumerate (PyProof.Rows.callWith_type1 (thn (ha.run pos pins s σ H _ I h) fun us s1 ⟨vs, H1, I1, r1, q1⟩ => ?_) hs rfl))
  obtain ⟨a, rfl, q⟩ := q1
  cases r1 with
  | cons r rr =>
    cases rr
    cases r
    have fresh : ∀ b ∈ [s1.heap.objs.size + 1, s1.heap.objs.size], s1.heap.objs.size ≤ b := fun b hb => by
      rcases List.mem_cons.mp hb with z | hb
      · rw [z]; exact Nat.le_add_right _ _
      · rw [List.mem_singleton.mp hb]; exact Nat.le_refl _
    rcases q with ⟨xs, hq, q⟩ | ⟨xs, hq, q⟩
    · obtain ⟨its, rv, p', hz⟩ := I1.list hq
      refine call_enumerate_list p'.isList fun h' he hit hsz hk => wpAny_pyIter_enum he ?_
      exact ⟨s1.heap.objs.size + 1, [s1.heap.objs.size + 1, s1.heap.objs.size], _, _, H1, rfl, I1.kept (t' := s1.toks) hk, turn_enL a (s1.heap.objs.size + 1) s1.heap.objs.size, ⟨⟨.none, he⟩, hit, Nat.succ_ne_self _⟩, fun b hb => I1.fpOk (fresh b hb) (I1.hok.fresh (fresh b hb)), q⟩
    · obtain ⟨its, rv, p', hz⟩ := I1.tuple hq
      have hT : s1.heap.IsTuple a its.toArray := p'
      refine call_enumT hT fun h' he hit hk => wpAny_pyIter_enum he ?_
      exact ⟨s1.heap.objs.size + 1, [s1.heap.objs.size + 1, s1.heap.objs.size], _, _, H1, rfl, I1.kept (t' := s1.toks) hk, turn_enT a (s1.heap.objs.size + 1) s1.heap.objs.size, ⟨⟨.none, he⟩, hit, Nat.succ_ne_self _⟩, fun b hb => I1.fpOk (fresh b hb) (I1.hok.fresh (fresh b hb)), q⟩
end Bh
/-! text Bh5i -/
set_option Elab.async false
set_option linter.all false
set_option maxRecDepth 100000
set_option maxHeartbeats 1000000
/-! Bh5i: targets, what is walked, methods of lists. -/
namespace Bh
open PySem PySem.W L2 PyProof.Rows
/-! ### targets -/
/-- off the slots is, the two are one -/
structure SameOff (is : List Nat) (σ σ' : L2.St) : Prop where
  len : σ'.length = σ.length
  off : ∀ j, j ∉ is → σ'[j]? = σ[j]?
theorem SameOff.refl {is : List Nat} {σ : L2.St} : SameOff is σ σ := ⟨rfl, fun _ _ => rfl⟩
theorem wipe_get {σ : L2.St} {j : Nat} : ∀ {is : List Nat}, (L2.wipe σ is)[j]? = if j ∈ is ∧ j < σ.length then some none else σ[j]?
  | [] => by simp [L2.wipe]
  | i :: is => by
    unfold L2.wipe
    by_cases h : j = i
    · subst h
      by_cases hl : j < σ.length
      · rw [List.getElem?_set_self (by rw [wipe_length]; exact hl), if_pos ⟨List.mem_cons_self, hl⟩]
      · rw [List.getElem?_eq_none (by rw [List.length_set, wipe_length]; omega), if_neg (fun z => hl z.2), List.getElem?_eq_none (by omega)]
    · rw [List.getElem?_set_ne (Ne.symm h), wipe_get]
      simp [h]
theorem SameOff.wipe {is : List Nat} {σ σ' : L2.St} (h : SameOff is (L2.wipe σ is) σ') : L2.wipe σ' is = L2.wipe σ is := by
  apply List.ext_getElem?
  intro j
  rw [wipe_get, wipe_get, h.len, wipe_length]
  by_cases hj : j ∈ is
  · by_cases hl : j < σ.length
    · rw [if_pos ⟨hj, hl⟩, if_pos ⟨hj, hl⟩]
    · rw [if_neg (fun z => hl z.2), if_neg (fun z => hl z.2), List.getElem?_eq_none (by rw [h.len, wipe_length]; omega), List.getElem?_eq_none (by omega)]
  · rw [if_neg (fun z => hj z.1), if_neg (fun z => hj z.1), h.off j hj, wipe_get, if_neg (fun z => hj z.1)]
/-- the values of names, one by one -/
def gNames : List Nat → TGs
  | [] => gNil
  | i :: is => gCons (gName i) (gNames is)
def tG (K : Frag) : T → TG
  | .one i => gName i
  | .many is => fun v σ H Q => gTup K is.length (gNames is) v σ H Q ∨ gUnl K is.length (gNames is) v σ H Q
/-- a pair of a slot and a target -/
def tgtIs (N : List Str) (sc : Scope) (i : Nat) : Expr → Bool
  | .Name x _ => decide (N[i]? = some x) && locB sc x
  | _ => false
def tgtsAre (N : List Str) (sc : Scope) : List Nat → List Expr → Bool
  | [], [] => true
  | i :: is, e :: es => tgtIs N sc i e && tgtsAre N sc is es
  | _, _ => false
def mT (N : List Str) (sc : Scope) : T → Expr → Bool
  | .one i, e => tgtIs N sc i e
  | .many is, .Tuple es _ _ => tgtsAre N sc is es
  | _, _ => false
section
variable {p : Pr} {N : List Str} {ow : List Nat} {tl : Bool} {sc : Scope} {F : Fm} {k : Nat} {X : Cx} {W : WX} {cf : CF} {tb : Tb} {pos : Pos} {es : Es}
/-- names can be set here -/
structure Sets (N : List Str) (sc : Scope) (X : Cx) : Prop where
  nm : X.N = N
  nd : X.N.Nodup
  calm : X.calm = true
  st : ∀ x, L2.Loc sc x → L2.Loc X.env.scope x ∧ (X.fn x = true ∨ X.env.scope.names.lookup x = some .local)
theorem pg_one (C : Sets N sc X) {i : Nat} {e : Expr} (h : tgtIs N sc i e = true) : PG X e (gName i) := by
  unfold tgtIs at h
  split at h
  · simp only [Bool.and_eq_true, decide_eq_true_eq] at h
    have hl := locB_loc h.2
    exact pg_name C.nd (by rw [C.nm]; exact h.1) (C.st _ hl).1 (C.st _ hl).2
  · cases h
theorem assignEach_cons {e : Expr} (h : isStar e = false) (es : List Expr) (env : PySem.Env) : assignEach (e :: es) env = (false, assign e env) :: assignEach es env := by
  cases e <;> first | rfl | (simp [isStar] at h)
theorem tgt_star {i : Nat} {e : Expr} (h : tgtIs N sc i e = true) : isStar e = false := by
  cases e <;> first | rfl | (simp [tgtIs] at h)
theorem pgs_names (C : Sets N sc X) : ∀ {is : List Nat} {es : List Expr}, tgtsAre N sc is es = true → PGs X es (gNames is) ∧ (assignEach es X.env).length = is.length ∧ (assignEach es X.env).findIdx? (·.1) = none
  | [], [], _ => ⟨pgs_nil, rfl, rfl⟩
  | i :: is, e :: es, h => by
    simp only [tgtsAre, Bool.and_eq_true] at h
    obtain ⟨h1, h2, h3⟩ := pgs_names C h.2
    have e1 := assignEach_cons (tgt_star h.1) es X.env
    refine ⟨pgs_cons (pg_one C h.1) h1 (by rw [e1]; rfl), by rw [e1, List.length_cons, h2, List.length_cons], ?_⟩
    rw [e1, List.findIdx?_cons]
    simp [h3]
  | [], _ :: _, h => by simp [tgtsAre] at h
  | _ :: _, [], h => by simp [tgtsAre] at h
theorem pg_T (C : Sets N sc X) {t : T} {e : Expr} (h : mT N sc t e = true) : PG X e (tG X.K t) := by
  unfold mT at h
  split at h
  · exact pg_one C h
  · obtain ⟨h1, h2, h3⟩ := pgs_names C h
    exact ⟨fun pins s σ H v u Q I r q => q.elim (fun q => (pg_tup C.calm h1 h2 h3).run pins s σ H v u Q I r q) fun q => (pg_unl C.calm h1 h2 h3).run pins s σ H v u Q I r q⟩
  · cases h
/-- data are put into a slot: the frame, the slots -/
theorem set_one {σ : L2.St} {H : Hp} {env : Env} {i : Nat} {v : V} {d : D} (I : FI F σ H env) (hi : i ∉ F.ow) (f : FR F.G H (OO F σ env) v d) :
    FI F (σ.set i (some v)) H (env.put i d) ∧ (∀ a, OO F (σ.set i (some v)) (env.put i d) a ↔ OO F σ env a) ∧ (∀ a, ownA F.ow (σ.set i (some v)) (env.put i d) a ↔ ownA F.ow σ env a) := by
  by_cases hl : i < env.length
  case neg =>
    have e1 : env.put i d = env := List.set_eq_of_length_le (by omega)
    have e2 : σ.set i (some v) = σ := List.set_eq_of_length_le (by rw [← I.len]; omega)
    rw [e1, e2]
    exact ⟨I, fun _ => Iff.rfl, fun _ => Iff.rfl⟩
  obtain ⟨h1, h2⟩ := I.put hi hl f
  refine ⟨h1, h2, fun a => ?_⟩
  have ne : ∀ j, j ∈ F.ow → j ≠ i := fun j hj z => hi (z ▸ hj)
  unfold ownA
  constructor
  · rintro ⟨j, hj, ⟨e, he⟩, h⟩
    rw [get_put hl, if_neg (ne j hj)] at he
    rw [List.getElem?_set_ne (Ne.symm (ne j hj))] at h
    exact ⟨j, hj, ⟨e, he⟩, h⟩
  · rintro ⟨j, hj, ⟨e, he⟩, h⟩
    refine ⟨j, hj, ⟨e, ?_⟩, ?_⟩
    · rw [get_put hl, if_neg (ne j hj)]; exact he
    · rw [List.getElem?_set_ne (Ne.symm (ne j hj))]; exact h
/-- a target's reading -/
theorem names_run : ∀ (is : List Nat) (ds : List D) (vs : List V) {σ : L2.St} {H : Hp} {env : Env} {Q : L2.St → Hp → Prop}, FI F σ H env → FRs F.G H (OO F σ env) vs ds → is.length = ds.length → (∀ i ∈ is, i ∉ F.ow) →
    (∀ σ', FI F σ' H ((is.zip ds).foldl (fun e p => e.put p.1 p.2) env) → SameOff is σ σ' → (∀ a, OO F σ' ((is.zip ds).foldl (fun e p => e.put p.1 p.2) env) a ↔ OO F σ env a) → (∀ a, ownA F.ow σ' ((is.zip ds).foldl (fun e p => e.put p.1 p.2) env) a ↔ ownA F.ow σ env a) → Q σ' H) →
    gNames is vs σ H Q
  | [], [], [], σ, H, env, Q, I, _, _, _, q => ⟨rfl, q σ I .refl (fun _ => Iff.rfl) fun _ => Iff.rfl⟩
  | i :: is, d :: ds, v :: vs, σ, H, env, Q, I, .cons f r, hl, ho, q => by
    obtain ⟨I1, o1, w1⟩ := set_one I (ho i List.mem_cons_self) f
    refine ⟨v, vs, rfl, ?_⟩
    show gNames is vs (σ.set i (some v)) H Q
    have st : Stp H (OO F σ env) H (OO F (σ.set i (some v)) (env.put i d)) := .mono fun a z => (o1 a).mp z
    refine names_run is ds vs I1 (r.carry st) (by simpa using hl) (fun j hj => ho j (List.mem_cons_of_mem _ hj)) fun σ' I' so oo wo => ?_
    refine q σ' I' ⟨so.len.trans (by rw [List.length_set]), fun j hj => ?_⟩ (fun a => (oo a).trans (o1 a)) fun a => (wo a).trans (w1 a)
    have h1 : j ≠ i := fun z => hj (z ▸ List.mem_cons_self)
    have h2 : j ∉ is := fun z => hj (List.mem_cons_of_mem _ z)
    rw [so.off j h2, List.getElem?_set_ne (Ne.symm h1)]
  | [], [], _ :: _, _, _, _, _, _, r, _, _, _ => nomatch r
  | [], _ :: _, _, _, _, _, _, _, _, hl, _, _ => by simp at hl
  | _ :: _, [], _, _, _, _, _, _, _, hl, _, _ => by simp at hl
theorem tG_run {t : T} {σ : L2.St} {H : Hp} {env env1 : Env} {v : V} {d : D} {Q : L2.St → Hp → Prop} (hK : F.G.K = X.K) (I : FI F σ H env) (f : FR F.G H (OO F σ env) v d) (hb : bindT t d env = some env1) (ho : ∀ i ∈ t.slots, i ∉ F.ow)
    (q : ∀ σ', FI F σ' H env1 → SameOff t.slots σ σ' → (∀ a, OO F σ' env1 a ↔ OO F σ env a) → (∀ a, ownA F.ow σ' env1 a ↔ ownA F.ow σ env a) → Q σ' H) : tG X.K t v σ H Q := by
  cases t with
  | one i =>
    cases hb
    obtain ⟨I1, o1, w1⟩ := set_one I (ho i List.mem_cons_self) f
    exact q _ I1 ⟨List.length_set, fun j hj => List.getElem?_set_ne fun z => hj (by rw [← z]; exact List.mem_cons_self)⟩ o1 w1
  | many is =>
    obtain ⟨xs, hx, hb⟩ := Option.bind_eq_some_iff.mp (show ((itemsD d).bind fun xs => if xs.length = is.length then some ((is.zip xs).foldl (fun e p => e.put p.1 p.2) env) else none) = some env1 from hb)
    split at hb
    · rename_i hlen
      cases hb
      obtain ⟨a, vs, rfl, r, s⟩ := (show BR F.G H (OO F σ env) v d from .inl f).items hK hx
      rcases s with ⟨s, _⟩ | ⟨s, _⟩
      · exact .inr ⟨a, vs, rfl, s, by rw [r.length]; exact hlen, names_run is _ vs I r hlen.symm ho q⟩
      · exact .inl ⟨a, vs, rfl, s, by rw [r.length]; exact hlen, names_run is _ vs I r hlen.symm ho q⟩
    · cases hb
/-! ### what is walked -/
/-- what is walked stands -/
def AnP (G : Gx) (pv : Option (V × D)) (H : Hp) (O : Addr → Prop) : Prop := match pv with
  | none => True
  | some q => FR G H O q.1 q.2
theorem AnP.carry {G : Gx} {pv : Option (V × D)} {H H' : Hp} {O O' : Addr → Prop} (h : AnP G pv H O) (s : Stp H O H' O') : AnP G pv H' O' := by
  cases pv with
  | none => trivial
  | some q => exact FR.carry s h
structure IsJ (G : Gx) (J : L2.It) (ds : List D) (pv : Option (V × D)) : Prop where
  go : ∀ {H O i d}, Live H O → AnP G pv H O → ds[i]? = some d → J.go i H ∧ ∀ x H', J.yld i H x H' → Ext H H' ∧ FR G H' O x d
  stop : ∀ {H O}, AnP G pv H O → J.stop ds.length H
def tI (p : Pr) (ow : List Nat) (tb : Tb) (cf : CF) (W : WX) (it : It) : TI := fun σ H R =>
  ∃ F env, FOk p ow F ∧ FI F σ H env ∧ Wish F W σ H env (evI tb cf it env) fun ds env' H' => ∀ J pv, IsJ F.G J ds pv → AnP F.G pv H' (OO F σ env') → R J H'
theorem isJ_list {G : Gx} {K : Frag} (hK : G.K = K) {a : Addr} {ds : List D} : IsJ G (Itl K a) ds (some (.ref a, .lst ds)) where
  go := fun {H O i d} _ h e => by
    have h : FR G H O (.ref a) (.lst ds) := h
    cases h with
    | lst e1 n r =>
      obtain ⟨v, h1, h2⟩ := r.get e
      refine ⟨⟨_, v, SqL.of e1, h1⟩, fun x H' ⟨y1, y2⟩ => ?_⟩
      subst y1
      have := y2 _ (SqL.of e1)
      rw [h1] at this
      cases this
      exact ⟨Same.refl _, h2⟩
  stop := fun {H O} h => by
    have h : FR G H O (.ref a) (.lst ds) := h
    cases h with
    | lst e1 n r => exact ⟨_, SqL.of e1, by rw [r.length]; exact Nat.le_refl _⟩
theorem isJ_tup {G : Gx} {K : Frag} (hK : G.K = K) {a : Addr} {ds : List D} : IsJ G (Itt K a) ds (some (.ref a, .tup ds)) where
  go := fun {H O i d} _ h e => by
    have b : BR G H O (.ref a) (.tup ds) := .inl h
    obtain ⟨q, vs, e1, s, r⟩ := b.tup
    cases e1
    obtain ⟨v, h1, h2⟩ := r.get e
    refine ⟨⟨_, v, hK ▸ s, h1⟩, fun x H' ⟨y1, y2⟩ => ?_⟩
    subst y1
    have := y2 _ (hK ▸ s)
    rw [h1] at this
    cases this
    exact ⟨Same.refl _, h2⟩
  stop := fun {H O} h => by
    have b : BR G H O (.ref a) (.tup ds) := .inl h
    obtain ⟨q, vs, e1, s, r⟩ := b.tup
    cases e1
    exact ⟨_, hK ▸ s, by rw [r.length]; exact Nat.le_refl _⟩
theorem isJ_rng {G : Gx} {lo : Int} {hi : Int} : IsJ G (Itr lo (hi - lo).toNat) (rangeD lo hi) none where
  go := fun {H O i d} _ _ e => by
    unfold rangeD at e
    obtain ⟨j, h1, h2⟩ := List.mem_of_getElem? e |> List.mem_map.mp
    have hlt : i < (hi - lo).toNat := by
      have := (List.getElem?_eq_some_iff.mp e).1
      simpa using this
    refine ⟨hlt, fun x H' y => ?_⟩
    rw [y.1, y.2]
    refine ⟨Same.refl _, ?_⟩
    rw [List.getElem?_map, List.getElem?_range hlt] at e
    cases e
    exact .int _
  stop := fun {H O} _ => by
    show (hi - lo).toNat ≤ (rangeD lo hi).length
    unfold rangeD
    simp
theorem enumD_get {ds : List D} {i : Nat} {d : D} (e : (enumD ds)[i]? = some d) : ∃ x, ds[i]? = some x ∧ d = .tup [.int (i : Nat), x] := by
  unfold enumD at e
  rw [List.getElem?_mapIdx] at e
  obtain ⟨x, h1, h2⟩ := Option.map_eq_some_iff.mp e
  exact ⟨x, h1, h2.symm⟩
theorem enum_fr {G : Gx} {H : Hp} {O : Addr → Prop} {T : Addr} {o : Obj} {i : Nat} {x : V} {d : D} (l : Live H O) (n : H T = none) (hd : o.dict = none) (f : FR G H O x d) : FR G (upd H T (fz o [.int (i : Nat), x])) O (.ref T) (.tup [.int (i : Nat), d]) :=
  fr_newtup l n hd (.cons (.int _) (.cons f .nil))
theorem isJ_enL {G : Gx} {K : Frag} (hK : G.K = K) {a : Addr} {ds : List D} : IsJ G (ItL K a) (enumD ds) (some (.ref a, .lst ds)) where
  go := fun {H O i d} lv h e => by
    have h : FR G H O (.ref a) (.lst ds) := h
    obtain ⟨y, hy, rfl⟩ := enumD_get e
    cases h with
    | lst e1 n r =>
      obtain ⟨v, h1, h2⟩ := r.get hy
      refine ⟨⟨_, v, SqL.of e1, h1⟩, fun x H' ⟨T, ob, z, y1, y2, hd, y3, y4⟩ => ?_⟩
      subst y1; subst y3
      have := y4 _ (SqL.of e1)
      rw [h1] at this
      cases this
      exact ⟨Ext.upd y2, enum_fr lv y2 hd h2⟩
  stop := fun {H O} h => by
    have h : FR G H O (.ref a) (.lst ds) := h
    cases h with
    | lst e1 n r => exact ⟨_, SqL.of e1, by rw [r.length]; simp [enumD]⟩
theorem isJ_enT {G : Gx} {K : Frag} (hK : G.K = K) {a : Addr} {ds : List D} : IsJ G (ItT K a) (enumD ds) (some (.ref a, .tup ds)) where
  go := fun {H O i d} lv h e => by
    have b : BR G H O (.ref a) (.tup ds) := .inl h
    obtain ⟨q, vs, e1, s, r⟩ := b.tup
    cases e1
    obtain ⟨y, hy, rfl⟩ := enumD_get e
    obtain ⟨v, h1, h2⟩ := r.get hy
    refine ⟨⟨_, v, hK ▸ s, h1⟩, fun x H' ⟨T, ob, z, y1, y2, hd, y3, y4⟩ => ?_⟩
    subst y1; subst y3
    have := y4 _ (hK ▸ s)
    rw [h1] at this
    cases this
    exact ⟨Ext.upd y2, enum_fr lv y2 hd h2⟩
  stop := fun {H O} h => by
    have b : BR G H O (.ref a) (.tup ds) := .inl h
    obtain ⟨q, vs, e1, s, r⟩ := b.tup
    cases e1
    exact ⟨_, hK ▸ s, by rw [r.length]; simp [enumD]⟩
theorem PIimp {tg e : Expr} {w w' : TI} (h : PI X tg e w) (q : ∀ σ H R, w' σ H R → w σ H R) : PI X tg e w' := ⟨fun pins s σ H R I z => h.run pins s σ H R I (q σ H R z)⟩
theorem pi_both {tg l : Expr} {tl' : TE} (hl : PE X l tl') : PI X tg l (fun σ H R => tl' σ H fun x H1 => (∃ a, x = .ref a ∧ (∃ xs, SqL X.K H1 a xs) ∧ R (Itl X.K a) H1) ∨ ∃ a, x = .ref a ∧ (∃ xs, SqT X.K H1 a xs) ∧ R (Itt X.K a) H1) := by
  refine ⟨fun pins s σ H R I h => ?_⟩
  refine thn (hl.run pins s σ H _ I h) fun v s1 ⟨x, H1, I1, r1, q1⟩ => ?_
  rcases q1 with ⟨a, e, ⟨xs, hq⟩, q⟩ | ⟨a, e, ⟨xs, hq⟩, q⟩
  · subst e
    cases r1
    obtain ⟨its, rv, p, hz⟩ := I1.list hq
    refine wpAny_pyIter_list p.isList ?_
    refine ⟨s1.heap.objs.size, [s1.heap.objs.size], _, _, H1, rfl, I1.kept (t' := s1.toks) fun b o e => Heap.get?_push_of_some _ e, turn_list a _, ⟨_, Heap.get?_push_size _ rfl, rfl, rfl⟩, fun b hb => ?_, q⟩
    have e : b = s1.heap.objs.size := by simpa using hb
    subst e
    exact I1.fpOk (Nat.le_refl _) (I1.hok.fresh (Nat.le_refl _))
  · subst e
    cases r1
    obtain ⟨its, rv, p, hz⟩ := I1.tuple hq
    refine wpAny_pyIter_tuple (show s1.heap.IsTuple a its.toArray from p) ?_
    refine ⟨s1.heap.objs.size, [s1.heap.objs.size], _, _, H1, rfl, I1.kept (t' := s1.toks) fun b o e => Heap.get?_push_of_some _ e, turn_tuple a _, ⟨_, Heap.get?_push_size _ rfl, rfl, rfl⟩, fun b hb => ?_, q⟩
    have e : b = s1.heap.objs.size := by simpa using hb
    subst e
    exact I1.fpOk (Nat.le_refl _) (I1.hok.fresh (Nat.le_refl _))
theorem i_seq (C : Cok p N tl sc k X W) {e : E} {l tg : Expr} (h : PE X l (tE p ow tb cf W e)) : PI X tg l (tI p ow tb cf W (.seq e)) := by
  refine PIimp (pi_both h) fun σ H R ⟨F, env, ok, I, w⟩ => ?_
  rw [evI] at w
  refine ⟨F, env, ok, I, w.bind.imp fun d env' H' P w v r => ?_⟩
  obtain ⟨ds, e, w⟩ := w.of
  have hK : F.G.K = X.K := by rw [ok.G]; exact C.facts.hK
  have f := r.1
  unfold itemsD at e
  split at e
  · cases e
    cases f with
    | lst e1 n r => exact .inl ⟨_, rfl, ⟨_, SqL.of e1⟩, w H' (.refl P.fi) _ _ (isJ_list hK) (.lst e1 n r)⟩
  · cases e
    obtain ⟨q, vs, e1, s, r⟩ := (show BR F.G H' (OO F σ env') v (.tup _) from .inl f).tup
    subst e1
    exact .inr ⟨q, rfl, ⟨_, hK ▸ s⟩, w H' (.refl P.fi) _ _ (isJ_tup hK) f⟩
  · cases e
theorem rngOk_of {a b : Int} (h : rngOk a b = true) : (-(2 ^ 62) ≤ a ∧ a < 2 ^ 62) ∧ -(2 ^ 62) ≤ b ∧ b < 2 ^ 62 := by
  simp only [rngOk, Bool.and_eq_true, decide_eq_true_eq] at h
  omega
theorem i_rng1 (C : Cok p N tl sc k X W) {e : E} {a tg : Expr} {q : Pos} (hg : gloB sc "range" = true) (h : PE X a (tE p ow tb cf W e)) (hs : isStar a = false) : PI X tg (.Call (.Name "range" q) [a] [] pos) (tI p ow tb cf W (.rng1 e)) := by
  refine PIimp (pi_range1 (C.gl hg) C.facts.rng (pa_cons h pa_nil (starEach_cons hs _ _)) (starEach_cons hs _ _)) fun σ H R ⟨F, env, ok, I, w⟩ => ?_
  rw [evI] at w
  refine ⟨F, env, ok, I, w.bind.imp fun d env' H' P w v r => ?_⟩
  have f := r.1
  split at w
  · split at w
    · rename_i hr
      cases f
      have hb := rngOk_of hr
      refine ⟨_, rfl, hb.2.1, hb.2.2, ?_⟩
      have := w H' (.refl P.fi) _ _ (isJ_rng (lo := 0)) trivial
      simpa using this
    · exact w.elim
  · exact w.elim
theorem i_rng2 (C : Cok p N tl sc k X W) {a b tg : Expr} {q : Pos} (hg : gloB sc "range" = true) (h : PEs X [a, b] (tOs p ow tb cf W es)) (hl : lateIn ow es = true) : PI X tg (.Call (.Name "range" q) [a, b] [] pos) (tI p ow tb cf W (.rng2 es)) := by
  have h1 := (h.hd pos).1
  have h2 : starEach [b] X.env = [(false, eval b X.env)] := by
    generalize tOs p ow tb cf W es = ts at h
    cases h with
    | cons _ _ r => cases r with
      | cons _ s _ => exact starEach_cons s _ _
  refine PIimp (pi_range2 (C.gl hg) C.facts.rng h.pa (by rw [h1, h2]) h2) fun σ H R ⟨F, env, ok, I, w⟩ => ?_
  rw [evI] at w
  refine es_run ok es I w.bind fun ds env' H' vs P r w => ?_
  have b := r.brs P.fi (by rw [ok.ow]; exact hl)
  split at w
  · split at w
    · rename_i hr
      obtain ⟨x, y, rfl, b1, b2⟩ := b.of_two
      have e1 := b1.int
      have e2 := b2.int
      subst e1; subst e2
      have hb := rngOk_of hr
      exact ⟨_, _, rfl, ⟨hb.1.1, hb.1.2, hb.2.1, hb.2.2⟩, w H' (.refl P.fi) _ _ isJ_rng trivial⟩
    · exact w.elim
  · exact w.elim
theorem i_enum (C : Cok p N tl sc k X W) {e : E} {a : Expr} {elts : List Expr} {kk : Nat} {tp : Pos} {q : Pos} (hg : gloB sc "enumerate" = true) (h : PE X a (tE p ow tb cf W e)) (hs : isStar a = false) : PI X (.Tuple elts kk tp) (.Call (.Name "enumerate" q) [a] [] pos) (tI p ow tb cf W (.enum e)) := by
  refine PIimp (pi_enumB (C.gl hg) C.facts.enm (pa_cons h pa_nil (starEach_cons hs _ _)) (starEach_cons hs _ _)) fun σ H R ⟨F, env, ok, I, w⟩ => ?_
  rw [evI] at w
  refine ⟨F, env, ok, I, w.bind.imp fun d env' H' P w v r => ?_⟩
  obtain ⟨ds, e, w⟩ := w.of
  obtain ⟨xs, hx, rfl⟩ := Option.map_eq_some_iff.mp e
  have hK : F.G.K = X.K := by rw [ok.G]; exact C.facts.hK
  have f := r.1
  unfold itemsD at hx
  split at hx
  · cases hx
    cases f with
    | lst e1 n r => exact ⟨_, rfl, .inl ⟨_, SqL.of e1, w H' (.refl P.fi) _ _ (isJ_enL hK) (.lst e1 n r)⟩⟩
  · cases hx
    obtain ⟨q, vs, e1, s, r⟩ := (show BR F.G H' (OO F σ env') v (.tup _) from .inl f).tup
    subst e1
    exact ⟨q, rfl, .inr ⟨_, hK ▸ s, w H' (.refl P.fi) _ _ (isJ_enT hK) f⟩⟩
  · cases hx
end
end Bh
/-! text Bh5j -/
set_option Elab.async false
set_option linter.all false
set_option maxRecDepth 100000
set_option maxHeartbeats 1000000
/-! Bh5j: comprehensions. -/
namespace Bh
open PySem PySem.W L2 PyProof.Rows
theorem ewipe_len (env : Env) : ∀ is : List Nat, (env.wipe is).length = env.length
  | [] => rfl
  | i :: is => by unfold Env.wipe; rw [List.length_set, ewipe_len env is]
theorem ewipe_get {env : Env} {j : Nat} : ∀ {is : List Nat}, (env.wipe is).get j = if j ∈ is then none else env.get j
  | [] => by simp [Env.wipe]
  | i :: is => by
    unfold Env.wipe
    rw [get_off, ewipe_get]
    by_cases h : j = i
    · simp [h]
    · simp [h]
theorem eback_len (env env0 : Env) : ∀ is : List Nat, (env.back env0 is).length = env.length
  | [] => rfl
  | i :: is => by unfold Env.back; rw [List.length_set, eback_len env env0 is]
theorem eback_get {env env0 : Env} (hl : env.length = env0.length) {j : Nat} : ∀ {is : List Nat}, (env.back env0 is).get j = if j ∈ is then env0.get j else env.get j
  | [] => by simp [Env.back]
  | i :: is => by
    unfold Env.back
    by_cases h : j = i
    · subst h
      rw [if_pos List.mem_cons_self]
      unfold Env.get
      by_cases hj : j < env.length
      · rw [List.getElem?_set_self (by rw [eback_len]; exact hj)]
        rfl
      · rw [List.getElem?_eq_none (by rw [List.length_set, eback_len]; omega), List.getElem?_eq_none (by omega)]
    · have e1 : Env.get ((env.back env0 is).set i (env0.get i)) j = (env.back env0 is).get j := by
        unfold Env.get
        rw [List.getElem?_set_ne (Ne.symm h)]
      rw [e1, eback_get hl]
      simp [h]
def W0 : WX := fun _ _ _ _ => False
def tCd (p : Pr) (ow : List Nat) (tb : Tb) (cf : CF) : Option E → TT
  | none => tYes
  | some c => tT p ow tb cf W0 c
section
variable {p : Pr} {N : List Str} {ow : List Nat} {tl : Bool} {sc : Scope} {F : Fm} {k : Nat} {X : Cx} {W : WX} {cf : CF} {tb : Tb} {pos : Pos} {es : Es}
structure LcI (F : Fm) (σ : L2.St) (H1 : Hp) (env0 : Env) (is : List Nat) (D : Addr) (H : Hp) (env : Env) (acc : List Bh.D) : Prop where
  fi : FI (F.guard D) (L2.wipe σ is) H (env.wipe is)
  acc : ∃ vs, H D = some (.lst vs) ∧ FRs F.G H (OO (F.guard D) (L2.wipe σ is) (env.wipe is)) vs acc
  stp : Stp H1 (OO F σ env0) H (OO (F.guard D) (L2.wipe σ is) (env.wipe is))
  ow : ∀ a, ownA F.ow (L2.wipe σ is) (env.wipe is) a → ownA F.ow σ env0 a
  kx : ∀ a o, H1 a = some o → ¬ ownA F.ow σ env0 a → Nt o → H a = some o
variable {σ : L2.St} {H1 H : Hp} {env0 env : Env} {is : List Nat} {D : Addr} {acc : List Bh.D}
theorem FI.wipes {F : Fm} (I : FI F σ H env) (ho : ∀ i ∈ is, i ∉ F.ow) : FI F (L2.wipe σ is) H (env.wipe is) ∧ ∀ a, OO F (L2.wipe σ is) (env.wipe is) a ↔ OO F σ env a :=
  I.slots (by rw [ewipe_len, wipe_length]; exact I.len) (fun i hi => ⟨by rw [wipe_get, if_neg (fun z => ho i z.1 hi)], by rw [ewipe_get, if_neg (fun z => ho i z hi)]⟩) fun i d hi h => by
    rw [ewipe_get] at h
    split at h
    · cases h
    · rename_i hn
      obtain ⟨v, a, b⟩ := I.fr i d h hi
      exact ⟨v, by rw [wipe_get, if_neg (fun z => hn z.1)]; exact a, b⟩
theorem own_wipes {ow : List Nat} (ho : ∀ i ∈ is, i ∉ ow) (a : Addr) : ownA ow (L2.wipe σ is) (env.wipe is) a ↔ ownA ow σ env a := by
  unfold ownA
  constructor
  · rintro ⟨j, hj, ⟨e, he⟩, h⟩
    rw [ewipe_get, if_neg (fun z => ho j z hj)] at he
    rw [wipe_get, if_neg (fun z => ho j z.1 hj)] at h
    exact ⟨j, hj, ⟨e, he⟩, h⟩
  · rintro ⟨j, hj, ⟨e, he⟩, h⟩
    refine ⟨j, hj, ⟨e, ?_⟩, ?_⟩
    · rw [ewipe_get, if_neg (fun z => ho j z hj)]; exact he
    · rw [wipe_get, if_neg (fun z => ho j z.1 hj)]; exact h
theorem lc_init (I : FI F σ H1 env0) (ho : ∀ i ∈ is, i ∉ F.ow) (n : H1 D = none) : LcI F σ H1 env0 is D (upd H1 D (.lst [])) env0 [] := by
  have Ig := I.guard (o := .lst []) n
  obtain ⟨I2, o2⟩ := Ig.wipes (is := is) ho
  refine ⟨I2, ⟨[], upd_same, .nil⟩, ⟨fun a o h _ _ => Ext.upd n a o h, fun a z => ?_, (Ext.upd n).dom⟩, fun a z => (own_wipes ho a).mp z, fun a o h _ _ => Ext.upd n a o h⟩
  rcases (guard_oo a).mp ((o2 a).mp z) with z | z
  · exact .inl z
  · exact .inr (z ▸ Av.none n)
/-- within a turn -/
theorem LcI.move (L : LcI F σ H1 env0 is D H env acc) (ho : ∀ i ∈ is, i ∉ F.ow) {σ2 : L2.St} {env1 env2 : Env} {H2 : Hp} (so : SameOff is (L2.wipe σ is) σ2) (oo : ∀ a, OO (F.guard D) σ2 env1 a ↔ OO (F.guard D) (L2.wipe σ is) (env.wipe is) a)
    (wo : ∀ a, ownA F.ow σ2 env1 a ↔ ownA F.ow (L2.wipe σ is) (env.wipe is) a) (n1 : H1 D = none) (I0 : FI F σ H1 env0) (P : Post (F.guard D) σ2 H env1 H2 env2) : LcI F σ H1 env0 is D H2 env2 acc := by
  obtain ⟨I2, o2⟩ := P.fi.wipes (is := is) ho
  rw [so.wipe] at I2 o2
  have st : Stp H (OO (F.guard D) (L2.wipe σ is) (env.wipe is)) H2 (OO (F.guard D) (L2.wipe σ is) (env2.wipe is)) := ⟨fun a o h t m => P.stp.keep a o h t fun z => m ((oo a).mp z), fun a z => .inl ((oo a).mp (P.os a ((o2 a).mp z))), P.stp.dom⟩
  have w2 : ∀ a, ownA F.ow (L2.wipe σ is) (env2.wipe is) a → ownA F.ow (L2.wipe σ is) (env.wipe is) a := fun a z => by
    rw [← so.wipe] at z
    exact (wo a).mp (P.ow a ((own_wipes ho a).mp z))
  have kx2 : ∀ a o, H a = some o → ¬ ownA F.ow (L2.wipe σ is) (env.wipe is) a → Nt o → H2 a = some o := fun a o h m t => P.kx a o h (fun z => m ((wo a).mp z)) t
  obtain ⟨vs, hD, hf⟩ := L.acc
  have nown : ¬ ownA F.ow (L2.wipe σ is) (env.wipe is) D := fun z => I0.free (Av.none n1) (.inr (L.ow D z))
  exact ⟨I2, ⟨vs, kx2 D _ hD nown (fun _ z => nomatch z), hf.carry st⟩, L.stp.trans st, fun a z => L.ow a (w2 a z), fun a o h m t => kx2 a o (L.kx a o h m t) (fun z => m (L.ow a z)) t⟩
/-- something new is laid -/
theorem LcI.ext (L : LcI F σ H1 env0 is D H env acc) {H2 : Hp} (e : Ext H H2) : LcI F σ H1 env0 is D H2 env acc := by
  obtain ⟨vs, hD, hf⟩ := L.acc
  exact ⟨L.fi.ext e, ⟨vs, e D _ hD, hf.carry e.stp⟩, L.stp.trans e.stp, L.ow, fun a o h m t => e a o (L.kx a o h m t)⟩
/-- the list grows -/
theorem LcI.grow (L : LcI F σ H1 env0 is D H env acc) (n1 : H1 D = none) (I0 : FI F σ H1 env0) {v : V} {d : Bh.D} (f : FR F.G H (OO (F.guard D) (L2.wipe σ is) (env.wipe is)) v d) :
    ∃ vs, H D = some (.lst vs) ∧ vs.length = acc.length ∧ LcI F σ H1 env0 is D (upd H D (.lst (vs ++ [v]))) env (acc ++ [d]) := by
  obtain ⟨vs, hD, hf⟩ := L.acc
  have nO : ¬ OO F (L2.wipe σ is) (env.wipe is) D := fun z => by
    rcases z with z | z
    · exact Av.none n1 (I0.live D z)
    · exact I0.free (Av.none n1) (.inr (L.ow D z))
  have h0 : ¬ Av F.H0 D := fun z => Av.none n1 (I0.sub D z)
  have hp : OO (F.guard D) (L2.wipe σ is) (env.wipe is) D := (guard_oo D).mpr (.inr rfl)
  have dm : ∀ a, Av H a → Av (upd H D (.lst (vs ++ [v]))) a := av_upd fun _ z => nomatch z
  have st : Stp H (OO (F.guard D) (L2.wipe σ is) (env.wipe is)) (upd H D (.lst (vs ++ [v]))) (OO (F.guard D) (L2.wipe σ is) (env.wipe is)) := ⟨fun a o h _ m => by rw [upd_ne (fun z => m (by rw [z]; exact hp))]; exact h, fun _ z => .inl z, dm⟩
  have pl : Plc H D := ⟨fun ps z => (by rw [hD] at z; cases z), fun q z => (by rw [hD] at z; cases z)⟩
  have ne1 : ∀ a o, H1 a = some o → a ≠ D := fun a o h z => by rw [z, n1] at h; cases h
  refine ⟨vs, hD, hf.length, L.fi.wrote nO pl h0, ⟨_, upd_same, (hf.carry st).app (.one (f.carry st))⟩, ⟨fun a o h t m => ?_, L.stp.sub, fun a m => dm a (L.stp.dom a m)⟩, L.ow, fun a o h m t => ?_⟩
  · rw [upd_ne (ne1 a o h)]; exact L.stp.keep a o h t m
  · rw [upd_ne (ne1 a o h)]; exact L.kx a o h m t
/-- at the end -/
theorem LcI.done (L : LcI F σ H1 env0 is D H env acc) (ho : ∀ i ∈ is, i ∉ F.ow) (oe : ∀ a, F.Oe a → F.Ox a) (n1 : H1 D = none) (I0 : FI F σ H1 env0) {Hs : Hp} (dom : ∀ a, Av Hs a → Av H1 a) {nw : Nat → Bool} :
    Post F σ H1 env0 H (env.back env0 is) ∧ VR F σ (env.back env0 is) Hs H nw (.ref D) (.lst acc) := by
  have hlen : env.length = env0.length := by
    have h1 := L.fi.len
    rw [ewipe_len, wipe_length] at h1
    rw [h1, I0.len]
  obtain ⟨I2, o2⟩ := L.fi.slots (σ' := σ) (env' := env.back env0 is) (by rw [eback_len, hlen]; exact I0.len) (fun i hi => ⟨by rw [wipe_get, if_neg (fun z => ho i z.1 hi)], by rw [eback_get hlen, ewipe_get, if_neg (fun z => ho i z hi), if_neg (fun z => ho i z hi)]⟩) fun i d hi h => by
    rw [eback_get hlen] at h
    split at h
    · obtain ⟨v, a, b⟩ := I0.fr i d h hi
      exact ⟨v, a, b.carry L.stp⟩
    · rename_i hn
      obtain ⟨v, a, b⟩ := L.fi.fr i d (by rw [ewipe_get, if_neg hn]; exact h) hi
      rw [wipe_get, if_neg (fun z => hn z.1)] at a
      exact ⟨v, a, b⟩
  have IF := FI.unguard I2 oe
  have wo : ∀ a, ownA F.ow σ (env.back env0 is) a → ownA F.ow σ env0 a := fun a ⟨j, hj, ⟨e, he⟩, h⟩ => by
    refine L.ow a ⟨j, hj, ⟨e, ?_⟩, ?_⟩
    · rw [eback_get hlen, if_neg (fun z => ho j z hj)] at he
      rw [ewipe_get, if_neg (fun z => ho j z hj)]; exact he
    · rw [wipe_get, if_neg (fun z => ho j z.1 hj)]; exact h
  obtain ⟨vs, hD, hf⟩ := L.acc
  have nO : ¬ OO F σ (env.back env0 is) D := fun z => I0.free (Av.none n1) (z.imp id (wo D))
  have hs0 : ¬ Av Hs D := fun z => Av.none n1 (dom D z)
  have cg : Cont F.G H (OO (F.guard D) σ (env.back env0 is)) D (.lst acc) := .lst hD (hf.carry (.mono fun a z => (o2 a).mp z))
  refine ⟨⟨IF, ⟨fun a o h t m => L.stp.keep a o h t m, fun a z => .inl (z.imp id (wo a)), L.stp.dom⟩, wo, L.kx⟩, (cg.carry (.mono fun a z => (guard_oo a).mpr (.inl z)) rfl).fr nO, fun _ _ => ⟨D, rfl, hs0, nO, cg, I2⟩⟩
def turn2 (tb : Tb) (cf : CF) (e : E) (q : Bh.D) (env2 : Env) : R (Option Bh.D) := match q with
  | .bl true => (evE tb cf e env2).bind fun y env3 => .ok (some y) env3
  | .bl false => .ok none env2
  | _ => .err
def turnOf (tb : Tb) (cf : CF) (c : Option E) (e : E) (env1 : Env) : R (Option Bh.D) := (evC tb cf c env1).bind (turn2 tb cf e)
theorem lc_run (ok : FOk p ow F) (hK : F.G.K = X.K) {t : T} {c : Option E} {e : E} {ds : List Bh.D} {J : L2.It} {pv : Option (V × Bh.D)} {Hs : Hp} {Q : VK} {nw : Nat → Bool} (I : FI F σ H1 env0) (dom : ∀ a, Av Hs a → Av H1 a) (hJ : IsJ F.G J ds pv) (hA : AnP F.G pv H1 (OO F σ env0))
    (ho : ∀ i ∈ t.slots, i ∉ F.ow) (n : H1 D = none)
    (w : Wish F W σ H1 env0 ((lcLoop t (turnOf tb cf c e) ds env0 []).bind fun ys env => .ok (.lst ys) (env.back env0 t.slots)) fun d env' H' => ∀ v, VR F σ env' Hs H' nw v d → Q v H') :
    ∃ Wn : Nat → Nat → Hp → Prop, (∃ m, Wn 0 m (upd H1 D (.lst []))) ∧ ∀ i m H, Wn i m H →
      (J.stop i H ∧ Q (.ref D) H) ∨ (J.go i H ∧ ∃ Nx : Hp → Prop, (∀ H', Nx H' → ∃ m', m' < m ∧ Wn (i + 1) m' H') ∧ ∀ x H', J.yld i H x H' → tG X.K t x (L2.wipe σ t.slots) H' fun σ2 H2 => L2.wipe σ2 t.slots = L2.wipe σ t.slots ∧ tCd p ow tb cf c σ2 H2 fun b H3 =>
        if b = true then tE p ow tb cf W0 e σ2 H3 fun y H4 => ∃ acc, H4 D = some (.lst acc) ∧ acc.length < sizeLine ∧ Nx (upd H4 D (.lst (acc ++ [y]))) else Nx H3) := by
  let LW := fun (ds' : List Bh.D) (env : Env) (acc : List Bh.D) => Wish F W σ H1 env0 ((lcLoop t (turnOf tb cf c e) ds' env acc).bind fun ys env => (.ok (.lst ys) (env.back env0 t.slots) : R Bh.D)) fun d env' H' => ∀ v, VR F σ env' Hs H' nw v d → Q v H'
  let Iv := fun (i : Nat) (H : Hp) => ∃ env acc, LcI F σ H1 env0 t.slots D H env acc ∧ LW (ds.drop i) env acc
  refine ⟨fun i m H => m = ds.length - i ∧ i ≤ ds.length ∧ Iv i H, ⟨_, rfl, Nat.zero_le _, env0, [], lc_init I ho n, w⟩, fun i m H ⟨hm, hi, env, acc, L, lw⟩ => ?_⟩
  have hAn : AnP F.G pv H (OO (F.guard D) (L2.wipe σ t.slots) (env.wipe t.slots)) := hA.carry L.stp
  by_cases he : i = ds.length
  · subst he
    refine .inl ⟨hJ.stop hAn, ?_⟩
    have lw' : LW [] env acc := by
      have := lw
      rwa [List.drop_length] at this
    obtain ⟨P, v⟩ := L.done ho ok.oe n I dom (nw := nw)
    exact lw' H P _ v
  · have hlt : i < ds.length := by omega
    have hx : ds[i]? = some ds[i] := List.getElem?_eq_getElem hlt
    refine .inr ⟨(hJ.go L.fi.alive hAn hx).1, Iv (i + 1), fun H' h => ⟨ds.length - (i + 1), by omega, rfl, by omega, h⟩, fun x H' hy => ?_⟩
    obtain ⟨ex, fx⟩ := (hJ.go L.fi.alive hAn hx).2 x H' hy
    have L := L.ext ex
    have lw' : LW (ds[i] :: ds.drop (i + 1)) env acc := by
      have := lw
      rwa [List.drop_eq_getElem_cons hlt] at this
    -- the target
    cases hb : bindT t ds[i] (env.wipe t.slots) with
    | none =>
      have : LW (ds[i] :: ds.drop (i + 1)) env acc := lw'
      simp only [LW, lcLoop, hb] at this
      exact this.elim
    | some env1 =>
      have lw2 : Wish F W σ H1 env0 ((match turnOf tb cf c e env1 with
          | .ok none env2 => lcLoop t (turnOf tb cf c e) (ds.drop (i + 1)) env2 acc
          | .ok (some y) env2 => if okLen (acc.length + 1) then lcLoop t (turnOf tb cf c e) (ds.drop (i + 1)) env2 (acc ++ [y]) else .err
          | _ => .err).bind fun ys env => (.ok (.lst ys) (env.back env0 t.slots) : R Bh.D)) fun d env' H' => ∀ v, VR F σ env' Hs H' nw v d → Q v H' := by
        have : LW (ds[i] :: ds.drop (i + 1)) env acc := lw'
        simp only [LW, lcLoop, hb] at this
        exact this
      refine tG_run (F := F.guard D) (X := X) hK L.fi fx hb ho fun σ2 I2 so oo wo => ⟨so.wipe, ?_⟩
      · -- the element
        have elem : ∀ (env2 : Env) (H3 : Hp), Post (F.guard D) σ2 H' env1 H3 env2 → (∀ r, (evE tb cf e env2).bind (fun y env3 => (.ok (some y) env3 : R (Option Bh.D))) = r → turnOf tb cf c e env1 = r) →
            tE p ow tb cf W0 e σ2 H3 fun y H4 => ∃ acc, H4 D = some (.lst acc) ∧ acc.length < sizeLine ∧ Iv (i + 1) (upd H4 D (.lst (acc ++ [y]))) := fun env2 H3 P tu => by
          refine ⟨F.guard D, env2, ok.guard D, P.fi, ?_⟩
          cases hev : evE tb cf e env2 with
          | err => rw [tu _ rfl, hev] at lw2; exact lw2.elim
          | exc cx ex => rw [tu _ rfl, hev] at lw2; exact lw2.elim
          | ok y env3 =>
            rw [tu _ rfl, hev] at lw2
            intro H4 P4 v hv
            have lw3 : Wish F W σ H1 env0 ((if okLen (acc.length + 1) then lcLoop t (turnOf tb cf c e) (ds.drop (i + 1)) env3 (acc ++ [y]) else .err).bind fun ys env => (.ok (.lst ys) (env.back env0 t.slots) : R Bh.D)) fun d env' H' => ∀ v, VR F σ env' Hs H' nw v d → Q v H' := lw2
            split at lw3
            · rename_i hz
              have L4 := L.move ho so oo wo n I (P.trans P4)
              have fy : FR F.G H4 (OO (F.guard D) (L2.wipe σ t.slots) (env3.wipe t.slots)) v y := hv.1.carry (.mono fun a z => by
                have := ((P.trans P4).fi.wipes (is := t.slots) ho).2 a
                rw [so.wipe] at this
                exact this.mp z)
              obtain ⟨vs, hD, hvl, L5⟩ := L4.grow n I fy
              exact ⟨vs, hD, by have := okLen_le hz; omega, env3, acc ++ [y], L5, lw3⟩
            · exact lw3.elim
        cases c with
        | none =>
          show (if (true = true) then tE p ow tb cf W0 e σ2 H' (fun y H4 => ∃ acc, H4 D = some (.lst acc) ∧ acc.length < sizeLine ∧ Iv (i + 1) (upd H4 D (.lst (acc ++ [y])))) else Iv (i + 1) H')
          rw [if_pos rfl]
          exact elem env1 H' (.refl I2) fun r hr => hr
        | some c =>
          refine ⟨F.guard D, env1, ok.guard D, I2, ?_⟩
          cases hc : evE tb cf c env1 with
          | err =>
            have tz : turnOf tb cf (some c) e env1 = .err := by unfold turnOf; rw [evC, hc]; rfl
            rw [tz] at lw2; exact lw2.elim
          | exc cx ex =>
            have tz : turnOf tb cf (some c) e env1 = .exc cx ex := by unfold turnOf; rw [evC, hc]; rfl
            rw [tz] at lw2; exact lw2.elim
          | ok q env2 =>
            intro H3 P3
            have tz : turnOf tb cf (some c) e env1 = turn2 tb cf e q env2 := by unfold turnOf; rw [evC, hc]; rfl
            cases q with
            | bl b =>
              refine ⟨b, rfl, ?_⟩
              cases b with
              | true =>
                rw [if_pos rfl]
                exact elem env2 H3 P3 fun r hr => tz.trans hr
              | false =>
                rw [if_neg (by decide)]
                rw [tz] at lw2
                exact ⟨env2, acc, L.move ho so oo wo n I P3, lw2⟩
            | _ => rw [tz] at lw2; exact lw2.elim
def isSetE : Expr → Bool
  | .Set _ _ _ => true
  | _ => false
theorem folded {e : Expr} (h : isSetE e = false) (env : PySem.Env) (x : Value) : foldedSetIterable e env x = pure x := by
  cases e <;> first | rfl | (simp [isSetE] at h)
theorem lc_read (C : Cok p N tl sc k X W) {t : T} {it : It} {c : Option E} {e : E} (ho : ∀ i ∈ t.slots, i ∉ ow) {Q : VK} (h : tE p ow tb cf W (.lc t it c e) σ H Q) : tLc (tI p ow tb cf W it) (tG X.K t) (tCd p ow tb cf c) (tE p ow tb cf W0 e) t.slots σ H Q := by
  obtain ⟨F, env, ok, I, w⟩ := h
  rw [evE] at w
  refine ⟨F, env, ok, I, w.bind.imp fun ds env0 Ha P1 w1 J An hJ hA D nD => ?_⟩
  exact lc_run ok (by rw [ok.G]; exact C.facts.hK) P1.fi P1.domL hJ hA (by rw [ok.ow]; exact ho) nD w1
theorem s_lc (C : Cok p N tl sc k X W) {t : T} {it : It} {c : Option E} {e : E} {elt tg iter : Expr} {ifs : List Expr} {scope : Scope} {own : List (Str × Nat)} (hi : PI X tg iter (tI p ow tb cf W it)) (bk : BlkOk N sc scope own) (hown : own.map (·.2) = t.slots)
    (hg : ∀ (s : Shared) (H : Hp) (Cc : Addr) (cl : List (Str × Addr)) (fp : List Addr), PG (X.blk s H scope (compEnvC scope cl Cc X.env) fp) tg (tG X.K t))
    (ht : ∀ (s : Shared) (H : Hp) (Cc : Addr) (cl : List (Str × Addr)) (fp : List Addr), PTs (X.blk s H scope (compEnvC scope cl Cc X.env) fp) ifs (tCd p ow tb cf c))
    (he : ∀ (s : Shared) (H : Hp) (Cc : Addr) (cl : List (Str × Addr)) (fp : List Addr), PE (X.blk s H scope (compEnvC scope cl Cc X.env) fp) elt (tE p ow tb cf W0 e)) (hs : isSetE iter = false) (ho : ∀ i ∈ t.slots, i ∉ ow) :
    PE X (.ListComp elt [⟨tg, iter, ifs, 0⟩] scope pos) (tE p ow tb cf W (.lc t it c e)) := by
  have b2 : BlkOk X.N X.env.scope scope own := by rw [C.nm, C.scope]; exact bk
  have h1 := pe_lc (pos := pos) C.calm C.nd hi b2 hg ht he (fun x => folded hs _ x)
  rw [hown] at h1
  exact PEimp h1 fun σ H Q h => lc_read C ho h
end
end Bh
/-! text Bh5k -/
set_option Elab.async false
set_option linter.all false
set_option maxRecDepth 100000
set_option maxHeartbeats 1000000
/-! Bh5k: append, a look into a display, told lambdas. -/
namespace Bh
open PySem PySem.W L2 PyProof.Rows
section
variable {p : Pr} {N : List Str} {ow : List Nat} {tl : Bool} {sc : Scope} {F : Fm} {k : Nat} {X : Cx} {W : WX} {cf : CF} {tb : Tb} {pos : Pos} {es : Es}
theorem s_append (C : Cok p N tl sc k X W) {i : Nat} {o a : Expr} {e : E} {ap : Pos} (hi : i ∈ ow) (hc : isCall o = false) (ho : PE X o (tVar i)) (h : PEs X [a] (tOs p ow tb cf W (.cons e .nil))) (hl : lateOf e = none) (hlp : (ap.endLine == pos.line) = true) :
    PE X (.Call (.Attribute o "append" ap) [a] [] pos) (tE p ow tb cf W (.mm .append i (.cons e .nil))) := by
  have hfew := few_of (pos := pos) h (by show 1 < 30; decide)
  refine PEimp (pe_bm (apos := ap) (cpos := pos) PySem.F.plainAttrs_list PySem.F.slot_list_append PySem.F.type_list_append (mt_append (X := X)) ho h.pa (attrBase hc _ _) (by
    simp only [methodCallForm] at hfew
    simpa [backToKw, keywordEach] using hfew) hlp (h.hd pos).1 (h.hd pos).2) fun σ H Q ⟨F, env, ok, I, w⟩ => ?_
  rw [evE] at w
  split at w
  · rename_i xs0 hg
    have hio : i ∈ F.ow := by rw [ok.ow]; exact hi
    obtain ⟨q, hs, ct, _⟩ := I.own i _ hg hio
    cases ct with
    | lst e0 r0 =>
      refine ⟨_, hs, .inl ⟨rfl, _, SqL.of e0⟩, ?_⟩
      refine es_run ok _ I w.bind fun ds env' H' vs P r w => ?_
      split at w
      · rename_i x hg'
        split at w
        · rename_i rr hm
          have hm : appD x ds = some rr := hm
          unfold appD at hm
          split at hm
          · rename_i xs v _
            split at hm
            · rename_i hz
              cases hm
              have f := r.frs (by simp [noLate, hl])
              obtain ⟨u, rfl, fu⟩ := f.of_one
              obtain ⟨q2, hs2, ct2, _⟩ := P.fi.own i _ hg' hio
              rw [hs] at hs2
              cases hs2
              cases ct2 with
              | lst e1 r1 =>
                rename_i ws
                have hp : OO F σ env' q := .inr ⟨i, hio, ⟨_, hg'⟩, hs⟩
                have st : Stp H' (OO F σ env') (upd H' q (.lst (ws ++ [u]))) (OO F σ env') := ⟨fun a o h _ m => (by rw [upd_ne (fun z => m (by rw [z]; exact hp))]; exact h), fun _ z => .inl z, av_upd fun _ z => nomatch z⟩
                refine ⟨q, ws, u, rfl, rfl, e1, ?_, ?_⟩
                · have := okLen_le hz
                  rw [r1.length]; omega
                · have P2 := P.fi.write (d' := .lst (xs ++ [v])) hio hg' hs (.lst upd_same ((r1.carry st).app (.one (fu.carry st))))
                  exact w _ P2 _ (VR.old .non)
            · cases hm
          · cases hm
        · exact w.elim
      · exact w.elim
  · exact w.elim
/-! ### a look into a display -/
theorem Post.unguard {σ : L2.St} {H H' : Hp} {env env' : Env} {q : Addr} {o : HO} (n : H q = none) (I : FI F σ H env) (oe : ∀ a, F.Oe a → F.Ox a) (P : Post (F.guard q) σ (upd H q o) env H' env') : Post F σ H env H' env' where
  fi := P.fi.unguard oe
  stp := by
    refine ⟨fun a u h t m => P.stp.keep a u (Ext.upd n a u h) t fun z => ?_, fun a z => .inl (z.imp id (P.ow a)), fun a m => P.stp.dom a (Ext.dom (Ext.upd n) a m)⟩
    rcases (guard_oo a).mp z with z | z
    · exact m z
    · rw [z, n] at h; cases h
  ow := P.ow
  kx := fun a u h m t => P.kx a u (Ext.upd n a u h) m t
theorem Wish.guarded {σ : L2.St} {H : Hp} {env : Env} {q : Addr} {o : HO} {α : Type} {r : R α} {S : α → Env → Hp → Prop} (n : H q = none) (I : FI F σ H env) (oe : ∀ a, F.Oe a → F.Ox a) (w : Wish F W σ H env r S) :
    Wish (F.guard q) W σ (upd H q o) env r fun a env' H' => Post (F.guard q) σ (upd H q o) env H' env' ∧ S a env' H' := by
  cases r with
  | ok a e => exact fun H' P => ⟨P, w H' (P.unguard n I oe)⟩
  | exc c e => exact fun dx H' P => w dx H' (P.unguard n I oe)
  | err => exact w
theorem Wish.all {σ : L2.St} {H : Hp} {env : Env} {α : Type} {r : R α} {S : α → Env → Hp → Prop} (w : Wish F W σ H env r S) : Wish F W σ H env r fun a env' _ => ∀ H', Post F σ H env H' env' → S a env' H' := by
  cases r with
  | ok a e => exact fun _ _ => w
  | exc c e => exact w
  | err => exact w
def keysAre : List (List Nat) → List (Option Expr) → Bool
  | [], [] => true
  | s :: ks, some (.Constant (.str x) _ _) :: es => decide (x.cps.toList = s) && keysAre ks es
  | _, _ => false
def kStr (s : List Nat) : Str := ⟨s.toArray⟩
theorem kStr_inj {s t : List Nat} (h : kStr s = kStr t) : s = t := by
  have := congrArg (fun x : Str => x.cps.toList) h
  simpa [kStr] using this
def trsOf : List (List Nat) → List TE → List (TE × TE)
  | s :: ks, t :: ts => (tC (.str (kStr s)), t) :: trsOf ks ts
  | _, _ => []
theorem pps_of : ∀ {ks : List (List Nat)} {keys : List (Option Expr)} {vals : List Expr} {ts : List TE}, keysAre ks keys = true → ks.length = vals.length → PEs X vals ts → PPs X pos keys vals (trsOf ks ts)
  | [], [], [], _, _, _, .nil => pps_nil
  | s :: ks, some (.Constant (.str x) j q) :: keys, v :: vals, _, h, hl, .cons hv _ r => by
    simp only [keysAre, Bool.and_eq_true, decide_eq_true_eq] at h
    have e : x = kStr s := by
      obtain ⟨c⟩ := x
      unfold kStr
      rw [← h.1]
    subst e
    exact pps_cons pe_str hv (pps_of h.2 (by simpa using hl) r)
  | [], _ :: _, _, _, h, _, _ => by simp [keysAre] at h
  | [], [], _ :: _, _, _, hl, _ => by simp at hl
  | _ :: _, [], _, _, h, _, _ => by simp [keysAre] at h
  | _ :: _, _, [], _, _, hl, _ => by simp at hl
  | _ :: _, none :: _, _, _, h, _, _ => by simp [keysAre] at h
theorem keysAre_all : ∀ {ks : List (List Nat)} {keys : List (Option Expr)}, keysAre ks keys = true → keys.all (·.isSome) = true ∧ keys.length = ks.length
  | [], [], _ => ⟨rfl, rfl⟩
  | s :: ks, e :: keys, h => by
    unfold keysAre at h
    split at h
    · rename_i h1 h2; cases h1
    · rename_i h1 h2
      cases h1; cases h2
      simp only [Bool.and_eq_true] at h
      obtain ⟨a, b⟩ := keysAre_all h.2
      exact ⟨by simp [a], by simp [b]⟩
    · cases h
  | [], _ :: _, h => by simp [keysAre] at h
  | _ :: _, [], h => by simp [keysAre] at h
/-- the pairs of a display -/
theorem pairs_run (ok : FOk p ow F) {σ : L2.St} : ∀ (es : Es) (ks : List (List Nat)) {H : Hp} {env : Env} {S : List D → Env → Hp → Prop} {Q : List (V × V) → Hp → Prop}, FI F σ H env → Wish F W σ H env (evEs tb cf es env) S → noLate es = true → ks.length = esLen es →
    (∀ ds env' H' vs, Post F σ H env H' env' → FRs F.G H' (OO F σ env') vs ds → S ds env' H' → Q ((ks.zip vs).map fun q => (.str (kStr q.1), q.2)) H') → tPairs (trsOf ks (tOs p ow tb cf W es)) σ H Q
  | .nil, [], H, env, S, Q, I, w, _, _, q => q [] env H [] (.refl I) .nil (w H (.refl I))
  | .cons e es, s :: ks, H, env, S, Q, I, w, hn, hl, q => by
    simp only [noLate, Bool.and_eq_true, Option.isNone_iff_eq_none] at hn
    show tO p ow tb cf W e σ H fun x H1 => tPairs (trsOf ks (tOs p ow tb cf W es)) σ H1 fun ps H2 => Q ((.str (kStr s), x) :: ps) H2
    unfold tO
    unfold evEs at w
    rw [hn.1] at w ⊢
    refine ⟨F, env, ok, I, w.bind.imp fun d env1 H1 P1 w1 v hv => ?_⟩
    refine pairs_run ok es ks P1.fi w1.bind hn.2 (by simpa [esLen] using hl) fun ds env' H' vs P r w2 => ?_
    exact q (d :: ds) env' H' (v :: vs) (P1.trans P) (.cons (hv.1.carry P.stp) r) (w2 H' (.refl P.fi))
  | .nil, _ :: _, _, _, _, _, _, _, _, hl, _ => by simp [esLen] at hl
  | .cons _ _, [], _, _, _, _, _, _, _, hl, _ => by simp [esLen] at hl
def kvK (ks : List (List Nat)) (vs : List V) : List (Key × V) := (ks.zip vs).map fun q => (Sum.inr (kStr q.1), q.2)
theorem merge_val : ∀ (kvs acc : List (Key × V)) (j : Key), (kvs.map (·.1)).Nodup → valV (mergeK acc kvs) j = (valV kvs j).or (valV acc j)
  | [], acc, j, _ => by simp [mergeK, valV_nil]
  | (k1, v1) :: r, acc, j, nd => by
    have nd' := List.nodup_cons.mp nd
    show valV (mergeK (putK acc k1 v1) r) j = _
    rw [merge_val r _ j nd'.2, valV_put]
    by_cases h : k1 = j
    · subst h
      rw [valV_pos (p := (k1, v1)) rfl, if_pos rfl]
      have : valV r k1 = none := by
        cases z : valV r k1 with
        | none => rfl
        | some v => exact (nd'.1 (valV_in z)).elim
      rw [this]; rfl
    · rw [valV_neg (p := (k1, v1)) h, if_neg (fun z => h z.symm)]
theorem pick_val {G : Gx} {H : Hp} {O : Addr → Prop} : ∀ {ks : List (List Nat)} {vs : List V} {ds : List D} {s : List Nat} {d : D}, FRs G H O vs ds → (ks.zip ds).lookup s = some d → ∃ v, valV (kvK ks vs) (Sum.inr (kStr s)) = some v ∧ FR G H O v d
  | [], _, _, _, _, _, h => by simp at h
  | t :: ks, _, _, _, _, .nil, h => by simp at h
  | t :: ks, _, _, s, d, .cons (v := v) (d := d0) f r, h => by
    rw [List.zip_cons_cons, List.lookup_cons] at h
    show ∃ v', valV ((Sum.inr (kStr t), v) :: kvK ks _) (Sum.inr (kStr s)) = some v' ∧ _
    by_cases e : s = t
    · subst e
      simp only [BEq.rfl] at h
      cases h
      exact ⟨v, valV_pos (p := (Sum.inr (kStr s), v)) rfl, f⟩
    · have e1 : (s == t) = false := by simpa using e
      rw [e1] at h
      obtain ⟨v', h1, h2⟩ := pick_val r h
      refine ⟨v', ?_, h2⟩
      rw [valV_neg (p := (Sum.inr (kStr t), v))]
      · exact h1
      · intro z
        exact e (kStr_inj (Sum.inr.inj z)).symm
theorem kvK_nodup : ∀ {ks : List (List Nat)} (vs : List V), ks.Nodup → ((kvK ks vs).map (·.1)).Nodup
  | [], _, _ => by simp [kvK]
  | _ :: _, [], _ => by simp [kvK]
  | t :: ks, v :: vs, h => by
    have h' := List.nodup_cons.mp h
    show (Sum.inr (kStr t) :: (kvK ks vs).map (·.1)).Nodup
    refine List.nodup_cons.mpr ⟨fun z => ?_, kvK_nodup vs h'.2⟩
    obtain ⟨q, h1, h2⟩ := List.mem_map.mp z
    unfold kvK at h1
    obtain ⟨r, h3, rfl⟩ := List.mem_map.mp h1
    have := kStr_inj (Sum.inr.inj h2)
    exact h'.1 (this ▸ (List.of_mem_zip h3).1)
theorem s_pick (C : Cok p N tl sc k X W) {ks : List (List Nat)} {keys : List (Option Expr)} {vals : List Expr} {ek : E} {ke : Expr} {q : Pos} (hk : keysAre ks keys = true) (hl : ks.length = vals.length) (h : PEs X vals (tOs p ow tb cf W es)) (hn : noLate es = true) (hle : ks.length = esLen es) (nd : ks.Nodup) (h0 : keys ≠ [])
    (h15 : ks.length ≤ 15) (hke : PE X ke (tE p ow tb cf W ek)) (hs : isSlice ke = false) : PE X (.Subscript (.Dict keys vals q) ke pos) (tE p ow tb cf W (.pick ks es ek)) := by
  obtain ⟨ka, kl⟩ := keysAre_all hk
  have hu : X.A.units + 1 < cLine := by have := C.un; omega
  refine PEimp (pe_dget hu (pe_disp (pps_of hk hl h) ka (by rw [kl]; exact hl) h0 (by rw [kl]; exact h15)) hke (plainIx hs)) fun σ H Q ⟨F, env, ok, I, w⟩ => ?_
  rw [evE] at w
  intro a n
  refine pairs_run (ok.guard a) es ks (I.guard n) (Wish.guarded n I ok.oe w.bind.all) hn hle fun ds env' H' vs P f ⟨P0, w⟩ => ?_
  have P1 := P0.unguard n I ok.oe
  have na : ¬ ownA F.ow σ env a := fun z => I.free (Av.none n) (.inr z)
  have hD : H' a = some (.dK []) := P.kx a _ upd_same na fun _ z => nomatch z
  have naO : ¬ OO F σ env' a := fun z => I.free (Av.none n) (P1.os a z)
  have pl : Plc H' a := ⟨fun ps z => (by rw [hD] at z; cases z), fun q z => (by rw [hD] at z; cases z)⟩
  have h00 : ¬ Av F.H0 a := fun z => Av.none n (I.sub a z)
  have Iw := P.fi.wrote (o := .dK (mergeK [] (kvK ks vs))) naO pl h00
  have aO : OO (F.guard a) σ env' a := (guard_oo a).mpr (.inr rfl)
  have P2 : Post F σ H env (upd H' a (.dK (mergeK [] (kvK ks vs)))) env' := by
    refine ⟨Iw.unguard ok.oe, ⟨fun b u e t m => ?_, P1.stp.sub, fun b m => av_upd (o := .dK (mergeK [] (kvK ks vs))) (fun _ z => nomatch z) b (P1.stp.dom b m)⟩, P1.ow, fun b u e m t => ?_⟩
    · rw [upd_ne (ne_of_none e n)]; exact P1.stp.keep b u e t m
    · rw [upd_ne (ne_of_none e n)]; exact P1.kx b u e m t
  have fw : FRs F.G (upd H' a (.dK (mergeK [] (kvK ks vs)))) (OO F σ env') vs ds := f.carry ⟨fun b u e _ m => (by rw [upd_ne (fun z => m (by rw [z]; exact aO))]; exact e), fun b z => .inl ((guard_oo b).mpr (.inl z)), av_upd (o := .dK (mergeK [] (kvK ks vs))) fun _ z => nomatch z⟩
  refine ⟨hD, kvK ks vs, by simp [kvK, List.map_map, Function.comp, kV], by unfold kvK; rw [List.length_map, List.length_zip]; omega, ?_⟩
  have w2 := w _ P2
  refine ⟨F, env', ok, P2.fi, w2.bind.imp fun x env3 H3 P3 w3 y hy => ?_⟩
  obtain ⟨r, e, w4⟩ := w3.of
  have f3 := hy.1
  unfold pickD at e
  split at e
  · rename_i s
    cases f3
    have na2 : ¬ ownA F.ow σ env' a := fun z => naO (.inr z)
    have hD3 : H3 a = some (.dK (mergeK [] (kvK ks vs))) := P3.kx a _ upd_same na2 fun _ z => nomatch z
    obtain ⟨v, hv, fv⟩ := pick_val (fw.carry P3.stp) e
    refine ⟨a, v, rfl, ?_, w4 H3 (.refl P3.fi) v (VR.old fv)⟩
    have e2 : valV (mergeK [] (kvK ks vs)) (Sum.inr (kStr s)) = some v := by
      rw [merge_val _ _ _ (kvK_nodup vs nd), hv]; rfl
    have g := DGet.k (k := (Sum.inr (kStr s) : Key)) hD3
    rw [e2] at g
    exact g
  · cases e
end
end Bh
/-! text Bh5k2 -/
set_option Elab.async false
set_option linter.all false
set_option maxRecDepth 100000
set_option maxHeartbeats 1000000
/-! Bh5k2: pop, index. -/
namespace Bh
open PySem PySem.W L2 PyProof.Rows
/-- a tuple, no attribute of its own -/
def tyT (K : Frag) (x : V) (H : Hp) : Prop := ∃ p, x = .ref p ∧ ((∃ o vs, H p = some (.frz o (.tup vs)) ∧ o.dict = none) ∨ ∃ vs, KTup K p vs)
section
variable {X : Cx} {pins : List (Addr × Obj)} {σ : L2.St} {H : Hp} {s : Shared}
theorem tyT_is {x : V} {v : Value} (I : Inv X pins σ H s) (r : RelV x v) (ty : tyT X.K x H) : s.TypeIs v "tuple" ∧ ∀ a, v = .ref a → ∃ ob, s.heap.get? a = some ob ∧ ob.dict = none := by
  obtain ⟨p, rfl, ty⟩ := ty
  cases r
  rcases ty with ⟨o, vs, e, hd⟩ | ⟨vs, o, its, n, h1, h2, h3, _⟩
  · obtain ⟨g, _, its, _, ⟨o2, g2, hc, _⟩⟩ := I.hok p _ e
    rw [g] at g2
    cases g2
    exact ⟨⟨o, g, hc⟩, fun a z => by cases z; exact ⟨o, g, hd⟩⟩
  · exact ⟨⟨o, I.kIn p o h1, h2⟩, fun a z => by cases z; exact ⟨o, I.kIn p o h1, h3⟩⟩
theorem tyT_of {G : Gx} {O : Addr → Prop} {v : V} {ds : List D} (hK : G.K = X.K) (f : FR G H O v (.tup ds)) : tyT X.K v H := by
  cases f with
  | tup e hd n r => exact ⟨_, rfl, .inl ⟨_, _, e, hd⟩⟩
  | tupk k r => exact ⟨_, rfl, .inr ⟨_, hK ▸ k⟩⟩
def tBMT (K : Frag) (r : V → List V → Hp → VK → Prop) (to : TE) (t : TA) : TE := fun σ H Q => to σ H fun x H1 => tyT K x H1 ∧ t σ H1 fun vs H2 => r x vs H2 Q
theorem pe_bmT {o e : Expr} {es : List Expr} {to : TE} {t : TA} {name : Str} {ap cp : Pos} {id : String} {r : V → List V → Hp → VK → Prop} (slot : Slot "tuple" name id) (hty : typeOf (.builtin id) = pure (.type "method_descriptor")) (hm : MtR X id r) (ho : PE X o to) (ha : PA X (e :: es) t)
    (hb : attributeBase o name X.env (eval o X.env) = eval o X.env)
    (hf : ((backTo cp (starEach (e :: es) X.env)).all (fun q => !q.1) && (backToKw cp (keywordEach [] X.env)).all (fun q => q.1.isSome) && decide ((e :: es).length + ([] : List Keyword).length + (if ([] : List Keyword).isEmpty then 0 else 1) < 30)) = true)
    (hl : (ap.endLine == cp.line) = true) (h1 : starEach (e :: es) X.env = (false, eval e X.env) :: starEach es X.env) (h2 : (backTo cp (starEach es X.env)).any (·.1) = false) :
    PE X (.Call (.Attribute o name ap) (e :: es) [] cp) (tBMT X.K r to t) := by
  refine ⟨fun pins s σ H Q I w => wpAny_Call_method_late hb hf hl rfl (thn (ho.run pins s σ H _ I w) fun v s1 ⟨x, H1, J, rx, ty, w1⟩ => ?_)⟩
  obtain ⟨k1, k2⟩ := tyT_is J rx ty
  refine ⟨"tuple", id, PySem.F.plainAttrs_tuple, slot, hty, k1, k2, ?_⟩
  have hA := ha.run cp pins s1 σ H1 _ J w1
  rw [h1] at hA ⊢
  refine Calls.callWith_builtin (by show (false || (backTo cp (starEach es X.env)).any (·.1)) = false; rw [h2]; rfl) (Calls.evalArgs_plain ?_)
  exact thn hA fun us s2 ⟨vs, H2, J2, rv, w2⟩ => hm pins s2 σ H2 x vs v us Q J2 rx rv w2
theorem FRs.last {G : Gx} {O : Addr → Prop} {vs : List V} {ds : List D} {d : D} (f : FRs G H O vs ds) (e : ds.getLast? = some d) : FRs G H O vs.dropLast ds.dropLast ∧ ∃ v, vs[vs.length - 1]? = some v ∧ FR G H O v d := by
  rw [List.dropLast_eq_take, List.dropLast_eq_take, f.length]
  refine ⟨f.take _, ?_⟩
  rw [List.getLast?_eq_getElem?] at e
  exact f.get e
end
section
variable {p : Pr} {N : List Str} {ow : List Nat} {tl : Bool} {sc : Scope} {F : Fm} {k : Nat} {X : Cx} {W : WX} {cf : CF} {tb : Tb} {pos : Pos} {es : Es}
theorem s_pop (C : Cok p N tl sc k X W) {i : Nat} {o : Expr} {ap : Pos} (hi : i ∈ ow) (hc : isCall o = false) (ho : PE X o (tVar i)) (hlp : (ap.endLine == pos.line) = true) :
    PE X (.Call (.Attribute o "pop" ap) [] [] pos) (tE p ow tb cf W (.mm .pop i .nil)) := by
  refine PEimp (pe_bm0 (apos := ap) (cpos := pos) PySem.F.plainAttrs_list PySem.F.slot_list_pop PySem.F.type_list_pop (mt_pop (X := X)) ho (attrBase hc _ _) hlp) fun σ H Q ⟨F, env, ok, I, w⟩ => ?_
  rw [evE] at w
  split at w
  · rename_i xs0 hg
    have hio : i ∈ F.ow := by rw [ok.ow]; exact hi
    obtain ⟨q, hs, ct, _⟩ := I.own i _ hg hio
    cases ct with
    | lst e0 r0 =>
      rename_i ws
      refine ⟨_, hs, .inl ⟨rfl, _, SqL.of e0⟩, ?_⟩
      rw [evEs] at w
      simp only [R.bind, hg, mmD] at w
      cases hl : xs0.getLast? with
      | none =>
        have : popD (.lst xs0) [] = none := by simp only [popD, hl]
        rw [this] at w
        exact w.elim
      | some y =>
        have e1 : popD (.lst xs0) [] = some (y, .lst xs0.dropLast) := by simp only [popD, hl]
        rw [e1] at w
        obtain ⟨r1, v, hv, fv⟩ := r0.last hl
        have hp : OO F σ env q := .inr ⟨i, hio, ⟨_, hg⟩, hs⟩
        have st : Stp H (OO F σ env) (upd H q (.lst ws.dropLast)) (OO F σ env) := ⟨fun a o h _ m => (by rw [upd_ne (fun z => m (by rw [z]; exact hp))]; exact h), fun _ z => .inl z, av_upd fun _ z => nomatch z⟩
        have P2 := I.write (d' := .lst xs0.dropLast) hio hg hs (.lst upd_same (r1.carry st))
        exact ⟨q, ws, v, rfl, rfl, e0, hv, w _ P2 v (VR.old (fv.carry P2.stp))⟩
  · exact w.elim
theorem s_index (C : Cok p N tl sc k X W) {eo : E} {o a : Expr} {ap : Pos} (hl : ∀ i, lateOf eo = some i → i ∈ ow) (hc : isCall o = false) (ho : PE X o (tO p ow tb cf W eo)) (h : PEs X [a] (tOs p ow tb cf W es)) (hn : noLate es = true) (hlp : (ap.endLine == pos.line) = true) :
    PE X (.Call (.Attribute o "index" ap) [a] [] pos) (tE p ow tb cf W (.lm .index eo es)) := by
  have hfew := few_of (pos := pos) h (by show 1 < 30; decide)
  refine PEimp (pe_bm (apos := ap) (cpos := pos) PySem.F.plainAttrs_list PySem.F.slot_list_index PySem.F.type_list_index (mt_idxL C.facts.hK (by have := C.un; omega)) ho h.pa (attrBase hc _ _) (by
    simp only [methodCallForm] at hfew
    simpa [backToKw, keywordEach] using hfew) hlp (h.hd pos).1 (h.hd pos).2) fun σ H Q ⟨F, env, ok, I, w⟩ => ?_
  rw [evE] at w
  show tO p ow tb cf W eo σ H _
  unfold tO
  cases e : lateOf eo with
  | some i =>
    simp only [e] at w
    have hio : i ∈ F.ow := by rw [ok.ow]; exact hl i e
    split at w
    · rename_i xs0 hg
      obtain ⟨q, hs, ct, _⟩ := I.own i _ hg hio
      cases ct with
      | lst e0 r0 =>
        refine ⟨_, hs, .inl ⟨rfl, _, SqL.of e0⟩, ?_⟩
        refine es_run ok es I w.bind fun ds env' H' vs P r w => ?_
        obtain ⟨d, hg2, w1⟩ := w.bind.of
        obtain ⟨r1, er, w2⟩ := (w1 H' (.refl P.fi)).of
        obtain ⟨q2, q1, q3, _⟩ := P.fi.own i d hg2 hio
        rw [hs] at q1; cases q1
        rw [← ok.G]
        exact ⟨OO F σ env', d, ds, r1, P.fi.alive, .inr ⟨_, rfl, q3⟩, r.frs hn, er, rx_of P.fi w2⟩
    · exact w.elim
  | none =>
    simp only [e] at w
    refine ⟨F, env, ok, I, w.bind.imp fun d env0 H0 P0 w1 v hv => ?_⟩
    split at w1
    · rename_i ht
      have f := hv.1
      cases d <;> first | (simp [lmT] at ht; done) | skip
      cases f with
      | lst e1 n1 r0 =>
        refine ⟨.inl ⟨rfl, _, SqL.of e1⟩, es_run ok es P0.fi w1.bind fun ds env' H' vs P r w => ?_⟩
        obtain ⟨r1, er, w2⟩ := w.of
        rw [← ok.G]
        exact ⟨OO F σ env', _, ds, r1, P.fi.alive, .inl (hv.1.carry P.stp), r.frs hn, er, rx_of P.fi w2⟩
    · exact w1.elim
theorem s_indexT (C : Cok p N tl sc k X W) {eo : E} {o a : Expr} {ap : Pos} (hl : lateOf eo = none) (hc : isCall o = false) (ho : PE X o (tE p ow tb cf W eo)) (h : PEs X [a] (tOs p ow tb cf W es)) (hn : noLate es = true) (hlp : (ap.endLine == pos.line) = true) :
    PE X (.Call (.Attribute o "index" ap) [a] [] pos) (tE p ow tb cf W (.lm .indexT eo es)) := by
  have hfew := few_of (pos := pos) h (by show 1 < 30; decide)
  refine PEimp (pe_bmT (ap := ap) (cp := pos) PySem.F.slot_tuple_index PySem.F.type_tuple_index (mt_idxT C.facts.hK (by have := C.un; omega)) ho h.pa (attrBase hc _ _) (by
    simp only [methodCallForm] at hfew
    simpa [backToKw, keywordEach] using hfew) hlp (h.hd pos).1 (h.hd pos).2) fun σ H Q ⟨F, env, ok, I, w⟩ => ?_
  rw [evE] at w
  simp only [hl] at w
  refine ⟨F, env, ok, I, w.bind.imp fun d env0 H0 P0 w1 v hv => ?_⟩
  split at w1
  · rename_i ht
    cases d <;> first | (simp [lmT] at ht; done) | skip
    have hK : F.G.K = X.K := by rw [ok.G]; exact C.facts.hK
    refine ⟨tyT_of hK hv.1, es_run ok es P0.fi w1.bind fun ds env' H' vs P r w => ?_⟩
    obtain ⟨r1, er, w2⟩ := w.of
    rw [← ok.G]
    exact ⟨OO F σ env', _, ds, r1, P.fi.alive, .inl (hv.1.carry P.stp), r.frs hn, er, rx_of P.fi w2⟩
  · exact w1.elim
end
end Bh
/-! text Bh5l -/
set_option Elab.async false
set_option linter.all false
set_option maxRecDepth 100000
set_option maxHeartbeats 1000000
/-! Bh5l: told lambdas. -/
namespace Bh
open PySem PySem.W L2 PyProof.Rows
section
variable {p : Pr} {N : List Str} {ow : List Nat} {tl : Bool} {sc : Scope} {F : Fm} {k : Nat} {X : Cx} {W : WX} {cf : CF} {tb : Tb} {pos : Pos} {es : Es}
theorem FI.extN {σ : L2.St} {H H1 : Hp} {env : Env} (I : FI F σ H env) (e : LamX.ExtN H H1) (t : LamX.Tabs F.T H1) : Post F σ H env H1 env := by
  have dm : ∀ a, Av H a → Av H1 a := fun a ⟨o, h, n⟩ => ⟨o, e a o h n, n⟩
  have st : Stp H (OO F σ env) H1 (OO F σ env) := ⟨fun a o h n _ => e a o h n, fun _ z => .inl z, dm⟩
  refine ⟨⟨I.len, fun i d h m => ?_, fun i d h m => ?_, I.dist, fun a o h n m => e a o (I.kp a o h n m) m, fun a z => dm a (I.live a z), I.ip, I.live0, I.oe, fun a h => dm a (I.sub a h), t, fun q hq => (I.ex q hq).carry st⟩, st, fun _ z => z, fun a o h _ n => e a o h n⟩
  · obtain ⟨v, a, b⟩ := I.fr i d h m
    exact ⟨v, a, b.carry st⟩
  · obtain ⟨q, a, b, c⟩ := I.own i d h m
    obtain ⟨o, ho, hn⟩ := b.av
    exact ⟨q, a, b.carry st ((e q o ho hn).trans ho.symm), c⟩
/-- which text is told -/
def wT (K : Frag) : List (Value × Str) → Value → (Str → Prop) → Prop
  | [], _, _ => False
  | (c, ret) :: r, cls, k => ∃ b, exmOne K cls c = some b ∧ (b = true → k ret) ∧ (b = false → wT K r cls k)
def TTm (K : Frag) (hs : List (Value × Str)) : (XK → Hp → VK → Prop) → Hp → VK → Prop := fun tl H Q => tl (fun cls _ H' => wT K hs cls fun r => Q (.str r) H') H Q
/-- the clauses -/
inductive Hds (sg : Scope) (mg : Str → Option Value) : List ExceptHandler → List (Value × Str) → Prop
  | nil : Hds sg mg [] []
  | cons {e ret : Str} {c : Value} {j : Nat} {p4 p5 p6 p7 : Pos} {hds : List ExceptHandler} {l : List (Value × Str)} (hge : sg.names.lookup e = some .globalImplicit) (hme : mg e = some c) (hde : (e == ("__debug__" : Str)) = false) (r : Hds sg mg hds l) :
      Hds sg mg (.ExceptHandler (some (.Name e p4)) none [.Return (some (.Constant (.str ret) j p5)) p6] p7 :: hds) ((c, ret) :: l)
theorem wT_many {K : Frag} {Wout : WX} {D : Ends} {cls : Value} {d : Option Addr} {σ : L2.St} {H : Hp} : ∀ {hs : List (Value × Str)}, wT K hs cls (fun r => D.rt (.str r) H) → wMany K Wout D (hs.map fun q => (q.1, fun _ _ _ => tRet (tC (.str q.2)))) cls d σ H
  | [], h => h.elim
  | (c, ret) :: r, ⟨b, h1, h2, h3⟩ => ⟨b, h1, fun hb a _ => h2 hb, fun hb => wT_many (h3 hb)⟩
theorem told_many {Ng : List Str} {x a q : Str} {sg : Scope} {g : Addr} {cdg : Value} {h0 : ExceptHandler} {hds : List ExceptHandler} {c0 : Value × Str} {hs : List (Value × Str)} {p1 p2 p3 p8 : Pos} (hh : Hds sg X.mg (h0 :: hds) (c0 :: hs)) (hz : ∀ f : Addr, (L2.start Ng [V.ref f])[0]? = some (some (V.ref f))) :
    LamX.GivesTo X Ng x sg g cdg [.Try [.Return (some (.Call (.Name a p1) [] [] p2)) p3] (h0 :: hds) [] [] p8] a q (TTm X.K (c0 :: hs)) := by
  intro f c' s H Q tl act hc h
  have hok : ∀ {hd : List ExceptHandler} {l : List (Value × Str)}, Hds sg X.mg hd l → HdsOk (cxOf C8.CX0 X.prog X.w X.K X.mg X.base Ng x sg g cdg X.A X.stack s H C8.E0).nox hd (l.map fun q => (q.1, fun _ _ _ => tRet (tC (.str q.2)))) := by
    intro hd l hh
    induction hh with
    | nil => exact .nil
    | cons hge hme hde r ih => exact .cons ⟨hge, hde, .inl hme⟩ (fun a oe cls d pn _ _ => pss_one (ps_ret pe_str)) ih
  refine ⟨_, pss_one (ps_try_many (X := (cxOf C8.CX0 X.prog X.w X.K X.mg X.base Ng x sg g cdg X.A X.stack s H C8.E0).nox) (Wout := fun _ _ _ _ => False)
      (tb := fun W D σ H => ∃ Ech : XK, (∀ cls d σ' H', Ech cls d H' → W cls d σ' H') ∧ σ[0]? = some (some (.ref f)) ∧ H c' = some (LamX.CodeO c' q) ∧ tl Ech H D.rt)
      rfl rfl LamX.takes0 (fun W pn xe tk _ => ?_) (hok hh)), ?_⟩
  · refine ⟨fun pins s' σ H' D I h' => ?_⟩
    obtain ⟨Ech, hW, h1, h2, h3⟩ := h'
    have hp := act W pn xe Ech p1 p2 tk hW
    have hq := pss_one (ps_ret (pos := p3) hp)
    exact hq.run pins s' σ H' D I ⟨h1, h2, h3⟩
  · exact ⟨fun cls _ H' => wT X.K (c0 :: hs) cls fun r => Q (.str r) H', fun cls d σ' H' w => wT_many w, hz f, hc, h⟩
/-- the def that tells: where it stands, what it catches -/
structure ToldAt (p : Pr) (K : Frag) (mg : Str → Option Value) (x : Str) : Prop where
  ex : ∃ (g : Addr) (a : Str) (pg : Arguments) (sg : Scope) (dV kV doc pm cdv ct oc : Value) (an od : Option Addr) (osl : Array (Option Value)) (Ng : List Str) (h0 : ExceptHandler) (hds : List ExceptHandler) (c0 : Value × Str) (hs : List (Value × Str)) (p1 p2 p3 p8 : Pos),
    mg x = some (.ref g) ∧ keepIn K (.ref g) = true ∧ K.lookup g = some ⟨oc, od, .func (fnOf x x pg [.Try [.Return (some (.Call (.Name a p1) [] [] p2)) p3] (h0 :: hds) [] [] p8] sg dV kV doc pm an cdv ct), osl⟩ ∧ codeIn K cdv x = true ∧
    L2.Binds K (fnOf x x pg [.Try [.Return (some (.Call (.Name a p1) [] [] p2)) p3] (h0 :: hds) [] [] p8] sg dV kV doc pm an cdv ct) [a] [] ∧ FnScope Ng [a] sg ∧ Ng[0]? = some a ∧ Vis sg a ∧ Hds sg mg (h0 :: hds) (c0 :: hs) ∧ plainName a = true ∧
    ∀ c d, p.pg.tb.told c = some d → ∃ s, d = .str s ∧ ∀ k : Str → Prop, k (kStr s) → wT K (c0 :: hs) (.ref (p.G.ca c)) k
theorem start0 {Ng : List Str} {a : Str} (h : Ng[0]? = some a) (f : Addr) : (L2.start Ng [V.ref f])[0]? = some (some (V.ref f)) := by
  unfold L2.start
  cases Ng with
  | nil => cases h
  | cons x xs => rfl
theorem s_told (C : Cok p N tl sc k X W) {x : Str} {e : E} {params : Arguments} {body : Expr} {scope : Scope} {lpos q : Pos} (T : ToldAt p X.K X.mg x) (hg : gloB sc x = true) (hx : plainName x = true) (htl : tl = true) (hL : LamX.lamSB sc scope = true)
    (hdef : ∀ env, defaultsOf params env = ([], [])) (hbind : ∀ (q : Str) (cl : List (Str × Addr)) (pm cv ctv : Value), bindArgs (kla_fn "<lambda>" q params body scope cl pm cv ctv) ⟨[], []⟩ = pure [])
    (hbody : ∀ (k' : Nat), k = k' + 2 → ∀ (A : Around) (outer : List PySem.Env) (s : Shared) (H : Hp) (E : XK) (f c' : Addr), Room k' (A.deeper (LamX.lamEnv X scope s.heap.objs.size f c')) → PE (LamX.lamCx X A outer s H E scope f c') body (tE p ow p.pg.tb (lev p.pg k') (fun cls d _ H => E cls d H) e)) :
    PE X (.Call (.Name x q) [.Lambda params body scope lpos] [] pos) (tE p ow p.pg.tb (lev p.pg k) W (.told e)) := by
  cases k with
  | zero =>
    refine PEimp (t := fun _ _ _ => False) ⟨fun _ _ _ _ _ _ h => h.elim⟩ fun σ H Q ⟨F, env, ok, I, w⟩ => ?_
    rw [evE] at w
    split at w
    · rename_i h; rw [lev_lv] at h; omega
    · exact w
  | succ k1 =>
    cases k1 with
    | zero =>
      refine PEimp (t := fun _ _ _ => False) ⟨fun _ _ _ _ _ _ h => h.elim⟩ fun σ H Q ⟨F, env, ok, I, w⟩ => ?_
      rw [evE] at w
      split at w
      · rename_i h; rw [lev_lv] at h; omega
      · exact w
    | succ k' =>
      obtain ⟨g, a, pg, sg, dV, kV, doc, pm, cdv, ct, oc, an, od, osl, Ng, h0, hds, c0, hs, p1, p2, p3, p8, t1, t2, t3, t4, t5, t6, t7, t8, t9, ta, t10⟩ := T.ex
      simp only [plainName, Bool.and_eq_true, Bool.not_eq_true'] at ta
      obtain ⟨c, P, ql, hql, TB, hcode, hmT, hu⟩ := C.lam htl
      subst hql
      simp only [plainName, Bool.and_eq_true, Bool.not_eq_true'] at hx
      have L : LamX.LamS X.env.scope scope := by rw [C.scope]; exact LamX.lamS_by hL
      refine PEimp (LamX.pe_lamcall (T := p.T) (TT := TTm X.K (c0 :: hs)) (k := k') (t := fun E => tE p ow p.pg.tb (lev p.pg k') (fun cls d _ H => E cls d H) e) (C.gl hg) t1 t2 t3 t4 t5 t6 t7 t8 (told_many t9 (start0 t7)) TB hcode hmT hu C.room L (hdef _) hbind
        (fun A outer s H E f c' hr => hbody k' rfl A outer s H E f c' hr) hx.1.1 (hd := ta.1.1) (hcd := ta.1.2)) fun σ H Q ⟨F, env, ok, I, w⟩ => ⟨by rw [← ok.T]; exact I.tabs, fun H1 ex tt => ?_⟩
      have P1 := I.extN ex (by rw [ok.T]; exact tt)
      refine ⟨F, env, ok, P1.fi, ?_⟩
      rw [evE] at w
      split at w
      · rw [lev_low] at w
        cases hev : evE p.pg.tb (lev p.pg k') e env with
        | err => rw [hev] at w; exact w.elim
        | ok d env' =>
          rw [hev] at w
          exact fun H' P v hv => w H' (P1.trans P) v hv.weak
        | exc cx env' =>
          rw [hev] at w
          intro dx H' P
          cases ht : p.pg.tb.told cx with
          | none => simp only [ht] at w; exact w.elim
          | some d =>
            simp only [ht] at w
            obtain ⟨s, rfl, hw⟩ := t10 cx d ht
            rw [ok.G]
            exact hw _ (w H' (P1.trans P) (.str (kStr s)) (VR.old (.str s)))
      · exact w.elim
end
end Bh
/-! text Bh5m -/
set_option Elab.async false
set_option linter.all false
set_option maxRecDepth 100000
set_option maxHeartbeats 1000000
/-! Bh5m: statements. -/
namespace Bh
open PySem PySem.W L2 PyProof.Rows
/-- what is handed back -/
def RET (F : Fm) (fr : Bool) (H : Hp) (env : Env) (v : V) (d : D) : Prop := FR F.G H F.Oe v d ∧ (fr = true → kindOf d = 1 ∨ kindOf d = 2 → ∃ q, v = .ref q ∧ ¬ Av F.H0 q ∧ Cont F.G H (fun a => F.Oe a ∨ a = q) q d ∧
  ∀ j b, (j, b) ∈ F.Ip → ∀ e, env.get j = some e → Cont F.G H (fun a => F.Oe a ∨ a = q) b e)
def OW (F : Fm) (fr : Bool) (W : WX) (D : Ends) : O → Prop
  | .nx env => ∀ σ H, FI F σ H env → D.nx σ H
  | .ret d env => ∀ v σ H, FI F σ H env → RET F fr H env v d → D.rt v H
  | .brk env => ∀ σ H, FI F σ H env → D.bk σ H
  | .cont env => ∀ σ H, FI F σ H env → D.ct σ H
  | .exc c env => ∀ dx σ H, FI F σ H env → W (.ref (F.G.ca c)) dx σ H
  | .err => False
structure SOk (p : Pr) (ow io : List Nat) (F : Fm) : Prop where
  ok : FOk p ow F
  ox : F.Ox = F.Oe
  ip : ∀ q ∈ F.Ip, q.1 ∈ io
def tS (p : Pr) (ow io : List Nat) (fr : Bool) (W : WX) (s : Env → O) : TS := fun D σ H => ∃ F env, SOk p ow io F ∧ FI F σ H env ∧ OW F fr W D (s env)
theorem PSimp {X : Cx} {st : Stmt} {t t' : TS} (h : PS X st t) (q : ∀ D σ H, t' D σ H → t D σ H) : PS X st t' := ⟨fun pins s σ H D I z => h.run pins s σ H D I (q D σ H z)⟩
theorem PSsimp {X : Cx} {st : List Stmt} {t t' : TS} (h : PSs X st t) (q : ∀ D σ H, t' D σ H → t D σ H) : PSs X st t' := ⟨fun pins s σ H D I z => h.run pins s σ H D I (q D σ H z)⟩
section
variable {p : Pr} {N : List Str} {ow io : List Nat} {tl fr : Bool} {sc : Scope} {F : Fm} {k : Nat} {X : Cx} {W : WX} {cf : CF} {tb : Tb} {pos : Pos} {es : Es}
variable {σ : L2.St} {H : Hp} {env : Env} {D : Ends}
/-- an expression's result taken up by a statement -/
theorem ow_wish {r : R Bh.D} {kk : Bh.D → Env → O} (I : FI F σ H env) (h : OW F fr W D (r.o kk)) : Wish F W σ H env r fun d env' H' => OW F fr W D (kk d env') := by
  cases r with
  | ok d e => exact fun H' P => h
  | exc c e => exact fun dx H' P => h dx σ H' P.fi
  | err => exact h
theorem ss_nil : PSs X [] (tS p ow io fr W (evSs tb cf [])) := PSsimp pss_nil fun D σ H ⟨F, env, ok, I, w⟩ => w σ H I
theorem ss_cons {s : S} {ss : List S} {st : Stmt} {sts : List Stmt} (h1 : PS X st (tS p ow io fr W (evS tb cf s))) (h2 : PSs X sts (tS p ow io fr W (evSs tb cf ss))) : PSs X (st :: sts) (tS p ow io fr W (evSs tb cf (s :: ss))) := by
  refine PSsimp (pss_cons h1 h2) fun D σ H ⟨F, env, ok, I, w⟩ => ⟨F, env, ok, I, ?_⟩
  rw [evSs] at w
  cases e : evS tb cf s env with
  | nx env' => rw [e] at w; exact fun σ' H' I' => ⟨F, env', ok, I', w⟩
  | ret d env' => rw [e] at w; exact w
  | brk env' => rw [e] at w; exact w
  | cont env' => rw [e] at w; exact w
  | exc c env' => rw [e] at w; exact w
  | err => rw [e] at w; exact w
/-- name = value, as it runs -/
def AsgN (p : Pr) (ow : List Nat) (tb : Tb) (cf : CF) (W : WX) (X : Cx) (st : Stmt) (i : Nat) (e : E) : Prop := PS X st (tAsg (tE p ow tb cf W e) (gName i))
theorem r_set {i : Nat} {e : E} {st : Stmt} (h : AsgN p ow tb cf W X st i e) (hi : i ∉ ow) : PS X st (tS p ow io fr W (evS tb cf (.set i e))) := by
  refine ⟨fun pins s σ H D Iv ⟨F, env, ok, I, w⟩ => h.run pins s σ H D Iv ⟨F, env, ok.ok, I, ?_⟩⟩
  rw [evS] at w
  refine (ow_wish I w).imp fun d env' H' P w v r => ?_
  exact w _ H' (set_one P.fi (by rw [ok.ok.ow]; exact hi) r.1).1
theorem h0_of (I : FI F σ H env) {H' : Hp} {q : Addr} (h : ¬ Av H q) : ¬ Av F.H0 q := fun z => h (I.sub q z)
theorem r_thaw {i : Nat} {e : E} {st : Stmt} (h : AsgN p ow tb cf W X st i e) (hi : i ∈ ow) (hio : i ∉ io) (hl : i < N.length) (hN : X.N = N) : PS X st (tS p ow io fr W (evS tb cf (.thaw i e))) := by
  refine ⟨fun pins s σ H D Iv ⟨F, env, ok, I, w⟩ => h.run pins s σ H D Iv ⟨F, env, ok.ok, I, ?_⟩⟩
  rw [evS] at w
  refine (ow_wish I w).imp fun d env' H' P w v r => ?_
  have hlen : i < env'.length := by rw [P.fi.len, Iv.len, hN]; exact hl
  unfold setO at w
  split at w
  · exact w.elim
  · rename_i hc
    simp only [Bool.true_and, Bool.not_eq_true', Bool.not_eq_false, Bool.and_eq_true, beq_eq_false_iff_ne] at hc
    obtain ⟨q, rfl, hq, nO, cq, Iq⟩ := r.2 hc.1 hc.2
    exact w _ H' (Iq.thaw ok.ok.oe (by rw [ok.ok.ow]; exact hi) hlen (fun b hb z => hio (z ▸ ok.ip b hb)) nO (fun z => hq (I.sub q z)) cq)
def isComp : Expr → Bool
  | .ListComp _ _ _ _ => true
  | .SetComp _ _ _ _ => true
  | .DictComp _ _ _ _ _ => true
  | _ => false
theorem no_swap {e : Expr} (h : isComp e = false) (t : Option Expr) (l : Nat) (env : PySem.Env) : swapsWith e t l env = pure false := by
  cases e <;> first | rfl | (simp [isComp] at h)
theorem asg_plain (C : Cok p N tl sc k X W) (S : Sets N sc X) {i : Nat} {e : E} {ex : Expr} {tg : Expr} (ht : tgtIs N sc i tg = true) (he : PE X ex (tE p ow tb cf W e)) (hc : isComp ex = false) : AsgN p ow tb cf W X (.Assign [tg] ex pos) i e := by
  unfold tgtIs at ht
  split at ht
  · simp only [Bool.and_eq_true, decide_eq_true_eq] at ht
    have hl := locB_loc ht.2
    exact PSimp (ps_set C.nd (by rw [C.nm]; exact ht.1) (S.st _ hl).1 he (no_swap hc _ _ _) (S.st _ hl).2) fun D σ H h => h
  · cases ht
theorem r_expr {e : E} {ex : Expr} (he : PE X ex (tE p ow tb cf W e)) (hc : isComp ex = false) : PS X (.Expr ex pos) (tS p ow io fr W (evS tb cf (.expr e))) := by
  refine PSimp (ps_expr he (no_swap hc _ _ _)) fun D σ H ⟨F, env, ok, I, w⟩ => ⟨F, env, ok.ok, I, ?_⟩
  rw [evS] at w
  exact (ow_wish I w).imp fun d env' H' P w v r => w σ H' P.fi
theorem r_pass : PS X (.Pass pos) (tS p ow io fr W (evS tb cf .pass)) := PSimp ps_pass fun D σ H ⟨F, env, ok, I, w⟩ => by rw [evS] at w; exact w σ H I
theorem r_brk : PS X (.Break pos) (tS p ow io fr W (evS tb cf .brk)) := PSimp ps_break fun D σ H ⟨F, env, ok, I, w⟩ => by rw [evS] at w; exact w σ H I
theorem r_cont : PS X (.Continue pos) (tS p ow io fr W (evS tb cf .cont)) := PSimp ps_continue fun D σ H ⟨F, env, ok, I, w⟩ => by rw [evS] at w; exact w σ H I
theorem fr_oe (I : FI F σ H env) {v : V} {d : Bh.D} (f : FR F.G H (OO F σ env) v d) : FR F.G H F.Oe v d := f.carry (.mono fun a z => .inl (I.oe a z))
theorem r_ret {e : E} {ex : Expr} (he : PE X ex (tE p ow tb cf W e)) (hf : fr = true → isNew tb e 1 = true ∧ isNew tb e 2 = true) : PS X (.Return (some ex) pos) (tS p ow io fr W (evS tb cf (.ret e))) := by
  refine PSimp (ps_ret he) fun D σ H ⟨F, env, ok, I, w⟩ => ⟨F, env, ok.ok, I, ?_⟩
  rw [evS] at w
  refine (ow_wish I w).imp fun d env' H' P w v r => w v σ H' P.fi ⟨fr_oe P.fi r.1, fun h1 h2 => ?_⟩
  have hn : isNew tb e (kindOf d) = true := by
    rcases h2 with h | h
    · rw [h]; exact (hf h1).1
    · rw [h]; exact (hf h1).2
  obtain ⟨q, rfl, hq, nO, cq, Iq⟩ := r.2 hn (by rcases h2 with h | h <;> omega)
  have mo : ∀ a, (F.Oe a ∨ a = q) → OO (F.guard q) σ env' a := fun a z => (guard_oo a).mpr (z.imp (fun y => .inl (P.fi.oe a y)) id)
  refine ⟨q, rfl, fun z => hq (I.sub q z), cq.carry (.mono mo) rfl, fun j b hb e he => ?_⟩
  obtain ⟨i1, i2, i3, i4⟩ := Iq.ip (j, b) hb
  obtain ⟨b', h1, h2', _⟩ := Iq.own j e he i1
  rw [i3] at h1
  cases h1
  exact h2'.carry (.mono mo) rfl
theorem r_retO {i : Nat} {ex : Expr} (he : PE X ex (tVar i)) (hi : i ∈ ow) (hio : i ∉ io) : PS X (.Return (some ex) pos) (tS p ow io fr W (evS tb cf (.retO i))) := by
  refine PSimp (ps_ret he) fun D σ H ⟨F, env, ok, I, w⟩ => ?_
  rw [evS] at w
  obtain ⟨d, hg, w⟩ := (ow_wish I w).of
  have hio' : i ∈ F.ow := by rw [ok.ok.ow]; exact hi
  obtain ⟨q, hs, c, h0⟩ := I.own i d hg hio'
  have n0 : ¬ Av F.H0 q := by
    rcases h0 with ⟨j, hj⟩ | h0
    · obtain ⟨i1, i2, i3, i4⟩ := I.ip (j, q) hj
      have := I.dist i j q hio' i1 ⟨d, hg⟩ i4 hs i3
      exact (hio (this ▸ ok.ip (j, q) hj)).elim
    · exact h0
  have nOe : ¬ F.Oe q := fun z => n0 (I.live0 q z)
  have mo : ∀ a, (F.Oe a ∨ a = q) → OO F σ env a := fun a z => z.elim (fun y => .inl (I.oe a y)) fun y => .inr ⟨i, hio', ⟨d, hg⟩, y ▸ hs⟩
  refine ⟨_, hs, w H (.refl I) (.ref q) σ H I ⟨(c.carry (.mono fun a z => .inl (I.oe a z)) rfl).fr nOe, fun _ _ => ⟨q, rfl, n0, c.carry (.mono mo) rfl, fun j b hb e he => ?_⟩⟩⟩
  obtain ⟨i1, i2, i3, i4⟩ := I.ip (j, b) hb
  obtain ⟨b', h1, h2', _⟩ := I.own j e he i1
  rw [i3] at h1
  cases h1
  exact h2'.carry (.mono mo) rfl
theorem r_ite {e : E} {c : Expr} {a b : List S} {sa sb : List Stmt} (hc : PT X c (tT p ow tb cf W e)) (ha : PSs X sa (tS p ow io fr W (evSs tb cf a))) (hb : PSs X sb (tS p ow io fr W (evSs tb cf b))) : PS X (.If c sa sb pos) (tS p ow io fr W (evS tb cf (.ite e a b))) := by
  refine PSimp (ps_if hc ha hb) fun D σ H ⟨F, env, ok, I, w⟩ => ⟨F, env, ok.ok, I, ?_⟩
  rw [evS] at w
  refine (ow_wish I w).imp fun d env' H' P w => ?_
  cases d with
  | bl q =>
    refine ⟨q, rfl, ?_⟩
    cases q with
    | true => rw [if_pos rfl]; exact ⟨F, env', ok, P.fi, w⟩
    | false => rw [if_neg (by decide)]; exact ⟨F, env', ok, P.fi, w⟩
  | _ => exact w.elim
theorem r_while {n : Nat} {e : E} {c : Expr} {b : List S} {sb : List Stmt} (hp : PassesOwn (model X.prog X.w) X.A X.env X.xe) (hc : PT X c (tT p ow tb cf W e)) (hb : PSs X sb (tS p ow io fr W (evSs tb cf b))) : PS X (.While c sb [] pos) (tS p ow io fr W (evS tb cf (.whil n e b))) := by
  refine PSimp (ps_while hp hc hb) fun D σ H ⟨F, env, ok, I, w⟩ => ?_
  rw [evS] at w
  refine ⟨fun m σ H => ∃ env, FI F σ H env ∧ OW F fr W D (whileL (evE tb cf e) (evSs tb cf b) m env), ⟨n, env, I, w⟩, fun m σ H ⟨env, I, w⟩ => ?_⟩
  cases m with
  | zero => exact w.elim
  | succ m =>
    rw [whileL] at w
    refine ⟨F, env, ok.ok, I, (ow_wish I w).imp fun d env' H' P w => ?_⟩
    cases d with
    | bl q =>
      refine ⟨q, rfl, ?_⟩
      cases q with
      | false => rw [if_neg (by decide)]; exact w σ H' P.fi
      | true =>
        rw [if_pos rfl]
        refine ⟨fun σ' H' => ∃ env, FI F σ' H' env ∧ OW F fr W D (whileL (evE tb cf e) (evSs tb cf b) m env), fun σ' H' h => ⟨m, Nat.lt_succ_self m, h⟩, F, env', ok, P.fi, ?_⟩
        cases hb : evSs tb cf b env' with
        | nx e1 => simp only [hb] at w; exact fun σ' H' I' => ⟨e1, I', w⟩
        | cont e1 => simp only [hb] at w; exact fun σ' H' I' => ⟨e1, I', w⟩
        | brk e1 => simp only [hb] at w; exact w
        | ret d e1 => simp only [hb] at w; exact w
        | exc c e1 => simp only [hb] at w; exact w
        | err => simp only [hb] at w; exact w
    | _ => exact w.elim
/-- the frame with a datum that is walked -/
def Fm.walk (F : Fm) (pv : Option (V × Bh.D)) : Fm := match pv with
  | none => F
  | some q => { F with Ex := q :: F.Ex }
theorem walk_fi {pv : Option (V × Bh.D)} (I : FI F σ H env) (h : AnP F.G pv H (OO F σ env)) : FI (F.walk pv) σ H env := by
  cases pv with
  | none => exact I
  | some q => exact ⟨I.len, I.fr, I.own, I.dist, I.kp, I.live, I.ip, I.live0, I.oe, I.sub, I.tabs, fun r hr => by
      rcases List.mem_cons.mp hr with hr | hr
      · rw [hr]; exact h
      · exact I.ex r hr⟩
theorem walk_out {pv : Option (V × Bh.D)} (I : FI (F.walk pv) σ H env) : FI F σ H env ∧ AnP F.G pv H (OO F σ env) := by
  cases pv with
  | none => exact ⟨I, trivial⟩
  | some q => exact ⟨⟨I.len, I.fr, I.own, I.dist, I.kp, I.live, I.ip, I.live0, I.oe, I.sub, I.tabs, fun r hr => I.ex r (List.mem_cons_of_mem _ hr)⟩, I.ex q List.mem_cons_self⟩
theorem walk_ow {pv : Option (V × Bh.D)} {o : O} (h : OW F fr W D o) : OW (F.walk pv) fr W D o := by
  cases pv with
  | none => exact h
  | some q =>
    cases o with
    | nx e => exact fun σ H I => h σ H (walk_out (pv := some q) I).1
    | ret d e => exact fun v σ H I r => h v σ H (walk_out (pv := some q) I).1 r
    | brk e => exact fun σ H I => h σ H (walk_out (pv := some q) I).1
    | cont e => exact fun σ H I => h σ H (walk_out (pv := some q) I).1
    | exc c e => exact fun dx σ H I => h dx σ H (walk_out (pv := some q) I).1
    | err => exact h
theorem walk_ok {pv : Option (V × Bh.D)} (k : SOk p ow io F) : SOk p ow io (F.walk pv) := by
  cases pv with
  | none => exact k
  | some q => exact ⟨⟨k.ok.ow, k.ok.G, k.ok.T, k.ok.oe⟩, k.ox, k.ip⟩
theorem walk_G {pv : Option (V × Bh.D)} : (F.walk pv).G = F.G ∧ (F.walk pv).ow = F.ow ∧ ∀ σ env, OO (F.walk pv) σ env = OO F σ env := by
  cases pv with
  | none => exact ⟨rfl, rfl, fun _ _ => rfl⟩
  | some q => exact ⟨rfl, rfl, fun _ _ => rfl⟩
theorem ow_wishI {r : R (List Bh.D)} {kk : List Bh.D → Env → O} (I : FI F σ H env) (h : OW F fr W D (r.o kk)) : Wish F W σ H env r fun d env' H' => OW F fr W D (kk d env') := by
  cases r with
  | ok d e => exact fun H' P => h
  | exc c e => exact fun dx H' P => h dx σ H' P.fi
  | err => exact h
theorem r_for (C : Cok p N tl sc k X W) (S : Sets N sc X) {t : T} {it : It} {tg iter : Expr} {b : List Bh.S} {sb : List Stmt} (hp : PassesOwn (model X.prog X.w) X.A X.env X.xe) (hi : PI X tg iter (tI p ow tb cf W it)) (ht : mT N sc t tg = true) (hb : PSs X sb (tS p ow io fr W (evSs tb cf b)))
    (hs : isSetE iter = false) (ho : ∀ i ∈ t.slots, i ∉ ow) : PS X (.For tg iter sb [] pos) (tS p ow io fr W (evS tb cf (.fors t it b))) := by
  refine ⟨fun pins s σ H D Iv ⟨F, env, ok, I, w⟩ => (ps_for hp C.calm hi (pg_T S ht) hb (fun x => folded hs _ x)).run pins s σ H D Iv ?_⟩
  have hK : F.G.K = X.K := by rw [ok.ok.G]; exact C.facts.hK
  rw [evS] at w
  refine ⟨F, env, ok.ok, I, (ow_wishI I w).imp fun ds env' H' P w J pv hJ hA => ?_⟩
  refine ⟨fun i m σ H => m = ds.length - i ∧ i ≤ ds.length ∧ ∃ env, FI (F.walk pv) σ H env ∧ OW F fr W D (forL t (evSs tb cf b) (ds.drop i) env), ⟨_, rfl, Nat.zero_le _, env', walk_fi P.fi hA, w⟩, fun i m σ H ⟨hm, hi, env, I, w⟩ => ?_⟩
  obtain ⟨I0, hA⟩ := walk_out I
  by_cases he : i = ds.length
  · subst he
    rw [List.drop_length, forL] at w
    exact .inl ⟨hJ.stop hA, w σ H I0⟩
  · have hlt : i < ds.length := by omega
    have hx : ds[i]? = some ds[i] := List.getElem?_eq_getElem hlt
    rw [List.drop_eq_getElem_cons hlt, forL] at w
    refine .inr ⟨(hJ.go I0.alive hA hx).1, fun σ H => ∃ env, FI (F.walk pv) σ H env ∧ OW F fr W D (forL t (evSs tb cf b) (ds.drop (i + 1)) env), fun σ' H' h => ⟨ds.length - (i + 1), by omega, rfl, by omega, h⟩, fun x H' hy => ?_⟩
    obtain ⟨ex, fx⟩ := (hJ.go I0.alive hA hx).2 x H' hy
    have I := I.ext ex
    cases hbd : bindT t ds[i] env with
    | none => simp only [hbd] at w; exact w.elim
    | some env1 =>
      simp only [hbd] at w
      obtain ⟨g1, g2, g3⟩ := walk_G (F := F) (pv := pv)
      refine tG_run (F := F.walk pv) (X := X) (by rw [g1]; exact hK) I (by rw [g1, g3]; exact fx) hbd (fun j hj => by rw [g2, ok.ok.ow]; exact ho j hj) fun σ2 I2 so oo wo => ?_
      refine ⟨F.walk pv, env1, walk_ok ok, I2, ?_⟩
      cases hb : evSs tb cf b env1 with
      | nx e1 => simp only [hb] at w; exact fun σ' H' I' => ⟨e1, I', w⟩
      | cont e1 => simp only [hb] at w; exact fun σ' H' I' => ⟨e1, I', w⟩
      | brk e1 => simp only [hb] at w; exact walk_ow (o := .nx e1) w
      | ret d e1 => simp only [hb] at w; exact walk_ow (o := .ret d e1) w
      | exc c e1 => simp only [hb] at w; exact walk_ow (o := .exc c e1) w
      | err => simp only [hb] at w; exact w
end
end Bh
/-! text Bh5n -/
set_option Elab.async false
set_option linter.all false
set_option maxRecDepth 100000
set_option maxHeartbeats 1000000
/-! Bh5n: more statements. -/
namespace Bh
open PySem PySem.W L2 PyProof.Rows
def isTupE : Expr → Bool
  | .Tuple _ _ _ => true
  | _ => false
section
variable {p : Pr} {N : List Str} {ow io : List Nat} {tl fr : Bool} {sc : Scope} {F : Fm} {k : Nat} {X : Cx} {W : WX} {cf : CF} {tb : Tb} {pos : Pos} {es : Es}
variable {σ : L2.St} {H : Hp} {env : Env} {D : Ends}
theorem r_bind (C : Cok p N tl sc k X W) (S : Sets N sc X) {is : List Nat} {e : E} {ex tg : Expr} (ht : mT N sc (.many is) tg = true) (he : PE X ex (tE p ow tb cf W e)) (hc : isTupE ex = false) (ho : ∀ i ∈ is, i ∉ ow) : PS X (.Assign [tg] ex pos) (tS p ow io fr W (evS tb cf (.bind is e))) := by
  have hg := pg_T S ht
  unfold mT at ht
  split at ht
  · rename_i h; cases h
  · rename_i es k1 p1 h
    cases h
    have h1 : swapsWithSole [.Tuple es k1 p1] ex pos.line X.env = pure false := by cases ex <;> rfl
    have h2 : swappedStores [.Tuple es k1 p1] ex X.env = pure none := by cases ex <;> first | rfl | (simp [isTupE] at hc)
    refine PSimp (ps_asg he hg h1 h2 rfl) fun D σ H ⟨F, env, ok, I, w⟩ => ⟨F, env, ok.ok, I, ?_⟩
    have hK : F.G.K = X.K := by rw [ok.ok.G]; exact C.facts.hK
    rw [evS] at w
    refine (ow_wish I w).imp fun d env' H' P w v r => ?_
    cases hb : bindT (.many is) d env' with
    | none => simp only [hb] at w; exact w.elim
    | some env1 =>
      simp only [hb] at w
      exact tG_run (F := F) (X := X) hK P.fi r.1 hb (fun i hi => by rw [ok.ok.ow]; exact ho i hi) fun σ' I' _ _ _ => w σ' H' I'
  · cases ht
theorem asg_lc (C : Cok p N tl sc k X W) {i : Nat} {y : Str} {py : Pos} {t : T} {it : It} {c : Option E} {e : E} {elt tg iter : Expr} {ifs : List Expr} {scope : Scope} {own : List (Str × Nat)} {lpos : Pos} (hy : N[i]? = some y) (hyl : sc.names.lookup y = some .local) (hk : sc.kind = .function) (hline : (py.line == lpos.line) = true)
    (hn : (scope.names.any fun (n, k) => n == y && (k == .local || k == .cell)) = false) (hi : PI X tg iter (tI p ow tb cf W it)) (bk : BlkOk N sc scope own) (hown : own.map (·.2) = t.slots)
    (hg : ∀ (s : Shared) (H : Hp) (Cc : Addr) (cl : List (Str × Addr)) (fp : List Addr), PG (X.blk s H scope (compEnvC scope cl Cc X.env) fp) tg (tG X.K t))
    (ht : ∀ (s : Shared) (H : Hp) (Cc : Addr) (cl : List (Str × Addr)) (fp : List Addr), PTs (X.blk s H scope (compEnvC scope cl Cc X.env) fp) ifs (tCd p ow tb cf c))
    (he : ∀ (s : Shared) (H : Hp) (Cc : Addr) (cl : List (Str × Addr)) (fp : List Addr), PE (X.blk s H scope (compEnvC scope cl Cc X.env) fp) elt (tE p ow tb cf W0 e)) (hs : isSetE iter = false) (ho : ∀ i ∈ t.slots, i ∉ ow) :
    AsgN p ow tb cf W X (.Assign [.Name y py] (.ListComp elt [⟨tg, iter, ifs, 0⟩] scope lpos) pos) i (.lc t it c e) := by
  have b2 : BlkOk X.N X.env.scope scope own := by rw [C.nm, C.scope]; exact bk
  have h1 := ps_setLc (spos := pos) (py := py) C.calm C.nd (by rw [C.nm]; exact hy) (by rw [C.scope]; exact hyl) (sw_true (pos := lpos) (by rw [C.scope]; exact hk) (by rw [C.scope]; exact hyl) hline hn) hi b2 hg ht he (fun x => folded hs _ x)
  rw [hown] at h1
  exact PSimp h1 fun D σ H h => lc_read C ho h
/-! places -/
theorem sub_asg {o i : Expr} (h : isSlice i = false) (v : Value) (env : PySem.Env) : assign (.Subscript o i pos) env v = (do
      let ov ← holding [v] (eval o env)
      let iv ← holding [v, ov] (eval i env)
      standAt pos
      holding [v, ov, iv] (setItem ov iv v)
      release [v, ov, iv] []) := by
  cases i <;> first | rfl | (simp [isSlice] at h)
theorem r_setIx (C : Cok p N tl sc k X W) {i : Nat} {ek ev : E} {o ke ve : Expr} {tp : Pos} (ho : PE X o (tVar i)) (hi : i ∈ ow) (hk : PE X ke (tE p ow tb cf W ek)) (hv : PE X ve (tE p ow tb cf W ev)) (hs : isSlice ke = false) (hc : isComp ve = false) : PS X (.Assign [.Subscript o ke tp] ve pos) (tS p ow io fr W (evS tb cf (.setIx i ek ev))) := by
  have h1 : swapsWithSole [.Subscript o ke tp] ve pos.line X.env = pure false := by
    show swapsWith ve (some (.Subscript o ke tp)) pos.line X.env = pure false
    exact no_swap hc _ _ _
  refine PSimp (ps_asg hv (pg_sub ho hk set_list (fun v => sub_asg hs v _)) h1 rfl rfl) fun D σ H ⟨F, env, ok, I, w⟩ => ⟨F, env, ok.ok, I, ?_⟩
  rw [evS] at w
  refine (ow_wish I w).imp fun y env1 H1 P1 w v r => ?_
  have hio : i ∈ F.ow := by rw [ok.ok.ow]; exact hi
  cases hg : env1.get i with
  | none => simp only [hg] at w; exact w.elim
  | some d0 =>
    simp only [hg] at w
    obtain ⟨q, hs', c0, _⟩ := P1.fi.own i d0 hg hio
    refine ⟨_, hs', F, env1, ok.ok, P1.fi, (ow_wish P1.fi w).imp fun x env2 H2 P2 w z rz => ?_⟩
    cases hg2 : env2.get i with
    | none => simp only [hg2] at w; exact w.elim
    | some d2 =>
      simp only [hg2] at w
      obtain ⟨q2, hs2, c2, _⟩ := P2.fi.own i d2 hg2 hio
      rw [hs'] at hs2
      cases hs2
      cases d2 with
      | lst xs =>
        cases x with
        | int n =>
          cases hx : ixN xs.length n with
          | none => simp only [hx] at w; exact w.elim
          | some j =>
            simp only [hx] at w
            have fz := rz.1
            cases fz
            cases c2 with
            | lst e1 r1 =>
              rename_i ws
              have hp : OO F σ env2 q := .inr ⟨i, hio, ⟨_, hg2⟩, hs'⟩
              have st : Stp H2 (OO F σ env2) (upd H2 q (.lst (ws.set j v))) (OO F σ env2) := ⟨fun a o h _ m => (by rw [upd_ne (fun z => m (by rw [z]; exact hp))]; exact h), fun _ z => .inl z, av_upd fun _ z => nomatch z⟩
              refine ⟨q, ws, n, j, rfl, rfl, e1, ?_, ?_⟩
              · rw [ixN_eq, r1.length]; exact hx
              · have P3 := P2.fi.write (d' := .lst (xs.set j y)) hio hg2 hs' (.lst upd_same ((r1.carry st).set ((r.1.carry P2.stp).carry st) j))
                exact w _ _ P3.fi
        | _ => exact w.elim
      | _ => exact w.elim
theorem FRf.snoc {G : Gx} {O : Addr → Prop} {f : Nat} {v : V} {d : Bh.D} (r : FR G H O v d) : ∀ {vs : List (Str × V)} {fs : List (Nat × Bh.D)}, FRf G H O vs fs → FRf G H O (vs ++ [(G.fnm f, v)]) (fs ++ [(f, d)])
  | _, _, .nil => .cons r .nil
  | _, _, .cons a b => .cons a (FRf.snoc r b)
theorem putF_new {f : Str} {v : V} : ∀ {fs : List (Str × V)}, fs.lookup f = none → putF f v fs = fs ++ [(f, v)]
  | [], _ => rfl
  | (g, x) :: r, h => by
    rw [List.lookup_cons] at h
    by_cases e : f = g
    · subst e; simp at h
    · have e1 : (f == g) = false := by simpa using e
      rw [e1] at h
      show (if g = f then _ else (g, x) :: putF f v r) = _
      rw [if_neg (Ne.symm e), putF_new h]
      rfl
theorem FRf.look_none {G : Gx} {O : Addr → Prop} {f : Nat} (inj : ∀ g, G.fnm f = G.fnm g → f = g) : ∀ {vs : List (Str × V)} {fs : List (Nat × Bh.D)}, FRf G H O vs fs → fs.lookup f = none → vs.lookup (G.fnm f) = none
  | _, _, .nil, _ => rfl
  | _, _, .cons (f := g) a b, h => by
    rw [List.lookup_cons] at h ⊢
    by_cases e : f = g
    · subst e; simp at h
    · have e1 : (f == g) = false := by simpa using e
      have e2 : (G.fnm f == G.fnm g) = false := by simpa using fun q => e (inj g q)
      rw [e1] at h
      rw [e2]
      exact FRf.look_none inj b h
theorem r_setFld (C : Cok p N tl sc k X W) {i f : Nat} {e : E} {o ve : Expr} {tp : Pos} (ho : PE X o (tVar i)) (hi : i ∈ ow) (hv : PE X ve (tE p ow p.pg.tb cf W e)) (hc : isComp ve = false) : PS X (.Assign [.Attribute o (p.G.fnm f) tp] ve pos) (tS p ow io fr W (evS p.pg.tb cf (.setFld i f e))) := by
  refine PSimp (ps_fld ho hv (no_swap hc _ _ _)) fun D σ H ⟨F, env, ok, I, w⟩ => ⟨F, env, ok.ok, I, ?_⟩
  rw [evS] at w
  refine (ow_wish I w).imp fun y env1 H1 P1 w v r => ?_
  have hio : i ∈ F.ow := by rw [ok.ok.ow]; exact hi
  cases hg : env1.get i with
  | none => simp only [hg] at w; exact w.elim
  | some d0 =>
    simp only [hg] at w
    obtain ⟨q, hs', c0, _⟩ := P1.fi.own i d0 hg hio
    cases d0 with
    | obj c fs =>
      have w' : OW F fr W D (if p.pg.tb.fld c f && (decide (fs.length < 100) && (fs.lookup f).isNone) then .nx (env1.put i (.obj c (fs ++ [(f, y)]))) else .err) := w
      split at w'
      · rename_i hc1
        simp only [Bool.and_eq_true, decide_eq_true_eq, Option.isNone_iff_eq_none] at hc1
        obtain ⟨h1, h2, h3⟩ := hc1
        obtain ⟨g1, g2⟩ := C.facts.fld c f h1
        cases c0 with
        | obj e1 r1 =>
          rename_i dx ws
          have hp : OO F σ env1 q := .inr ⟨i, hio, ⟨_, hg⟩, hs'⟩
          have ln : ws.lookup (p.G.fnm f) = none := by
            rw [← ok.ok.G]
            exact r1.look_none (fun g q => by rw [ok.ok.G] at q; exact C.facts.inj f g q) h3
          have st : Stp H1 (OO F σ env1) (upd H1 q (.ins (F.G.ca c) dx (ws ++ [(F.G.fnm f, v)]))) (OO F σ env1) := ⟨fun a o h _ m => (by rw [upd_ne (fun z => m (by rw [z]; exact hp))]; exact h), fun _ z => .inl z, av_upd fun _ z => nomatch z⟩
          refine ⟨_, hs', q, F.G.ca c, dx, ws, rfl, e1, by rw [ok.ok.G]; exact g1, by rw [ok.ok.G]; exact g2, by rw [r1.length]; omega, ?_⟩
          rw [putF_new ln]
          have P3 := P1.fi.write (d' := .obj c (fs ++ [(f, y)])) hio hg hs' (.obj upd_same ((r1.carry st).snoc (r.1.carry st)))
          rw [← ok.ok.G]
          exact w' _ _ P3.fi
      · exact w'.elim
    | _ => exact w.elim
theorem r_raise (C : Cok p N tl sc k X W) {c : Nat} {m : Str} {j : Nat} {q p2 p3 : Pos} (hx : p.exc c = true) (hg : gloB sc (p.cn c) = true) (hpn : plainName (p.cn c) = true) : PS X (.Raise (some (.Call (.Name (p.cn c) q) [.Constant (.str m) j p2] [] p3)) none pos) (tS p ow io fr W (evS tb cf (.raise c))) := by
  obtain ⟨g1, g2, g3, g4, g5⟩ := C.facts.exc c hx
  simp only [plainName, Bool.and_eq_true, Bool.not_eq_true'] at hpn
  refine PSimp (ps_raise C.calm C.tk (pmk_own PySem.F.excBase_ValueError g5 g1 g2 (raises_own g3 g4) (C.gl hg) hpn.1.1)) fun D σ H ⟨F, env, ok, I, w⟩ => ?_
  rw [evS] at w
  have := w none σ H I
  rw [ok.ok.G] at this
  exact this
/-! two at once -/
def parOk (px py : Pos) (x y : Str) (a b : Expr) : Bool := (px.line == py.line) && !(x == y) && !isStar a && !isStar b && !(foldedForSure 8 a && foldedForSure 8 b) && !(constantsAlone 8 a && constantsAlone 8 b)
theorem par_sw {px py pt pt2 : Pos} {kt k2 : Nat} {x y : Str} {a b : Expr} {env : PySem.Env} (hk : env.scope.kind = .function) (kx : env.scope.names.lookup x = some .local) (ky : env.scope.names.lookup y = some .local) (h : parOk px py x y a b = true) :
    swappedStores [.Tuple [.Name x px, .Name y py] kt pt] (.Tuple [a, b] k2 pt2) env = pure (some [x, y]) := by
  unfold parOk at h
  simp only [Bool.and_eq_true, Bool.not_eq_true', beq_iff_eq, beq_eq_false_iff_ne] at h
  obtain ⟨⟨⟨⟨⟨h1, h2⟩, h3⟩, h4⟩, h5⟩, h6⟩ := h
  have hb : env.blockKind = .function := by unfold Env.blockKind; rw [hk]; rfl
  have kx : env.kindOf x = some .local := kx
  have ky : env.kindOf y = some .local := ky
  have hs : ∀ f : Expr → Bool, (∀ e, isStar e = false → f e = false) → [a, b].any f = false := fun f hf => by simp [hf a h3, hf b h4]
  have hne : (y == x) = false := by simpa using fun z => h2 z.symm
  have e2 : [x, y].eraseDups = [x, y] := by simp [List.eraseDups_cons, hne]
  unfold swappedStores
  simp only []
  rw [if_neg (by simp [hb]), if_neg (by rw [hs _ (fun e he => by cases e <;> first | rfl | (simp [isStar] at he))]; decide)]
  simp only [List.filterMap_cons, List.filterMap_nil, kx, ky, Expr.pos, h1, List.head?_cons, Option.map_some, Option.getD_some, BEq.rfl, Bool.and_self, if_true, e2, List.length_cons, List.length_nil, List.all_cons, List.all_nil, Bool.and_true, h5, h6]
  rfl
theorem Post.unguard2 {H' : Hp} {env' : Env} {q : Addr} (oe : ∀ a, F.Oe a → F.Ox a) (P : Post (F.guard q) σ H env H' env') : Post F σ H env H' env' where
  fi := P.fi.unguard oe
  stp := ⟨fun a u h t m => P.kx a u h (fun z => m (.inr z)) t, fun a z => .inl (z.imp id (P.ow a)), P.stp.dom⟩
  ow := P.ow
  kx := P.kx
theorem Wish.guard2 {q : Addr} {α : Type} {r : R α} {S : α → Env → Hp → Prop} (oe : ∀ a, F.Oe a → F.Ox a) (w : Wish F W σ H env r S) :
    Wish (F.guard q) W σ H env r fun a env' H' => Post (F.guard q) σ H env H' env' ∧ S a env' H' := by
  cases r with
  | ok a e => exact fun H' P => ⟨P, w H' (P.unguard2 oe)⟩
  | exc c e => exact fun dx H' P => w dx H' (P.unguard2 oe)
  | err => exact w
theorem thaw_oo {q : Addr} {i : Nat} {d : Bh.D} (I : FI (F.guard q) σ H env) (hl : i < env.length) (a : Addr) (z : OO F (σ.set i (some (.ref q))) (env.put i d) a) : OO (F.guard q) σ env a := by
  have hls : i < σ.length := by rw [← I.len]; exact hl
  rw [guard_oo]
  rcases z with z | ⟨j, hj, ⟨e, he⟩, h⟩
  · exact .inl (.inl z)
  · by_cases q : j = i
    · subst q
      rw [List.getElem?_set_self hls] at h
      cases h
      exact .inr rfl
    · rw [get_put hl, if_neg q] at he
      rw [List.getElem?_set_ne (Ne.symm q)] at h
      exact .inl (.inr ⟨j, hj, ⟨e, he⟩, h⟩)
theorem r_par2 (C : Cok p N tl sc k X W) {i j : Nat} {fi : Bool} {ea eb : E} {x y : Str} {a b : Expr} {px py pt pt2 : Pos} {kt k2 : Nat} (hi : N[i]? = some x) (hj : N[j]? = some y) (hij : i ≠ j) (hx : sc.names.lookup x = some .local) (hy : sc.names.lookup y = some .local) (hk : sc.kind = .function)
    (ha : PE X a (tE p ow tb cf W ea)) (hb : PE X b (tE p ow tb cf W eb)) (hok : parOk px py x y a b = true) (h1 : fi = false → i ∉ ow) (h2 : fi = true → i ∈ ow ∧ i ∉ io) (h3 : j ∉ ow) :
    PS X (.Assign [.Tuple [.Name x px, .Name y py] kt pt] (.Tuple [a, b] k2 pt2) pos) (tS p ow io fr W (evS tb cf (.par2 i fi ea j false eb))) := by
  have sa : isStar a = false ∧ isStar b = false := by
    unfold parOk at hok
    simp only [Bool.and_eq_true, Bool.not_eq_true'] at hok
    exact ⟨hok.1.1.1.2, hok.1.1.2⟩
  have pa := pa_cons ha (pa_cons hb pa_nil (starEach_cons sa.2 _ _)) (starEach_cons sa.1 _ _)
  refine ⟨fun pins s σ H D Iv ⟨F, env, ok, I, w⟩ => (ps_par C.calm C.nd (by rw [C.nm]; exact hi) (by rw [C.nm]; exact hj) hij (by rw [C.scope]; exact hx) (by rw [C.scope]; exact hy) pa (par_sw (by rw [C.scope]; exact hk) (by rw [C.scope]; exact hx) (by rw [C.scope]; exact hy) hok) rfl).run pins s σ H D Iv ?_⟩
  have hlen : i < σ.length := by
    rw [Iv.len, C.nm]
    exact (List.getElem?_eq_some_iff.mp hi).1
  rw [evS] at w
  refine ⟨F, env, ok.ok, I, (ow_wish I w).imp fun dx env1 H1 P1 w v r => ?_⟩
  cases fi with
  | false =>
    refine ⟨F, env1, ok.ok, P1.fi, (ow_wish P1.fi w).imp fun dy env2 H2 P2 w u ru => ?_⟩
    refine ⟨v, u, rfl, ?_⟩
    obtain ⟨I1, o1, _⟩ := set_one P2.fi (i := i) (by rw [ok.ok.ow]; exact h1 rfl) (r.1.carry P2.stp)
    obtain ⟨I2, _, _⟩ := set_one I1 (i := j) (by rw [ok.ok.ow]; exact h3) (ru.1.carry (.mono fun a z => (o1 a).mp z))
    exact w _ H2 I2
  | true =>
    by_cases hc : (isNew tb ea (kindOf dx) && !(kindOf dx == 0)) = true
    · have hc' := hc
      simp only [Bool.and_eq_true, Bool.not_eq_true', beq_eq_false_iff_ne] at hc'
      obtain ⟨q, rfl, hq, nO, cq, Iq⟩ := r.2 hc'.1 hc'.2
      refine ⟨F.guard q, env1, ok.ok.guard q, Iq, (Wish.guard2 ok.ok.oe (ow_wish P1.fi w)).imp fun dy env2 H2 P2 ⟨_, w⟩ u ru => ?_⟩
      refine ⟨_, u, rfl, ?_⟩
      have w' : OW F fr W D (setO true (isNew tb ea) env2 i dx fun env => setO false (isNew tb eb) env j dy .nx) := w
      unfold setO at w'
      rw [if_neg (by simp [hc])] at w'
      have w' : OW F fr W D (.nx ((env2.put i dx).put j dy)) := w'
      have nown : ¬ ownA F.ow σ env1 q := fun z => nO (.inr z)
      obtain ⟨o, ho, ht⟩ := cq.av
      have hq2 : H2 q = H1 q := (P2.kx q o ho nown ht).trans ho.symm
      have nO2 : ¬ OO F σ env2 q := fun z => nO (z.imp id (P2.ow q))
      have hl2 : i < env2.length := by rw [P2.fi.len]; exact hlen
      have I1 := P2.fi.thaw (d := dx) ok.ok.oe (by rw [ok.ok.ow]; exact (h2 rfl).1) hl2 (fun b hb z => (h2 rfl).2 (z ▸ ok.ip b hb)) nO2 (fun z => hq (I.sub q z)) (cq.carry P2.stp hq2)
      obtain ⟨I2, _, _⟩ := set_one I1 (i := j) (by rw [ok.ok.ow]; exact h3) (ru.1.carry (.mono (thaw_oo P2.fi hl2)))
      exact w' _ H2 I2
    · -- the slot cannot own
      refine ⟨F, env1, ok.ok, P1.fi, (ow_wish P1.fi w).imp fun dy env2 H2 P2 w u ru => ?_⟩
      have w' : OW F fr W D (setO true (isNew tb ea) env2 i dx fun env => setO false (isNew tb eb) env j dy .nx) := w
      unfold setO at w'
      rw [if_pos (by simp only [Bool.true_and, Bool.not_eq_true']; simpa using hc)] at w'
      exact w'.elim
end
end Bh
/-! text Bh5n2 -/
set_option Elab.async false
set_option linter.all false
set_option maxRecDepth 100000
set_option maxHeartbeats 1000000
/-! Bh5n2: op=, targets that are places, two at once where the second owns. -/
namespace Bh
open PySem PySem.W L2 PyProof.Rows
section
variable {X : Cx}
def rGetP : V → V → Hp → VK → Prop := fun o i H Q => ∃ p xs k v, o = .ref p ∧ i = .int k ∧ 0 ≤ k ∧ H p = some (.lst xs) ∧ xs[k.toNat]? = some v ∧ Q v H
theorem get_listP : PGet X rGetP := by
  rintro pins s σ H o i ov iv Q I ro ri ⟨p, xs, k, v, rfl, rfl, h0, hp, hv, q⟩
  cases ro
  obtain ⟨t, rfl⟩ := ri
  obtain ⟨its, r, pl, z⟩ := I.list (SqL.of hp)
  obtain ⟨u, hu, ru⟩ := r.get hv
  have n := r.length
  have hlt := (List.getElem?_eq_some_iff.mp hv).1
  have hsl := sizeLine_eq
  exact wpAny_getItem_list pl.isList h0 (by omega) (by simpa using hu) ⟨v, H, I, ru, q⟩
def ipD (o : Op2) : TIp := fun x y H Q => ∃ i j n, x = .int i ∧ y = .int j ∧ augD o (.int i) (.int j) = some (.int n) ∧ Q (.int n) H
theorem ip_aug {o : Op2} : PIp X (op2 o) (ipD o) := by
  rintro pins s σ H x y v u Q I rx ry ⟨i, j, n, rfl, rfl, e, q⟩
  cases o with
  | add => cases e; exact ip_add pins s σ H _ _ v u Q I rx ry ⟨i, j, rfl, rfl, q⟩
  | sub => cases e; exact ip_sub pins s σ H _ _ v u Q I rx ry ⟨i, j, rfl, rfl, q⟩
  | _ => cases e
theorem pickAt_of {d x z : D} (e : pickAt d x = some z) : ∃ xs n, d = .lst xs ∧ x = .int n ∧ 0 ≤ n ∧ xs[n.toNat]? = some z := by
  unfold pickAt at e
  split at e
  · split at e
    · rename_i h
      exact ⟨_, _, rfl, rfl, h, e⟩
    · cases e
  · cases e
theorem augD_int {o : Op2} {x y u : D} (e : augD o x y = some u) : ∃ i j n, x = .int i ∧ y = .int j ∧ u = .int n := by
  unfold augD at e
  split at e
  · cases e; exact ⟨_, _, _, rfl, rfl, rfl⟩
  · cases e; exact ⟨_, _, _, rfl, rfl, rfl⟩
  · cases e
def notName (sc : Scope) : Expr → Bool
  | .Name x _ => !(sc.names.lookup x == some .local)
  | _ => true
/-- targets that are never stored turned about -/
def swOff (sc : Scope) (es : List Expr) : Bool := !(es.length == 2 || es.length == 3) || es.any (notName sc)
theorem fm_lt {sc : Scope} {f : Expr → Option Str} (hf : ∀ e, notName sc e = true → f e = none) : ∀ {es : List Expr}, es.any (notName sc) = true → (es.filterMap f).length < es.length
  | [], h => by simp at h
  | e :: es, h => by
    rw [List.any_cons, Bool.or_eq_true] at h
    by_cases h1 : notName sc e = true
    · rw [List.filterMap_cons_none (hf e h1)]
      have := List.length_filterMap_le f es
      simp only [List.length_cons]
      omega
    · have := fm_lt hf (h.resolve_left h1)
      have h2 : (List.filterMap f (e :: es)).length ≤ (List.filterMap f es).length + 1 := by
        rw [List.filterMap_cons]
        split <;> simp
      simp only [List.length_cons]
      omega
theorem sw_none {es : List Expr} {k : Nat} {q : Pos} {ex : Expr} {env : PySem.Env} {sc : Scope} (hs : env.scope = sc) (h : swOff sc es = true) : swappedStores [.Tuple es k q] ex env = pure none := by
  cases ex with
  | Tuple vs k2 p2 =>
    unfold swappedStores
    simp only []
    unfold swOff at h
    rw [Bool.or_eq_true] at h
    by_cases h1 : (!(es.length == 2 || es.length == 3) || vs.length != es.length || env.blockKind != .function) = true
    · rw [if_pos h1]
    · rw [if_neg h1]
      have h2 : es.any (notName sc) = true := by
        rcases h with h | h
        · rw [h] at h1; simp at h1
        · exact h
      split
      · rfl
      · have h3 := fm_lt (f := fun | .Name id pos => if env.kindOf id == some .local && pos.line == (es.head?.map (·.pos.line)).getD 0 then some id else none | _ => none) (fun e he => by
          cases e with
          | Name x q =>
            have he2 : (env.kindOf x == some .local) = false := by
              show (env.scope.names.lookup x == some .local) = false
              rw [hs]
              simpa [notName] using he
            simp [he2]
          | _ => rfl) h2
        rw [if_pos]
        rw [Bool.or_eq_true, bne_iff_ne]
        exact .inl (Nat.ne_of_lt h3)
  | _ => rfl
end
section
variable {p : Pr} {N : List Str} {ow io : List Nat} {tl fr : Bool} {sc : Scope} {F : Fm} {k : Nat} {X : Cx} {W : WX} {cf : CF} {tb : Tb} {pos : Pos} {es : Es}
variable {σ : L2.St} {H : Hp} {env : Env} {D : Ends}
/-- a place of an owned list is set -/
theorem setAt_run {i : Nat} {x y : Bh.D} {z v : V} {q : Addr} {Q : Hp → Prop} (I : FI F σ H env) (hio : i ∈ F.ow) (hq : σ[i]? = some (some (.ref q))) (fz : FR F.G H (OO F σ env) z x) (fv : FR F.G H (OO F σ env) v y) {kk : Env → O}
    (w : OW F fr W D (match setAt i x y env with
      | .nx env => kk env
      | _ => .err)) (fin : ∀ env' H', FI F σ H' env' → (∀ a, OO F σ env' a → OO F σ env a) → Stp H (OO F σ env) H' (OO F σ env') → OW F fr W D (kk env') → Q H') : rSetL (.ref q) z v H Q := by
  unfold setAt at w
  cases hg : env.get i with
  | none => simp only [hg] at w; exact w.elim
  | some d =>
    simp only [hg] at w
    obtain ⟨q2, hs2, c2, _⟩ := I.own i d hg hio
    rw [hq] at hs2
    cases hs2
    cases d with
    | lst xs =>
      cases x with
      | int n =>
        cases hx : ixN xs.length n with
        | none => simp only [hx] at w; exact w.elim
        | some j =>
          simp only [hx] at w
          cases fz
          cases c2 with
          | lst e1 r1 =>
            rename_i ws
            have hp : OO F σ env q := .inr ⟨i, hio, ⟨_, hg⟩, hq⟩
            have st : Stp H (OO F σ env) (upd H q (.lst (ws.set j v))) (OO F σ env) := ⟨fun a o h _ m => (by rw [upd_ne (fun z => m (by rw [z]; exact hp))]; exact h), fun _ z => .inl z, av_upd fun _ z => nomatch z⟩
            refine ⟨q, ws, n, j, rfl, rfl, e1, ?_, ?_⟩
            · rw [ixN_eq, r1.length]; exact hx
            · have P3 := I.write (d' := .lst (xs.set j y)) hio hg hq (.lst upd_same ((r1.carry st).set (fv.carry st) j))
              exact fin _ _ P3.fi (fun a z => P3.os a z) P3.stp w
      | _ => exact w.elim
    | _ => exact w.elim
theorem setAt_id {i : Nat} {x y : Bh.D} {env : Env} : (match setAt i x y env with
    | .nx env => O.nx env
    | _ => .err) = setAt i x y env := by
  unfold setAt
  cases env.get i with
  | none => rfl
  | some d =>
    cases d <;> first | rfl | skip
    cases x <;> first | rfl | skip
    rename_i xs n
    show (match (match ixN xs.length n with
      | some j => O.nx (env.put i (.lst (xs.set j y)))
      | none => .err) with
      | .nx env => O.nx env
      | _ => .err) = (match ixN xs.length n with
      | some j => O.nx (env.put i (.lst (xs.set j y)))
      | none => .err)
    cases ixN xs.length n <;> rfl
theorem r_augIx (C : Cok p N tl sc k X W) {i : Nat} {op : Op2} {ek ev : E} {o ke ve : Expr} {tp : Pos} (ho : PE X o (tVar i)) (hi : i ∈ ow) (hk : PE X ke (tE p ow tb cf W ek)) (hv : PE X ve (tE p ow tb cf W ev)) (hsl : isSlice ke = false) :
    PS X (.AugAssign (.Subscript o ke tp) (op2 op) ve pos) (tS p ow io fr W (evS tb cf (.augIx i op ek ev))) := by
  refine PSimp (ps_augS ho hk get_listP hv ip_aug set_list (fun _ _ _ => by cases ke <;> first | rfl | (simp [isSlice] at hsl))) fun D σ H ⟨F, env, ok, I, w⟩ => ?_
  rw [evS] at w
  have hio : i ∈ F.ow := by rw [ok.ok.ow]; exact hi
  cases hg : env.get i with
  | none => simp only [hg] at w; exact w.elim
  | some d0 =>
    simp only [hg] at w
    obtain ⟨q, hs, _, _⟩ := I.own i d0 hg hio
    refine ⟨_, hs, F, env, ok.ok, I, (ow_wish I w).imp fun x env1 H1 P1 w z rz => ?_⟩
    cases hg1 : env1.get i with
    | none => simp only [hg1] at w; exact w.elim
    | some d1 =>
      simp only [hg1] at w
      obtain ⟨q1, hs1, c1, _⟩ := P1.fi.own i d1 hg1 hio
      rw [hs] at hs1
      cases hs1
      cases hp : pickAt d1 x with
      | none => simp only [hp, R.of, R.o] at w; exact w.elim
      | some z0 =>
        simp only [hp] at w
        have w : OW F fr W D ((evE tb cf ev env1).o fun y env => (R.of (augD op z0 y) env).o fun u env => setAt i x u env) := w
        obtain ⟨xs, n, rfl, rfl, h0, hp⟩ := pickAt_of hp
        · · have fz := rz.1
            cases fz
            cases c1 with
            | lst e1 r1 =>
              rename_i ws
              obtain ⟨vz, hvz, fvz⟩ := r1.get hp
              refine ⟨q, ws, n, vz, rfl, rfl, h0, e1, hvz, F, env1, ok.ok, P1.fi, (ow_wish P1.fi w).imp fun y env2 H2 P2 w yv ry => ?_⟩
              cases ha : augD op z0 y with
              | none => simp only [ha, R.of, R.o] at w; exact w.elim
              | some u =>
                simp only [ha] at w
                have w : OW F fr W D (setAt i (.int n) u env2) := w
                obtain ⟨a, b, c, rfl, rfl, rfl⟩ := augD_int ha
                cases fvz
                have fy := ry.1
                cases fy
                refine ⟨a, b, c, rfl, rfl, ha, ?_⟩
                have w2 : OW F fr W D (match setAt i (.int n) (.int c) env2 with
                  | .nx env => .nx env
                  | _ => .err) := by
                  rw [setAt_id]; exact w
                exact setAt_run (fr := fr) (W := W) (D := D) P2.fi hio hs (.int n) (.int c) w2 fun env' H' I' _ _ w' => w' _ _ I'
/-! targets -/
inductive PTg (p : Pr) (ow : List Nat) (tb : Tb) (cf : CF) (W : WX) (N : List Str) (sc : Scope) (X : Cx) : List Tg → List Expr → Prop
  | nil : PTg p ow tb cf W N sc X [] []
  | nm {i : Nat} {e : Expr} {ts : List Tg} {es : List Expr} : tgtIs N sc i e = true → i ∉ ow → PTg p ow tb cf W N sc X ts es → PTg p ow tb cf W N sc X (.nm i :: ts) (e :: es)
  | ix {i : Nat} {ek : E} {o ke : Expr} {q : Pos} {ts : List Tg} {es : List Expr} : PE X o (tVar i) → i ∈ ow → PE X ke (tE p ow tb cf W ek) → isSlice ke = false → PTg p ow tb cf W N sc X ts es → PTg p ow tb cf W N sc X (.ix i ek :: ts) (.Subscript o ke q :: es)
def gTg (p : Pr) (ow : List Nat) (tb : Tb) (cf : CF) (W : WX) : List Tg → TGs
  | [] => gNil
  | .nm i :: ts => gCons (gName i) (gTg p ow tb cf W ts)
  | .ix i ek :: ts => gCons (gSub (tVar i) (tE p ow tb cf W ek) rSetL) (gTg p ow tb cf W ts)
theorem PTg.pgs (S : Sets N sc X) {ts : List Tg} {es : List Expr} (h : PTg p ow tb cf W N sc X ts es) : PGs X es (gTg p ow tb cf W ts) ∧ (assignEach es X.env).length = ts.length ∧ (assignEach es X.env).findIdx? (·.1) = none := by
  induction h with
  | nil => exact ⟨pgs_nil, rfl, rfl⟩
  | @nm i e ts es h1 _ _ ih =>
    obtain ⟨a, b, c⟩ := ih
    have e1 := assignEach_cons (tgt_star h1) es X.env
    refine ⟨pgs_cons (pg_one S h1) a (by rw [e1]; rfl), by rw [e1, List.length_cons, b, List.length_cons], ?_⟩
    rw [e1, List.findIdx?_cons]
    simp [c]
  | @ix i ek o ke q ts es h1 _ h2 h3 _ ih =>
    obtain ⟨a, b, c⟩ := ih
    have e1 := assignEach_cons (e := .Subscript o ke q) rfl es X.env
    refine ⟨pgs_cons (pg_sub h1 h2 set_list (fun v => sub_asg h3 v _)) a (by rw [e1]; rfl), by rw [e1, List.length_cons, b, List.length_cons], ?_⟩
    rw [e1, List.findIdx?_cons]
    simp [c]
theorem tg_run (ok : FOk p ow F) {ts : List Tg} {tes : List Expr} (h : PTg p ow tb cf W N sc X ts tes) : ∀ {ds : List Bh.D} {vs : List V} {σ : L2.St} {H : Hp} {env : Env}, FI F σ H env → FRs F.G H (OO F σ env) vs ds → ds.length = ts.length → OW F fr W D (bindTg tb cf ts ds env) →
    gTg p ow tb cf W ts vs σ H fun σ' H' => D.nx σ' H' := by
  induction h with
  | nil =>
    intro ds vs σ H env I r hl w
    cases r with
    | nil =>
      rw [bindTg] at w
      · exact ⟨rfl, w _ _ I⟩
      all_goals (intros; contradiction)
    | cons _ _ => simp at hl
  | nm h1 h2 _ ih =>
    intro ds vs σ H env I r hl w
    cases r with
    | nil => simp at hl
    | cons f r =>
      rw [bindTg] at w
      obtain ⟨I1, o1, w1⟩ := set_one I (by rw [ok.ow]; exact h2) f
      exact ⟨_, _, rfl, ih I1 (r.carry (.mono fun a z => (o1 a).mp z)) (by simpa using hl) w⟩
  | @ix i ek o ke q0 ts es h1 h2 h3 h4 _ ih =>
    intro ds vs σ H env I r hl w
    cases r with
    | nil => simp at hl
    | cons f r =>
      rw [bindTg] at w
      have hio : i ∈ F.ow := by rw [ok.ow]; exact h2
      cases hg : env.get i with
      | none => simp only [hg] at w; exact w.elim
      | some d0 =>
        simp only [hg] at w
        obtain ⟨q, hs, _, _⟩ := I.own i d0 hg hio
        refine ⟨_, _, rfl, _, hs, F, env, ok, I, (ow_wish I w).imp fun x env1 H1 P1 w z rz => ?_⟩
        refine setAt_run (fr := fr) (W := W) (D := D) P1.fi hio hs rz.1 (f.carry P1.stp) w fun env' H' I' oo st w' => ?_
        exact ih I' ((r.carry P1.stp).carry st) (by simpa using hl) w'
theorem r_bindX (C : Cok p N tl sc k X W) (S : Sets N sc X) {ts : List Tg} {e : E} {ex : Expr} {tes : List Expr} {kt : Nat} {pt : Pos} (ht : PTg p ow tb cf W N sc X ts tes) (he : PE X ex (tE p ow tb cf W e)) (hw : isTupE ex = false ∨ swOff sc tes = true) : PS X (.Assign [.Tuple tes kt pt] ex pos) (tS p ow io fr W (evS tb cf (.bindX ts e))) := by
  obtain ⟨g1, g2, g3⟩ := ht.pgs S
  have h1 : swapsWithSole [.Tuple tes kt pt] ex pos.line X.env = pure false := by cases ex <;> rfl
  have h2 : swappedStores [.Tuple tes kt pt] ex X.env = pure none := by
    rcases hw with hw | hw
    · cases ex <;> first | rfl | (simp [isTupE] at hw)
    · exact sw_none C.scope hw
  refine PSimp (ps_asg he (pg_tup C.calm g1 g2 g3) h1 h2 rfl) fun D σ H ⟨F, env, ok, I, w⟩ => ⟨F, env, ok.ok, I, ?_⟩
  have hK : F.G.K = X.K := by rw [ok.ok.G]; exact C.facts.hK
  rw [evS] at w
  refine (ow_wish I w).imp fun d env' H' P w v r => ?_
  cases d with
  | tup xs =>
    have w : OW F fr W D (if xs.length = ts.length then bindTg tb cf ts xs env' else .err) := w
    split at w
    · rename_i hl
      obtain ⟨q, vs, rfl, hq, f⟩ := (show BR F.G H' (OO F σ env') v (.tup xs) from .inl r.1).tup
      exact ⟨q, vs, rfl, hK ▸ hq, by rw [f.length]; exact hl, tg_run ok.ok ht P.fi f hl w⟩
    · exact w.elim
  | _ => exact w.elim
theorem r_bindN (C : Cok p N tl sc k X W) (S : Sets N sc X) {is : List Nat} {e : E} {ex : Expr} {tes : List Expr} {kt : Nat} {pt : Pos} (ht : mT N sc (.many is) (.Tuple tes kt pt) = true) (he : PE X ex (tE p ow tb cf W e)) (hw : swOff sc tes = true) (ho : ∀ i ∈ is, i ∉ ow) : PS X (.Assign [.Tuple tes kt pt] ex pos) (tS p ow io fr W (evS tb cf (.bind is e))) := by
  have hg := pg_T S ht
  have h1 : swapsWithSole [.Tuple tes kt pt] ex pos.line X.env = pure false := by cases ex <;> rfl
  refine PSimp (ps_asg he hg h1 (sw_none C.scope hw) rfl) fun D σ H ⟨F, env, ok, I, w⟩ => ⟨F, env, ok.ok, I, ?_⟩
  have hK : F.G.K = X.K := by rw [ok.ok.G]; exact C.facts.hK
  rw [evS] at w
  refine (ow_wish I w).imp fun d env' H' P w v r => ?_
  cases hb : bindT (.many is) d env' with
  | none => simp only [hb] at w; exact w.elim
  | some env1 =>
    simp only [hb] at w
    exact tG_run (F := F) (X := X) hK P.fi r.1 hb (fun i hi => by rw [ok.ok.ow]; exact ho i hi) fun σ' I' _ _ _ => w σ' H' I'
/-- two at once: the second owns what is new -/
theorem r_parB (C : Cok p N tl sc k X W) {i j : Nat} {x y : Str} {px py pt pt2 : Pos} {a b : Expr} {ea eb : E} {kt k2 : Nat} (hi : N[i]? = some x) (hj : N[j]? = some y) (hij : i ≠ j) (hx : sc.names.lookup x = some .local) (hy : sc.names.lookup y = some .local) (hk : sc.kind = .function)
    (ha : PE X a (tE p ow tb cf W ea)) (hb : PE X b (tE p ow tb cf W eb)) (hok : parOk px py x y a b = true) (h1 : i ∉ ow) (h2 : j ∈ ow ∧ j ∉ io) :
    PS X (.Assign [.Tuple [.Name x px, .Name y py] kt pt] (.Tuple [a, b] k2 pt2) pos) (tS p ow io fr W (evS tb cf (.par2 i false ea j true eb))) := by
  have sa : isStar a = false ∧ isStar b = false := by
    unfold parOk at hok
    simp only [Bool.and_eq_true, Bool.not_eq_true'] at hok
    exact ⟨hok.1.1.1.2, hok.1.1.2⟩
  have pa := pa_cons ha (pa_cons hb pa_nil (starEach_cons sa.2 _ _)) (starEach_cons sa.1 _ _)
  refine ⟨fun pins s σ H D Iv ⟨F, env, ok, I, w⟩ => (ps_par C.calm C.nd (by rw [C.nm]; exact hi) (by rw [C.nm]; exact hj) hij (by rw [C.scope]; exact hx) (by rw [C.scope]; exact hy) pa (par_sw (by rw [C.scope]; exact hk) (by rw [C.scope]; exact hx) (by rw [C.scope]; exact hy) hok) rfl).run pins s σ H D Iv ?_⟩
  have hlen : j < σ.length := by
    rw [Iv.len, C.nm]
    exact (List.getElem?_eq_some_iff.mp hj).1
  rw [evS] at w
  refine ⟨F, env, ok.ok, I, (ow_wish I w).imp fun dx env1 H1 P1 w v r => ?_⟩
  refine ⟨F, env1, ok.ok, P1.fi, (ow_wish P1.fi w).imp fun dy env2 H2 P2 w u ru => ?_⟩
  by_cases hc : (isNew tb eb (kindOf dy) && !(kindOf dy == 0)) = true
  · have hc' := hc
    simp only [Bool.and_eq_true, Bool.not_eq_true', beq_eq_false_iff_ne] at hc'
    obtain ⟨q, rfl, hq, nO, cq, Iq⟩ := ru.2 hc'.1 hc'.2
    refine ⟨v, _, rfl, ?_⟩
    have w' : OW F fr W D (setO false (isNew tb ea) env2 i dx fun env => setO true (isNew tb eb) env j dy .nx) := w
    unfold setO at w'
    rw [if_neg (by simp)] at w'
    dsimp only at w'
    rw [if_neg (by simp [hc])] at w'
    have w' : OW F fr W D (.nx ((env2.put i dx).put j dy)) := w'
    have hiF : i ∉ F.ow := by rw [ok.ok.ow]; exact h1
    have f1 : FR (F.guard q).G H2 (OO (F.guard q) σ env2) v dx := r.1.carry ⟨P2.stp.keep, fun a z => ((guard_oo a).mp z).elim (P2.stp.sub a) (fun e => .inr (e ▸ hq)), P2.stp.dom⟩
    obtain ⟨I1, o1, _⟩ := set_one Iq (i := i) hiF f1
    obtain ⟨_, oF, _⟩ := set_one P2.fi (i := i) hiF (r.1.carry P2.stp)
    have I2 := I1.thaw (d := dy) ok.ok.oe (by rw [ok.ok.ow]; exact h2.1) (by rw [I1.len, List.length_set]; exact hlen) (fun b hb z => h2.2 (by have := ok.ip b hb; rw [z] at this; exact this)) (fun z => nO ((oF q).mp z)) (fun z => hq (P1.fi.sub q z)) (cq.carry (.mono fun a z => (o1 a).mp z) rfl)
    exact w' _ H2 I2
  · have w' : OW F fr W D (setO false (isNew tb ea) env2 i dx fun env => setO true (isNew tb eb) env j dy .nx) := w
    unfold setO at w'
    rw [if_neg (by simp)] at w'
    dsimp only at w'
    rw [if_pos (by simp only [Bool.true_and, Bool.not_eq_true']; simpa using hc)] at w'
    exact w'.elim
end
end Bh
/-! text Bh5o -/
set_option Elab.async false
set_option linter.all false
set_option maxRecDepth 100000
set_option maxHeartbeats 1000000
/-! Bh5o: defs. -/
namespace Bh
open PySem PySem.W L2 PyProof.Rows
/-- what a def's record must meet -/
structure DefOk (df : Def) (N ps : List Str) : Prop where
  nl : N.length = df.nl
  np : ps.length = df.np
  le : df.np ≤ df.nl
  io : ∀ i ∈ df.io, i ∈ df.ow ∧ i < df.np
  par : ∀ i ∈ df.ow, i < df.np → i ∈ df.io
def ioP (io : List Nat) (vs : List V) : List (Nat × Addr) := io.filterMap fun i => match (vs[i]? : Option V) with
  | some (V.ref a) => some (i, a)
  | _ => none
theorem mem_ioP {io : List Nat} {vs : List V} {i : Nat} {a : Addr} : (i, a) ∈ ioP io vs ↔ i ∈ io ∧ vs[i]? = some (.ref a) := by
  unfold ioP
  rw [List.mem_filterMap]
  constructor
  · rintro ⟨j, h1, h2⟩
    split at h2
    · rename_i b hb
      cases h2
      exact ⟨h1, hb⟩
    · cases h2
  · rintro ⟨h1, h2⟩
    exact ⟨i, h1, by rw [h2]⟩
theorem startE_len {df : Def} {ds : List D} (h : ds.length ≤ df.nl) : (startE df ds).length = df.nl := by
  unfold startE
  rw [List.length_append, List.length_map, List.length_replicate]
  omega
theorem startE_get {df : Def} {ds : List D} {i : Nat} {d : D} : (startE df ds).get i = some d ↔ ds[i]? = some d := by
  unfold startE Env.get
  by_cases h : i < ds.length
  · rw [List.getElem?_append_left (by rw [List.length_map]; exact h), List.getElem?_map, List.getElem?_eq_getElem h]
    simp
  · rw [List.getElem?_append_right (by rw [List.length_map]; omega), List.getElem?_eq_none (l := ds) (by omega), List.getElem?_replicate]
    split <;> simp
theorem start_get {N : List Str} {vs : List V} {i : Nat} {v : V} (h : vs[i]? = some v) : (L2.start N vs)[i]? = some (some v) := by
  unfold L2.start
  have hl := (List.getElem?_eq_some_iff.mp h).1
  rw [List.getElem?_append_left (by rw [List.length_map]; exact hl), List.getElem?_map, h]
  rfl
theorem start_inv {N : List Str} {vs : List V} {i : Nat} {v : V} (h : (L2.start N vs)[i]? = some (some v)) : vs[i]? = some v := by
  unfold L2.start at h
  by_cases hl : i < vs.length
  · rw [List.getElem?_append_left (by rw [List.length_map]; exact hl), List.getElem?_map, List.getElem?_eq_getElem hl] at h
    rw [List.getElem?_eq_getElem hl]
    simpa using h
  · rw [List.getElem?_append_right (by rw [List.length_map]; omega), List.getElem?_replicate] at h
    split at h <;> simp at h
theorem start_len {N : List Str} {vs : List V} (h : vs.length ≤ N.length) : (L2.start N vs).length = N.length := by
  unfold L2.start
  rw [List.length_append, List.length_map, List.length_replicate]
  omega
/-- the frame at a def's entry -/
def fm0 (p : Pr) (df : Def) (Oe : Addr → Prop) (vs : List V) (H : Hp) : Fm := ⟨p.G, df.ow, ioP df.io vs, p.T, Oe, Oe, H, []⟩
theorem fi0 {p : Pr} {df : Def} {N ps : List Str} (k : DefOk df N ps) {H : Hp} {Oe : Addr → Prop} {vs : List V} {ds : List D} (a : AR p.T df p.G H Oe vs ds) : FI (fm0 p df Oe vs H) (L2.start N vs) H (startE df ds) := by
  have oo : ∀ b, OO (fm0 p df Oe vs H) (L2.start N vs) (startE df ds) b → Oe b := fun b z => by
    rcases z with z | ⟨i, hi, ⟨d, hd⟩, hs⟩
    · exact z
    · have hd' := startE_get.mp hd
      have hlt : i < df.np := by rw [← a.dl]; exact (List.getElem?_eq_some_iff.mp hd').1
      obtain ⟨q, q1, q2, _⟩ := a.io i d hd' (k.par i hi hlt)
      rw [start_inv hs] at q1
      cases q1
      exact q2
  refine ⟨?_, fun i d h n => ?_, fun i d h n => ?_, fun i j b hi hj ⟨d, hd⟩ ⟨e, he⟩ h1 h2 => ?_, fun _ _ h _ _ => h, a.live, fun q hq => ?_, a.live, fun _ z => z, fun _ z => z, a.tabs, fun _ h => nomatch h⟩
  · rw [startE_len (by rw [a.dl]; exact k.le), start_len (by rw [a.vl, k.nl]; exact k.le), k.nl]
  · have h' := startE_get.mp h
    have hni : i ∉ df.io := fun z => n (k.io i z).1
    obtain ⟨v, h1, h2⟩ := a.fr i d h' hni
    exact ⟨v, start_get h1, h2.carry (.mono oo)⟩
  · have h' := startE_get.mp h
    have hlt : i < df.np := by rw [← a.dl]; exact (List.getElem?_eq_some_iff.mp h').1
    have hi := k.par i n hlt
    obtain ⟨q, q1, q2, q3⟩ := a.io i d h' hi
    exact ⟨q, start_get q1, q3.carry (.mono oo) rfl, .inl ⟨i, mem_ioP.mpr ⟨hi, q1⟩⟩⟩
  · have hd' := startE_get.mp hd
    have he' := startE_get.mp he
    exact a.dist i j b (k.par i hi (by rw [← a.dl]; exact (List.getElem?_eq_some_iff.mp hd').1)) (k.par j hj (by rw [← a.dl]; exact (List.getElem?_eq_some_iff.mp he').1)) (start_inv h1) (start_inv h2)
  · obtain ⟨i, b⟩ := q
    obtain ⟨h1, h2⟩ := mem_ioP.mp hq
    obtain ⟨g1, g2⟩ := k.io i h1
    have hlt : i < ds.length := by rw [a.dl]; exact g2
    obtain ⟨q', q1, q2, q3⟩ := a.io i ds[i] (List.getElem?_eq_getElem hlt) h1
    rw [h2] at q1
    cases q1
    exact ⟨g1, q2, start_get h2, ds[i], startE_get.mpr (List.getElem?_eq_getElem hlt)⟩
theorem outs_spec : ∀ {env : Env} {io : List Nat} {os : List D}, outsOf env io = some os → os.length = io.length ∧ ∀ (n i : Nat) (d : D), io[n]? = some i → os[n]? = some d → env.get i = some d
  | env, [], os, h => by
    simp [outsOf] at h
    subst h
    exact ⟨rfl, fun n i d h1 _ => by simp at h1⟩
  | env, i :: io, os, h => by
    unfold outsOf at h
    split at h
    · rename_i d ds h1 h2
      cases h
      obtain ⟨l, s⟩ := outs_spec h2
      refine ⟨by simp [l], fun n j e hj he => ?_⟩
      cases n with
      | zero =>
        simp only [List.getElem?_cons_zero, Option.some.injEq] at hj he
        rw [← hj, ← he]; exact h1
      | succ n => exact s n j e (by simpa using hj) (by simpa using he)
    · cases h
theorem dp_of {p : Pr} {df : Def} {N ps : List Str} (k : DefOk df N ps) {H H' : Hp} {Oe : Addr → Prop} {vs : List V} {ds : List D} (a : AR p.T df p.G H Oe vs ds) {σ : L2.St} {env : Env} {os : List D} {O' : Addr → Prop} (I : FI (fm0 p df Oe vs H) σ H' env) (ho : outsOf env df.io = some os)
    (hc : ∀ j b, (j, b) ∈ ioP df.io vs → ∀ e, env.get j = some e → Cont p.G H' O' b e) : DP p.T df.io vs p.G H Oe H' O' os := by
  obtain ⟨l, s⟩ := outs_spec ho
  refine ⟨fun b o h n t => I.kp b o h (fun j hj => n j (mem_ioP (io := df.io) (vs := vs) (i := j) (a := b) |>.mp hj).1 (mem_ioP (io := df.io) (vs := vs) (i := j) (a := b) |>.mp hj).2) t, l, fun n i d h1 h2 => ?_, I.sub, I.tabs⟩
  have hi : i ∈ df.io := List.mem_of_getElem? h1
  have hlt : i < ds.length := by rw [a.dl]; exact (k.io i hi).2
  obtain ⟨q, q1, _, _⟩ := a.io i ds[i] (List.getElem?_eq_getElem hlt) hi
  exact ⟨q, q1, hc i q (mem_ioP.mpr ⟨hi, q1⟩) d (s n i d h1 h2)⟩
theorem io_cont {p : Pr} {df : Def} {H H' : Hp} {Oe : Addr → Prop} {vs : List V} {σ : L2.St} {env : Env} (I : FI (fm0 p df Oe vs H) σ H' env) : ∀ j b, (j, b) ∈ ioP df.io vs → ∀ e, env.get j = some e → Cont p.G H' Oe b e := fun j b hj e he => by
  obtain ⟨i1, i2, i3, i4⟩ := I.ip (j, b) hj
  obtain ⟨b', h1, h2, _⟩ := I.own j e he i1
  rw [i3] at h1
  cases h1
  exact h2.carry (.mono fun a z => .inl z) rfl
/-- a def as it stands in the program -/
structure DefAt (p : Pr) (prog : Program) (w : World) (K : Frag) (mg : Str → Option Value) (base : Heap) (f : Nat) (df : Def) : Prop where
  ex : ∃ (name qual : Str) (params : Arguments) (body : List Stmt) (scope : Scope) (dV kV doc pm cdv ct oc : Value) (an od : Option Addr) (osl : Array (Option Value)) (N : List Str) (tl : Bool),
    K.lookup (p.da f) = some ⟨oc, od, .func (fnOf name qual params body scope dV kV doc pm an cdv ct), osl⟩ ∧ codeIn K cdv qual = true ∧ FnScope N (p.dps f) scope ∧ p.dfd f = fnOf name qual params body scope dV kV doc pm an cdv ct ∧ DefOk df N (p.dps f) ∧
    (tl = true → ∃ c P, LamX.TabB base mg c P ∧ cdv = .ref c ∧ (P, (qual ++ ".<locals>.") ++ "<lambda>") ∈ p.T ∧ ∀ q ∈ p.T, q.1 = P → q.2 = (qual ++ ".<locals>.") ++ "<lambda>") ∧
    ∀ (k : Nat) (X : Cx) (W : WX), Cok p N tl scope k X W → X.prog = prog → X.w = w → X.K = K → X.mg = mg → Sets N scope X → PassesOwn (model X.prog X.w) X.A X.env X.xe → PSs X body (tS p df.ow df.io df.fr W (evSs p.pg.tb (lev p.pg k) df.body))
theorem def_step {p : Pr} {prog : Program} {w : World} {K : Frag} {mg : Str → Option Value} {base : Heap} {k f : Nat} {df : Def} (hf : p.pg.defs f = some df) (D : DefAt p prog w K mg base f df) (A0 : Facts p prog w K mg base k) :
    FnOk prog w K mg base (L2.CX prog w) (k + 1) (p.da f) (p.dfd f) (p.dps f) (spD p df ((lev p.pg (k + 1)).c 0 f)) := by
  obtain ⟨name, qual, params, body, scope, dV, kV, doc, pm, cdv, ct, oc, an, od, osl, N, tl, h1, h2, h3, h4, h5, h6, h7⟩ := D.ex
  rw [h4]
  refine fn_of h1 h2 h3 (fun vs H Q E ⟨Oe, ds, a, _⟩ => by rw [a.vl, h5.np]) fun A outer s H vs Q E hr ⟨Oe, ds, a, sp⟩ => ?_
  have tk := takes_of (X := cxOf (L2.CX prog w) prog w K mg base N qual scope (p.da f) cdv A outer s H E) rfl rfl rfl rfl
  have C : Cok p N tl scope k (cxOf (L2.CX prog w) prog w K mg base N qual scope (p.da f) cdv A outer s H E) (fun cls d _ H' => E cls d H') := ⟨rfl, h3.nd, rfl, rfl, hr, tk, fun htl => by
    obtain ⟨c, P, t1, t2, t3, t4⟩ := h6 htl
    exact ⟨c, P, _, congrArg (fun z : Str => z ++ "<lambda>") (show (cxOf (L2.CX prog w) prog w K mg base N qual scope (p.da f) cdv A outer s H E).env.qual = qual ++ ".<locals>." from rfl), t1, t2, t3, t4⟩, A0⟩
  have hs := h7 k _ _ C rfl rfl rfl rfl ⟨rfl, h3.nd, rfl, fun x hx => ⟨hx, .inl rfl⟩⟩ (passes_of rfl)
  refine ⟨_, hs, fm0 p df Oe vs H, startE df ds, ⟨⟨rfl, rfl, rfl, fun _ z => z⟩, rfl, fun q hq => (mem_ioP.mp (by exact hq : (q.1, q.2) ∈ ioP df.io vs)).1⟩, fi0 h5 a, ?_⟩
  have e0 : (lev p.pg (k + 1)).c 0 f ds = endD df (evSs p.pg.tb (lev p.pg k) df.body (startE df ds)) := by
    show call1 p.pg (lev p.pg k) f ds = _
    unfold call1
    rw [hf]
    simp only []
    rw [if_pos a.dl]
  rw [e0] at sp
  cases hev : evSs p.pg.tb (lev p.pg k) df.body (startE df ds) with
  | err => rw [hev] at sp; exact sp.elim
  | brk e => rw [hev] at sp; exact sp.elim
  | cont e => rw [hev] at sp; exact sp.elim
  | nx e =>
    rw [hev] at sp
    cases ho : outsOf e df.io with
    | none => simp only [endD, ho] at sp
    | some os =>
      simp only [endD, ho] at sp
      exact fun σ H' I => sp .non H' (dp_of h5 a I ho (io_cont I)) .non fun _ z => by rcases z with z | z <;> cases z
  | ret r e =>
    rw [hev] at sp
    cases ho : outsOf e df.io with
    | none => simp only [endD, ho] at sp
    | some os =>
      simp only [endD, ho] at sp
      intro v σ H' I R
      refine sp v H' (dp_of h5 a I ho (io_cont I)) R.1 fun z1 z2 => ?_
      obtain ⟨q, g1, g2, g3, g4⟩ := R.2 z1 z2
      exact ⟨q, g1, g2, g3, dp_of h5 a I ho g4⟩
  | exc c e =>
    rw [hev] at sp
    cases ho : outsOf e df.io with
    | none => simp only [endD, ho] at sp
    | some os =>
      simp only [endD, ho] at sp
      exact fun dx σ H' I => sp dx H' (dp_of h5 a I ho (io_cont I))
theorem def_zero {p : Pr} {prog : Program} {w : World} {K : Frag} {mg : Str → Option Value} {base : Heap} {f : Nat} {df : Def} (np : (p.dps f).length = df.np) :
    FnOk prog w K mg base (L2.CX prog w) 0 (p.da f) (p.dfd f) (p.dps f) (spD p df ((lev p.pg 0).c 0 f)) :=
  ⟨fun vs H Q E ⟨Oe, ds, a, _⟩ => by rw [a.vl, np], fun A outer s H args us vs Q E _ _ _ _ ⟨Oe, ds, a, sp⟩ => sp.elim⟩
/-- all levels -/
theorem facts_all {p : Pr} {prog : Program} {w : World} {K : Frag} {mg : Str → Option Value} {base : Heap} (F0 : ∀ k, (∀ j, j ≤ k → ∀ f df, p.pg.defs f = some df → FnOk prog w K mg base (L2.CX prog w) j (p.da f) (p.dfd f) (p.dps f) (spD p df ((lev p.pg j).c 0 f))) → Facts p prog w K mg base k)
    (D : ∀ f df, p.pg.defs f = some df → DefAt p prog w K mg base f df) : ∀ k, Facts p prog w K mg base k := by
  have np : ∀ f df, p.pg.defs f = some df → (p.dps f).length = df.np := fun f df h => by
    obtain ⟨_, _, _, _, _, _, _, _, _, _, _, _, _, _, _, _, _, _, _, _, _, h5, _, _⟩ := (D f df h).ex
    exact h5.np
  intro k
  induction k with
  | zero =>
    refine F0 0 fun j hj f df h => ?_
    have : j = 0 := by omega
    subst this
    exact def_zero (np f df h)
  | succ k ih =>
    refine F0 (k + 1) fun j hj f df h => ?_
    by_cases hk : j ≤ k
    · exact ih.fn j hk f df h
    · have : j = k + 1 := by omega
      subst this
      exact def_step h (D f df h) ih
end Bh
/-! text Bh5p -/
set_option Elab.async false
set_option linter.all false
set_option maxRecDepth 100000
set_option maxHeartbeats 2000000
/-! Bh5p: the checker of expressions. -/
namespace Bh
open PySem PySem.W L2 PyProof.Rows
/-- what is fixed of a program -/
structure Cg where
  pg : Pg
  gl : Nat → Str
  dn : Nat → Str
  mn : Nat → Str
  cn : Nat → Str
  fnm : Nat → Str
  top : Nat → Bool
  exc : Nat → Bool
  ms : List (Nat × Nat × Nat)
  told : Str
def Cg.pr (c : Cg) (w : World) (K : Frag) (ca : Nat → Addr) (T : List (Addr × Str)) (da : Nat → Addr) (dfd : Nat → FuncData) (dps : Nat → List Str) : Pr := ⟨⟨w, K, ca, c.fnm⟩, T, c.pg, c.gl, c.dn, c.mn, c.cn, da, dfd, dps, c.top, c.exc⟩
def Cg.methB (g : Cg) (ow : List Nat) (m : Nat) (es : Es) : Bool := g.ms.all fun q => q.2.1 != m || match g.pg.defs q.2.2 with
  | some df => argsOk ow df.io es && (esLen es == df.np)
  | none => true
def op2Is : Op2 → Operator → Bool
  | .add, .Add => true
  | .sub, .Sub => true
  | .mul, .Mult => true
  | .fdiv, .FloorDiv => true
  | .mod, .Mod => true
  | .pow, .Pow => true
  | _, _ => false
theorem op2Is_eq {o : Op2} {q : Operator} (h : op2Is o q = true) : q = op2 o := by cases o <;> cases q <;> first | rfl | (simp [op2Is] at h)
def cm2Is : Cm → CmpOp → Bool
  | .eq, .Eq => true
  | .ne, .NotEq => true
  | .lt, .Lt => true
  | .le, .LtE => true
  | .gt, .Gt => true
  | .ge, .GtE => true
  | .isin, .In => true
  | .notin, .NotIn => true
  | .is, .Is => true
  | .isnot, .IsNot => true
  | _, _ => false
theorem cm2Is_eq {o : Cm} {q : CmpOp} (h : cm2Is o q = true) : q = cm2 o := by cases o <;> cases q <;> first | rfl | (simp [cm2Is] at h)
def isUSub : UnaryOp → Bool
  | .USub => true
  | _ => false
def isNot : UnaryOp → Bool
  | .Not => true
  | _ => false
def isAnd : BoolOp → Bool
  | .And => true
  | _ => false
def slotE (N : List Str) (sc : Scope) (i : Nat) : Expr → Bool
  | .Name x _ => decide (N[i]? = some x) && visB sc x && plainName x
  | _ => false
def asLc : Expr → Option (Expr × Expr × Expr × List Expr × Scope)
  | .ListComp elt [⟨tg, iter, ifs, 0⟩] scope _ => some (elt, tg, iter, ifs, scope)
  | _ => none
theorem asLc_eq {e elt tg iter : Expr} {ifs : List Expr} {scope : Scope} (h : asLc e = some (elt, tg, iter, ifs, scope)) : ∃ pos, e = .ListComp elt [⟨tg, iter, ifs, 0⟩] scope pos := by
  unfold asLc at h
  split at h
  · cases h; exact ⟨_, rfl⟩
  · cases h
def ownOf (N : List Str) (t : T) : List (Str × Nat) := t.slots.filterMap fun i => (N[i]?).map fun x => (x, i)
def noPar : Arguments → Bool
  | ⟨[], [], none, [], [], none, []⟩ => true
  | _ => false
theorem noPar_eq {a : Arguments} (h : noPar a = true) : a = ⟨[], [], none, [], [], none, []⟩ := by
  unfold noPar at h
  split at h
  · rfl
  · cases h
def asTold : Expr → Option (Str × Arguments × Expr × Scope)
  | .Call (.Name x _) [.Lambda a b s _] [] _ => some (x, a, b, s)
  | _ => none
theorem asTold_eq {e b : Expr} {x : Str} {a : Arguments} {s : Scope} (h : asTold e = some (x, a, b, s)) : ∃ p1 p2 p3, e = .Call (.Name x p1) [.Lambda a b s p2] [] p3 := by
  unfold asTold at h
  split at h
  · cases h; exact ⟨_, _, _, rfl⟩
  · cases h
def asPick : Expr → Option (List (Option Expr) × List Expr × Expr)
  | .Subscript (.Dict ks vs _) k _ => some (ks, vs, k)
  | _ => none
theorem asPick_eq {e k : Expr} {ks : List (Option Expr)} {vs : List Expr} (h : asPick e = some (ks, vs, k)) : ∃ p1 p2, e = .Subscript (.Dict ks vs p1) k p2 := by
  unfold asPick at h
  split at h
  · cases h; exact ⟨_, _, rfl⟩
  · cases h
def asSlice : Expr → Option (Expr × Option Expr × Option Expr)
  | .Subscript a (.Slice pl ph none _) _ => some (a, pl, ph)
  | _ => none
theorem asSlice_eq {e a : Expr} {pl ph : Option Expr} (h : asSlice e = some (a, pl, ph)) : ∃ p1 p2, e = .Subscript a (.Slice pl ph none p1) p2 := by
  unfold asSlice at h
  split at h
  · cases h; exact ⟨_, _, rfl⟩
  · cases h
/-- enumerate is walked by a tuple of names -/
def itTg : It → Expr → Bool
  | .enum _, .Tuple _ _ _ => true
  | .enum _, _ => false
  | _, _ => true
mutual
def mE (g : Cg) (N : List Str) (ow : List Nat) : E → Bool → Scope → Expr → Bool
  | .var i, _, sc, pe => slotE N sc i pe && decide (i ∉ ow)
  | .own _, _, _, _ => false
  | .con d, _, _, pe => conIs d pe
  | .glob n, _, sc, pe => (match asName pe with
    | some x => decide (x = g.gl n)
    | none => false) && gloB sc (g.gl n) && plainName (g.gl n) && (g.pg.tb.glob n).isSome
  | .op o es, tl, sc, pe => match asBin pe with
    | some (a, q, b) => op2Is o q && mEs g N ow es tl sc [a, b] && lateIn ow es
    | none => false
  | .cmp c es, tl, sc, pe => match asCmp1 pe with
    | some (a, q, b) => cm2Is c q && mEs g N ow es tl sc [a, b] && lateIn ow es && !behindInMarks q b
    | none => false
  | .chain c1 c2 es c, tl, sc, pe => match asCmp2 pe with
    | some (a, q1, b, q2, d) => cm2Is c1 q1 && cm2Is c2 q2 && mEs g N ow es tl sc [a, b] && lateIn ow es && mE g N ow c tl sc d && !lastMarks [q1, q2] [b, d] && (match es with
      | .cons _ (.cons eb .nil) => (lateOf eb).isNone
      | _ => false)
    | none => false
  | .neg e, tl, sc, pe => match asUn pe with
    | some (o, a) => isUSub o && mE g N ow e tl sc a
    | none => false
  | .no e, tl, sc, pe => match asUn pe with
    | some (o, a) => isNot o && mE g N ow e tl sc a
    | none => false
  | .and a b, tl, sc, pe => match asBool pe with
    | some (o, x, r) => isAnd o && mE g N ow a tl sc x && (match asOne r with
      | some y => mE g N ow b tl sc y
      | none => mE g N ow b tl sc r)
    | none => false
  | .or a b, tl, sc, pe => match asBool pe with
    | some (o, x, r) => !isAnd o && mE g N ow a tl sc x && (match asOne r with
      | some y => mE g N ow b tl sc y
      | none => mE g N ow b tl sc r)
    | none => false
  | .ite c a b, tl, sc, pe => match asIf pe with
    | some (x, y, z) => mQ g N ow c tl sc x && mE g N ow a tl sc y && mE g N ow b tl sc z
    | none => false
  | .tup es, tl, sc, pe => match asTup pe with
    | some xs => mEs g N ow es tl sc xs && noLate es
    | none => false
  | .lst es, tl, sc, pe => match asLst pe with
    | some xs => mEs g N ow es tl sc xs && noLate es
    | none => false
  | .idx es, tl, sc, pe => match asSub pe with
    | some (a, b) => mEs g N ow es tl sc [a, b] && lateIn ow es && !isSlice b
    | none => false
  | .slice ea lo hi, tl, sc, pe => match asSlice pe with
    | some (a, pl, ph) => (match lateOf ea with
      | some i => slotE N sc i a && decide (i ∈ ow)
      | none => mE g N ow ea tl sc a) && mP g N ow lo tl sc pl && mP g N ow hi tl sc ph
    | none => false
  | .bf f es, tl, sc, pe => match asCall pe with
    | some (x, a :: as) => decide (x = bfName f) && gloB sc (bfName f) && mEs g N ow es tl sc (a :: as) && lateIn ow es
    | _ => false
  | .mm m i es, tl, sc, pe => match asMeth pe with
    | some (o, x, as) => (match m with
      | .append => decide (x = ("append" : Str)) && slotE N sc i o && decide (i ∈ ow) && mEs g N ow es tl sc as && (match es, as with
        | .cons e .nil, [_] => (lateOf e).isNone
        | _, _ => false)
      | .pop => decide (x = ("pop" : Str)) && slotE N sc i o && decide (i ∈ ow) && (match es, as with
        | .nil, [] => true
        | _, _ => false)
      | _ => false)
    | none => false
  | .lm m o es, tl, sc, pe => match asMeth pe with
    | some (x, n, [a]) => decide (n = ("index" : Str)) && noLate es && mEs g N ow es tl sc [a] && (match m with
      | .index => (match lateOf o with
        | some i => slotE N sc i x && decide (i ∈ ow)
        | none => mE g N ow o tl sc x)
      | .indexT => (lateOf o).isNone && mE g N ow o tl sc x)
    | _ => false
  | .call f es, tl, sc, pe => match asCall pe, g.pg.defs f with
    | some (x, as), some df => decide (x = g.dn f) && g.top f && (g.pg.tb.fresh f == df.fr) && gloB sc (g.dn f) && plainName (g.dn f) && mEs g N ow es tl sc as && argsOk ow df.io es && (esLen es == df.np)
    | _, _ => false
  | .meth m o es, tl, sc, pe => match asMeth pe with
    | some (x, n, as) => decide (n = g.mn m) && (match lateOf o with
      | some i => slotE N sc i x && decide (i ∈ ow)
      | none => mE g N ow o tl sc x) && mEs g N ow es tl sc as && decide (as.length < 30) && g.methB ow m (.cons o es)
    | none => false
  | .make c es, tl, sc, pe => match asCall pe, g.pg.tb.init c with
    | some (x, as), some f => (match g.pg.defs f with
      | some df => decide (x = g.cn c) && gloB sc (g.cn c) && plainName (g.cn c) && mEs g N ow es tl sc as && noLate es && decide (df.io = [0]) && (esLen es + 1 == df.np)
      | none => false)
    | _, _ => false
  | .io _, _, _, _ => false
  | .bor _, _, _, _ => false
  | .fld es f, tl, sc, pe => match asAttr pe with
    | some (o, m) => decide (m = g.fnm f) && !isCall o && mEs g N ow es tl sc [o] && lateIn ow es && (esLen es == 1)
    | none => false
  | .lc t it c e, tl, sc, pe => match asLc pe with
    | some (elt, tg, iter, ifs, scope) => blkC N sc scope (ownOf N t) && decide ((ownOf N t).map (·.2) = t.slots) && Bh.mT N scope t tg && itTg it tg && !isSetE iter && (t.slots.all fun i => decide (i ∉ ow)) && mI g N ow it tl sc iter && mC g N ow c false (relS scope sc) ifs && mE g N ow e false (relS scope sc) elt
    | none => false
  | .told e, tl, sc, pe => match asTold pe with
    | some (x, a, b, s) => decide (x = g.told) && gloB sc x && plainName x && tl && LamX.lamSB sc s && noPar a && mE g N ow e false s b
    | none => false
  | .pick ks es k, tl, sc, pe => match asPick pe with
    | some (keys, vals, ke) => keysAre ks keys && decide (ks.length = vals.length) && mEs g N ow es tl sc vals && noLate es && decide (ks.length = esLen es) && decide ks.Nodup && !keys.isEmpty && decide (ks.length ≤ 15) && mE g N ow k tl sc ke && !isSlice ke
    | none => false
/-- as a test -/
def mQ (g : Cg) (N : List Str) (ow : List Nat) : E → Bool → Scope → Expr → Bool
  | .cmp c es, tl, sc, pe => match asCmp1 pe with
    | some (a, q, b) => cm2Is c q && mEs g N ow es tl sc [a, b] && lateIn ow es && !behindInMarks q b
    | none => false
  | .chain c1 c2 es c, tl, sc, pe => match asCmp2 pe with
    | some (a, q1, b, q2, d) => cm2Is c1 q1 && cm2Is c2 q2 && mEs g N ow es tl sc [a, b] && lateIn ow es && mE g N ow c tl sc d && !lastMarks [q1, q2] [b, d] && (match es with
      | .cons _ (.cons eb .nil) => (lateOf eb).isNone
      | _ => false)
    | none => false
  | .no e, tl, sc, pe => match asUn pe with
    | some (o, a) => isNot o && mQ g N ow e tl sc a
    | none => false
  | .and a b, tl, sc, pe => match asBool pe with
    | some (o, x, r) => isAnd o && mQ g N ow a tl sc x && (match asOne r with
      | some y => mQ g N ow b tl sc y
      | none => mQ g N ow b tl sc r)
    | none => false
  | .or a b, tl, sc, pe => match asBool pe with
    | some (o, x, r) => !isAnd o && mQ g N ow a tl sc x && (match asOne r with
      | some y => mQ g N ow b tl sc y
      | none => mQ g N ow b tl sc r)
    | none => false
  | .var i, _, sc, pe => slotE N sc i pe && decide (i ∉ ow)
  | .con d, _, _, pe => conIs d pe
  | .call f es, tl, sc, pe => match asCall pe, g.pg.defs f with
    | some (x, as), some df => decide (x = g.dn f) && g.top f && (g.pg.tb.fresh f == df.fr) && gloB sc (g.dn f) && plainName (g.dn f) && mEs g N ow es tl sc as && argsOk ow df.io es && (esLen es == df.np)
    | _, _ => false
  | .meth m o es, tl, sc, pe => match asMeth pe with
    | some (x, n, as) => decide (n = g.mn m) && (match lateOf o with
      | some i => slotE N sc i x && decide (i ∈ ow)
      | none => mE g N ow o tl sc x) && mEs g N ow es tl sc as && decide (as.length < 30) && g.methB ow m (.cons o es)
    | none => false
  | .idx es, tl, sc, pe => match asSub pe with
    | some (a, b) => mEs g N ow es tl sc [a, b] && lateIn ow es && !isSlice b
    | none => false
  | .fld es f, tl, sc, pe => match asAttr pe with
    | some (o, m) => decide (m = g.fnm f) && !isCall o && mEs g N ow es tl sc [o] && lateIn ow es && (esLen es == 1)
    | none => false
  | _, _, _, _ => false
def mC (g : Cg) (N : List Str) (ow : List Nat) : Option E → Bool → Scope → List Expr → Bool
  | none, _, _, xs => xs.isEmpty
  | some c, tl, sc, [x] => mQ g N ow c tl sc x
  | some _, _, _, _ => false
def mEs (g : Cg) (N : List Str) (ow : List Nat) : Es → Bool → Scope → List Expr → Bool
  | .nil, _, _, xs => xs.isEmpty
  | .cons e es, tl, sc, x :: xs => !isStar x && (match lateOf e with
    | some i => slotE N sc i x
    | none => mE g N ow e tl sc x) && mEs g N ow es tl sc xs
  | .cons _ _, _, _, [] => false
def mP (g : Cg) (N : List Str) (ow : List Nat) : Option E → Bool → Scope → Option Expr → Bool
  | none, _, _, none => true
  | some e, tl, sc, some pe => mE g N ow e tl sc pe
  | _, _, _, _ => false
def mI (g : Cg) (N : List Str) (ow : List Nat) : It → Bool → Scope → Expr → Bool
  | .seq e, tl, sc, pe => mE g N ow e tl sc pe
  | .rng1 e, tl, sc, pe => match asCall pe with
    | some (x, [a]) => decide (x = ("range" : Str)) && gloB sc "range" && !isStar a && mE g N ow e tl sc a
    | _ => false
  | .rng2 es, tl, sc, pe => match asCall pe with
    | some (x, [a, b]) => decide (x = ("range" : Str)) && gloB sc "range" && mEs g N ow es tl sc [a, b] && lateIn ow es
    | _ => false
  | .enum e, tl, sc, pe => match asCall pe with
    | some (x, [a]) => decide (x = ("enumerate" : Str)) && gloB sc "enumerate" && !isStar a && mE g N ow e tl sc a
    | _ => false
end
end Bh
/-! text Bh5q -/
set_option Elab.async false
set_option linter.all false
set_option maxRecDepth 100000
set_option maxHeartbeats 4000000
/-! Bh5q: the checker of expressions is sound. -/
namespace Bh
open PySem PySem.W L2 PyProof.Rows
theorem slot_pe {p : Pr} {N : List Str} {tl : Bool} {sc : Scope} {k : Nat} {X : Cx} {W : WX} (C : Cok p N tl sc k X W) {i : Nat} {pe : Expr} (h : slotE N sc i pe = true) : PE X pe (tVar i) := by
  unfold slotE at h
  split at h
  · simp only [Bool.and_eq_true, decide_eq_true_eq] at h
    exact pe_slot C h.1.1 h.1.2 h.2
  · cases h
/-- the context of a comprehension's block -/
theorem Cok.blk {p : Pr} {N : List Str} {tl : Bool} {sc : Scope} {k : Nat} {X : Cx} {W : WX} (C : Cok p N tl sc k X W) (scope : Scope) (s : Shared) (H : Hp) (Cc : Addr) (cl : List (Str × Addr)) (fp : List Addr) :
    Cok p N false (relS scope sc) k (X.blk s H scope (compEnvC scope cl Cc X.env) fp) W0 := by
  refine ⟨C.nm, C.nd, ?_, C.calm, C.room, fun u s' h => ?_, fun h => (nomatch h), C.facts⟩
  · show relabel scope X.env = relS scope sc
    rw [← C.scope]
    rfl
  · obtain ⟨_, _, _, _, _, _, _, _, _, _, _, _, _, _, _, _, w⟩ := h
    exact w.elim
theorem Sets.blk {p : Pr} {N : List Str} {tl : Bool} {sc : Scope} {k : Nat} {X : Cx} {W : WX} (C : Cok p N tl sc k X W) (scope : Scope) (s : Shared) (H : Hp) (Cc : Addr) (cl : List (Str × Addr)) (fp : List Addr) :
    Sets N scope (X.blk s H scope (compEnvC scope cl Cc X.env) fp) := by
  refine ⟨C.nm, C.nd, C.calm, fun x hx => ?_⟩
  have e : (X.blk s H scope (compEnvC scope cl Cc X.env) fp).env.scope.names.lookup x = (relS scope X.env.scope).names.lookup x := rfl
  rcases hx with h | h
  · have h2 := lookup_relS_keep (sc := X.env.scope) (k := NameKind.local) (by decide) h
    exact ⟨.inl (e.trans h2), .inr (e.trans h2)⟩
  · have h2 := lookup_relS_keep (sc := X.env.scope) (k := NameKind.cell) (by decide) h
    refine ⟨.inr (e.trans h2), .inl ?_⟩
    show (scope.names.lookup x == some .cell) = true
    rw [h]; rfl
/-- the context of a lambda -/
theorem Cok.lamc {p : Pr} {N : List Str} {tl : Bool} {sc : Scope} {k k' : Nat} {X : Cx} {W : WX} (C : Cok p N tl sc k X W) (hk : k' ≤ k) (scope : Scope) (A : Around) (outer : List PySem.Env) (s : Shared) (H : Hp) (E : XK) (f c' : Addr) (hr : Room k' (A.deeper (LamX.lamEnv X scope s.heap.objs.size f c'))) :
    Cok p N false scope k' (LamX.lamCx X A outer s H E scope f c') (fun cls d _ H => E cls d H) := by
  refine ⟨C.nm, C.nd, rfl, rfl, hr, takes_of rfl rfl rfl rfl, fun h => (nomatch h), ?_⟩
  have F := C.facts
  exact ⟨F.hK, F.hW, F.glob, F.bln, F.rng, F.enm, F.dm, F.kp, F.bi, fun j hj => F.fn j (Nat.le_trans hj hk), F.inj, F.nom, F.meth, F.init, F.exc, F.fld⟩
theorem PW_of {X : Cx} {op : BoolOp} {vs : List Expr} {pos : Pos} {t : TT} (h : PT X (.BoolOp op vs pos) t) : PW X (.BoolOp op vs pos) t := ⟨fun whole pins s σ H Q I q => by
  have := h.run pins s σ H Q I q
  have e : isTrue (.BoolOp op vs pos) X.env whole = isTrue (.BoolOp op vs pos) X.env (eval (.BoolOp op vs pos) X.env) := rfl
  rw [e]
  exact this⟩
theorem t_and {p : Pr} {ow : List Nat} {X : Cx} {W : WX} {tb : Tb} {cf : CF} {ea eb : E} {a b : Expr} {r : List Expr} {pos : Pos} (ha : PT X a (tT p ow tb cf W ea)) (hb : PT X (.BoolOp .And (b :: r) pos) (tT p ow tb cf W eb)) :
    PT X (.BoolOp .And (a :: b :: r) pos) (tT p ow tb cf W (.and ea eb)) := by
  refine PTimp (PW.pt (pw_and ha (PW_of hb))) fun σ H Q ⟨F, env, ok, I, w⟩ => ?_
  rw [evE] at w
  refine ⟨F, env, ok, I, w.bind.imp fun d env' H' P w => ?_⟩
  cases d with
  | bl i =>
    refine ⟨i, rfl, ?_⟩
    cases i with
    | true => rw [if_pos rfl]; exact ⟨F, env', ok, P.fi, w⟩
    | false =>
      rw [if_neg (by decide)]
      obtain ⟨b, e, q⟩ := w H' (.refl P.fi)
      cases e
      exact q
  | _ => exact w.elim
theorem t_or {p : Pr} {ow : List Nat} {X : Cx} {W : WX} {tb : Tb} {cf : CF} {ea eb : E} {a b : Expr} {r : List Expr} {pos : Pos} (ha : PT X a (tT p ow tb cf W ea)) (hb : PT X (.BoolOp .Or (b :: r) pos) (tT p ow tb cf W eb)) :
    PT X (.BoolOp .Or (a :: b :: r) pos) (tT p ow tb cf W (.or ea eb)) := by
  refine PTimp (PW.pt (pw_or ha (PW_of hb))) fun σ H Q ⟨F, env, ok, I, w⟩ => ?_
  rw [evE] at w
  refine ⟨F, env, ok, I, w.bind.imp fun d env' H' P w => ?_⟩
  cases d with
  | bl i =>
    refine ⟨i, rfl, ?_⟩
    cases i with
    | true =>
      rw [if_pos rfl]
      obtain ⟨b, e, q⟩ := w H' (.refl P.fi)
      cases e
      exact q
    | false => rw [if_neg (by decide)]; exact ⟨F, env', ok, P.fi, w⟩
  | _ => exact w.elim
theorem pt_one {X : Cx} {op : BoolOp} {a : Expr} {pos : Pos} {t : TT} (h : PT X a t) : PT X (.BoolOp op [a] pos) t := by
  cases op
  · exact PW.pt (pw_and1 h)
  · exact PW.pt (pw_or1 h)
theorem not_and {o : BoolOp} (h : isAnd o = false) : o = .Or := by cases o <;> first | rfl | (simp [isAnd] at h)
theorem is_and {o : BoolOp} (h : isAnd o = true) : o = .And := by cases o <;> first | rfl | (simp [isAnd] at h)
section
variable {g : Cg} {p : Pr} {N : List Str} {ow : List Nat} {tl : Bool} {sc : Scope} {k : Nat} {X : Cx} {W : WX} {es : Es} {pe : Expr}
/-- p is of the frame g -/
def IsP (g : Cg) (p : Pr) : Prop := ∃ w K ca T da dfd dps, p = g.pr w K ca T da dfd dps
/-- methods are told by the list -/
def MsOk (g : Cg) : Prop := ∀ c m f, g.pg.tb.meth c m = some f → (c, m, f) ∈ g.ms
theorem c_call (hp : IsP g p) (C : Cok p N tl sc k X W) {f : Nat} {as : List Expr} {x : Str} {df : Def} {q pos : Pos} (hd : g.pg.defs f = some df) (h : PEs X as (tOs p ow p.pg.tb (lev p.pg k) W es))
    (h1 : x = g.dn f) (h2 : g.top f = true) (h3 : (g.pg.tb.fresh f == df.fr) = true) (h4 : gloB sc (g.dn f) = true) (h5 : plainName (g.dn f) = true) (h6 : argsOk ow df.io es = true) (h7 : (esLen es == df.np) = true) :
    PE X (.Call (.Name x q) as [] pos) (tE p ow p.pg.tb (lev p.pg k) W (.call f es)) := by
  obtain ⟨w, K, ca, T, da, dfd, dps, rfl⟩ := hp
  subst h1
  exact s_call (p := g.pr w K ca T da dfd dps) C hd h2 (beq_iff_eq.mp h3) h4 h5 h h6 (beq_iff_eq.mp h7)
theorem c_meth (hp : IsP g p) (hm : MsOk g) (C : Cok p N tl sc k X W) {m : Nat} {n : Str} {eo : E} {o : Expr} {as : List Expr} {ap pos : Pos} (hc : isCall o = false) (hl : (ap.endLine == pos.line) = true) (ho : PE X o (tO p ow p.pg.tb (lev p.pg k) W eo)) (h : PEs X as (tOs p ow p.pg.tb (lev p.pg k) W es))
    (h1 : n = g.mn m) (h2 : ∀ i, lateOf eo = some i → i ∈ ow) (h3 : as.length < 30) (h4 : g.methB ow m (.cons eo es) = true) : PE X (.Call (.Attribute o n ap) as [] pos) (tE p ow p.pg.tb (lev p.pg k) W (.meth m eo es)) := by
  obtain ⟨w, K, ca, T, da, dfd, dps, rfl⟩ := hp
  subst h1
  refine s_meth (p := g.pr w K ca T da dfd dps) C hc ho h h3 hl h2 fun c f hcf df hdf => ?_
  have := List.all_eq_true.mp h4 (c, m, f) (hm c m f hcf)
  have hdf' : g.pg.defs f = some df := hdf
  simp only [bne_self_eq_false, Bool.false_or, hdf', Bool.and_eq_true, beq_iff_eq] at this
  exact this
theorem c_fld (hp : IsP g p) (C : Cok p N tl sc k X W) {f : Nat} {m : Str} {o : Expr} {pos : Pos} (hc : isCall o = false) (h : PEs X [o] (tOs p ow p.pg.tb (lev p.pg k) W es)) (h1 : m = g.fnm f) (h2 : lateIn ow es = true) (h3 : (esLen es == 1) = true) :
    PE X (.Attribute o m pos) (tE p ow p.pg.tb (lev p.pg k) W (.fld es f)) := by
  obtain ⟨w, K, ca, T, da, dfd, dps, rfl⟩ := hp
  subst h1
  cases es with
  | nil => simp [esLen] at h3
  | cons e es =>
    cases es with
    | cons _ _ => simp [esLen] at h3
    | nil =>
      obtain ⟨ta, ht, ho⟩ := h.one
      have e1 : tO (g.pr w K ca T da dfd dps) ow (g.pr w K ca T da dfd dps).pg.tb (lev (g.pr w K ca T da dfd dps).pg k) W e = ta := by
        have := congrArg List.head? ht
        simpa [tOs] using this
      rw [← e1] at ho
      exact s_fld (p := g.pr w K ca T da dfd dps) C hc ho h2
theorem noLate_of {e : E} (h : (lateOf e).isNone = true) : lateOf e = none := Option.isNone_iff_eq_none.mp h
theorem own_slots (N : List Str) (t : Bh.T) (h : (ownOf N t).map (·.2) = t.slots) : (ownOf N t).map (·.2) = t.slots := h
mutual
theorem snd_E (hp : IsP g p) (hm : MsOk g) : ∀ (e : E) (tl : Bool) (sc : Scope) (pe : Expr), mE g N ow e tl sc pe = true → ∀ (k : Nat) (X : Cx) (W : WX), Cok p N tl sc k X W → ToldAt p X.K X.mg g.told → PE X pe (tE p ow p.pg.tb (lev p.pg k) W e)
  | .var i, tl, sc, pe, h, k, X, W, C, T => by
    simp only [mE, Bool.and_eq_true, decide_eq_true_eq] at h
    exact s_var C (slot_pe C h.1) h.2
  | .own _, _, _, _, h, _, _, _, _, _ => by simp [mE] at h
  | .con d, tl, sc, pe, h, k, X, W, C, T => s_con (by simpa only [mE] using h)
  | .glob n, tl, sc, pe, h, k, X, W, C, T => by
    simp only [mE, Bool.and_eq_true] at h
    obtain ⟨⟨⟨h1, h2⟩, h3⟩, h4⟩ := h
    cases ha : asName pe with
    | none => rw [ha] at h1; cases h1
    | some x =>
      rw [ha] at h1
      simp only [decide_eq_true_eq] at h1
      obtain ⟨pos, rfl⟩ := asName_eq ha
      subst h1
      obtain ⟨w, K, ca, T', da, dfd, dps, rfl⟩ := hp
      exact s_glob (p := g.pr w K ca T' da dfd dps) C h2 h3 h4
  | .op o es, tl, sc, pe, h, k, X, W, C, T => by
    simp only [mE] at h
    split at h
    · rename_i a q b ha
      simp only [Bool.and_eq_true] at h
      obtain ⟨pos, rfl⟩ := asBin_eq ha
      rw [op2Is_eq h.1.1]
      exact s_op C (snd_Es hp hm es tl sc _ h.1.2 k X W C T) h.2
    · cases h
  | .cmp c es, tl, sc, pe, h, k, X, W, C, T => by
    simp only [mE] at h
    split at h
    · rename_i a q b ha
      simp only [Bool.and_eq_true, Bool.not_eq_true'] at h
      obtain ⟨pos, rfl⟩ := asCmp1_eq ha
      have e := cm2Is_eq h.1.1.1
      subst e
      exact s_cmp C (snd_Es hp hm es tl sc _ h.1.1.2 k X W C T) h.1.2 h.2
    · cases h
  | .chain c1 c2 es c, tl, sc, pe, h, k, X, W, C, T => by
    simp only [mE] at h
    split at h
    · rename_i a q1 b q2 d ha
      simp only [Bool.and_eq_true, Bool.not_eq_true'] at h
      obtain ⟨⟨⟨⟨⟨⟨h1, h2⟩, h3⟩, h4⟩, h5⟩, h6⟩, h7⟩ := h
      obtain ⟨pos, rfl⟩ := asCmp2_eq ha
      have e1 := cm2Is_eq h1
      have e2 := cm2Is_eq h2
      subst e1; subst e2
      have ih := snd_Es hp hm es tl sc _ h3 k X W C T
      have ic := snd_E hp hm c tl sc _ h5 k X W C T
      split at h7
      · rename_i ea eb
        cases ih with
        | cons i1 _ r => cases r with
          | cons i2 _ r2 => exact s_chain C i1 i2 ic h4 (noLate_of h7) h6
      · cases h7
    · cases h
  | .neg e, tl, sc, pe, h, k, X, W, C, T => by
    simp only [mE] at h
    split at h
    · rename_i o a ha
      simp only [Bool.and_eq_true] at h
      obtain ⟨pos, rfl⟩ := asUn_eq ha
      have eo : o = .USub := by
        have := h.1
        cases o <;> first | rfl | (simp [isUSub] at this)
      subst eo
      exact s_neg C (snd_E hp hm e tl sc _ h.2 k X W C T)
    · cases h
  | .no e, tl, sc, pe, h, k, X, W, C, T => by
    simp only [mE] at h
    split at h
    · rename_i o a ha
      simp only [Bool.and_eq_true] at h
      obtain ⟨pos, rfl⟩ := asUn_eq ha
      have eo : o = .Not := by
        have := h.1
        cases o <;> first | rfl | (simp [isNot] at this)
      subst eo
      exact s_no C (snd_E hp hm e tl sc _ h.2 k X W C T)
    · cases h
  | .and a b, tl, sc, pe, h, k, X, W, C, T => by
    simp only [mE] at h
    split at h
    · rename_i o x r ha
      simp only [Bool.and_eq_true] at h
      obtain ⟨y, rr, pos, rfl, rfl⟩ := asBool_eq ha
      have eo := is_and h.1.1
      subst eo
      refine s_and C (snd_E hp hm a tl sc _ h.1.2 k X W C T) ?_
      have h2 := h.2
      split at h2
      · rename_i z hz
        obtain ⟨o2, p2, e2⟩ := asOne_eq hz
        cases e2
        exact pe_one (snd_E hp hm b tl sc _ h2 k X W C T)
      · exact snd_E hp hm b tl sc _ h2 k X W C T
    · cases h
  | .or a b, tl, sc, pe, h, k, X, W, C, T => by
    simp only [mE] at h
    split at h
    · rename_i o x r ha
      simp only [Bool.and_eq_true, Bool.not_eq_true'] at h
      obtain ⟨y, rr, pos, rfl, rfl⟩ := asBool_eq ha
      have eo := not_and h.1.1
      subst eo
      refine s_or C (snd_E hp hm a tl sc _ h.1.2 k X W C T) ?_
      have h2 := h.2
      split at h2
      · rename_i z hz
        obtain ⟨o2, p2, e2⟩ := asOne_eq hz
        cases e2
        exact pe_one (snd_E hp hm b tl sc _ h2 k X W C T)
      · exact snd_E hp hm b tl sc _ h2 k X W C T
    · cases h
  | .ite c a b, tl, sc, pe, h, k, X, W, C, T => by
    simp only [mE] at h
    split at h
    · rename_i x y z ha
      simp only [Bool.and_eq_true] at h
      obtain ⟨pos, rfl⟩ := asIf_eq ha
      exact s_ite C (snd_Q hp hm c tl sc _ h.1.1 k X W C T) (snd_E hp hm a tl sc _ h.1.2 k X W C T) (snd_E hp hm b tl sc _ h.2 k X W C T)
    · cases h
  | .tup es, tl, sc, pe, h, k, X, W, C, T => by
    simp only [mE] at h
    split at h
    · rename_i xs ha
      simp only [Bool.and_eq_true] at h
      obtain ⟨kk, pos, rfl⟩ := asTup_eq ha
      exact s_tup C (snd_Es hp hm es tl sc _ h.1 k X W C T) h.2
    · cases h
  | .lst es, tl, sc, pe, h, k, X, W, C, T => by
    simp only [mE] at h
    split at h
    · rename_i xs ha
      simp only [Bool.and_eq_true] at h
      obtain ⟨pos, rfl⟩ := asLst_eq ha
      exact s_lst C (snd_Es hp hm es tl sc _ h.1 k X W C T) h.2
    · cases h
  | .idx es, tl, sc, pe, h, k, X, W, C, T => by
    simp only [mE] at h
    split at h
    · rename_i a b ha
      simp only [Bool.and_eq_true, Bool.not_eq_true'] at h
      obtain ⟨pos, rfl⟩ := asSub_eq ha
      exact s_idx C (snd_Es hp hm es tl sc _ h.1.1 k X W C T) h.1.2 h.2
    · cases h
  | .slice ea lo hi, tl, sc, pe, h, k, X, W, C, T => by
    simp only [mE] at h
    split at h
    · rename_i a pl ph ha
      simp only [Bool.and_eq_true] at h
      obtain ⟨p1, p2, rfl⟩ := asSlice_eq ha
      have h2 := h.1.1
      have g1 := snd_P hp hm lo tl sc pl h.1.2 k X W C T
      have g2 := snd_P hp hm hi tl sc ph h.2 k X W C T
      cases hlo : lateOf ea with
      | some i =>
        rw [hlo] at h2
        simp only [Bool.and_eq_true, decide_eq_true_eq] at h2
        refine s_slice C (fun j hj => ?_) ?_ g1 g2
        · rw [hlo] at hj; cases hj; exact h2.2
        · unfold tO; rw [hlo]; exact slot_pe C h2.1
      | none =>
        rw [hlo] at h2
        refine s_slice C (fun j hj => ?_) ?_ g1 g2
        · rw [hlo] at hj; cases hj
        · unfold tO; rw [hlo]; exact snd_E hp hm ea tl sc _ h2 k X W C T
    · cases h
  | .lm m o es, tl, sc, pe, h, k, X, W, C, T => by
    simp only [mE] at h
    split at h
    · rename_i x n a ha
      simp only [Bool.and_eq_true, decide_eq_true_eq] at h
      obtain ⟨ap, cp, rfl, hc, hl⟩ := asMeth_eq ha
      obtain ⟨⟨⟨h1, h2⟩, h3⟩, h4⟩ := h
      subst h1
      have ih := snd_Es hp hm es tl sc _ h3 k X W C T
      cases m with
      | index =>
        cases hlo : lateOf o with
        | some i =>
          simp only [hlo, Bool.and_eq_true, decide_eq_true_eq] at h4
          refine s_index C (fun j hj => ?_) hc ?_ ih h2 hl
          · rw [hlo] at hj; cases hj; exact h4.2
          · unfold tO; rw [hlo]; exact slot_pe C h4.1
        | none =>
          simp only [hlo] at h4
          refine s_index C (fun j hj => ?_) hc ?_ ih h2 hl
          · rw [hlo] at hj; cases hj
          · unfold tO; rw [hlo]; exact snd_E hp hm o tl sc _ h4 k X W C T
      | indexT =>
        simp only [Bool.and_eq_true] at h4
        exact s_indexT C (noLate_of h4.1) hc (snd_E hp hm o tl sc _ h4.2 k X W C T) ih h2 hl
    · cases h
  | .bf f es, tl, sc, pe, h, k, X, W, C, T => by
    simp only [mE] at h
    split at h
    · rename_i x a as ha
      simp only [Bool.and_eq_true, decide_eq_true_eq] at h
      obtain ⟨q, pos, rfl⟩ := asCall_eq ha
      obtain ⟨⟨⟨h1, h2⟩, h3⟩, h4⟩ := h
      subst h1
      exact s_bf C h2 (snd_Es hp hm es tl sc _ h3 k X W C T) h4
    · cases h
  | .mm m i es, tl, sc, pe, h, k, X, W, C, T => by
    simp only [mE] at h
    split at h
    · rename_i o x as ha
      split at h
      · simp only [Bool.and_eq_true, decide_eq_true_eq] at h
        obtain ⟨ap, cp, rfl, hc, hl⟩ := asMeth_eq ha
        obtain ⟨⟨⟨⟨h1, h2⟩, h3⟩, h4⟩, h5⟩ := h
        subst h1
        have ih := snd_Es hp hm es tl sc _ h4 k X W C T
        split at h5
        · rename_i e _ a
          exact s_append C h3 hc (slot_pe C h2) ih (noLate_of h5) hl
        · cases h5
      · simp only [Bool.and_eq_true, decide_eq_true_eq] at h
        obtain ⟨ap, cp, rfl, hc, hl⟩ := asMeth_eq ha
        obtain ⟨⟨⟨h1, h2⟩, h3⟩, h5⟩ := h
        subst h1
        split at h5
        · exact s_pop C h3 hc (slot_pe C h2) hl
        · cases h5
      · cases h
    · cases h
  | .call f es, tl, sc, pe, h, k, X, W, C, T => by
    simp only [mE] at h
    split at h
    · rename_i x as df ha hd
      simp only [Bool.and_eq_true, decide_eq_true_eq] at h
      obtain ⟨q, pos, rfl⟩ := asCall_eq ha
      obtain ⟨⟨⟨⟨⟨⟨⟨h1, h2⟩, h3⟩, h4⟩, h5⟩, h6⟩, h7⟩, h8⟩ := h
      exact c_call hp C hd (snd_Es hp hm es tl sc _ h6 k X W C T) h1 h2 h3 h4 h5 h7 h8
    · cases h
  | .meth m o es, tl, sc, pe, h, k, X, W, C, T => by
    simp only [mE] at h
    split at h
    · rename_i x n as ha
      simp only [Bool.and_eq_true, decide_eq_true_eq] at h
      obtain ⟨ap, cp, rfl, hc, hl⟩ := asMeth_eq ha
      obtain ⟨⟨⟨⟨h1, h2⟩, h3⟩, h4⟩, h5⟩ := h
      have ih := snd_Es hp hm es tl sc _ h3 k X W C T
      cases hlo : lateOf o with
      | some i =>
        rw [hlo] at h2
        simp only [Bool.and_eq_true, decide_eq_true_eq] at h2
        refine c_meth hp hm C hc hl ?_ ih h1 (fun j hj => ?_) h4 h5
        · unfold tO; rw [hlo]; exact slot_pe C h2.1
        · rw [hlo] at hj; cases hj; exact h2.2
      | none =>
        rw [hlo] at h2
        refine c_meth hp hm C hc hl ?_ ih h1 (fun j hj => ?_) h4 h5
        · unfold tO; rw [hlo]; exact snd_E hp hm o tl sc _ h2 k X W C T
        · rw [hlo] at hj; cases hj
    · cases h
  | .make c es, tl, sc, pe, h, k, X, W, C, T => by
    simp only [mE] at h
    split at h
    · rename_i x as f ha hi
      split at h
      · rename_i df hd
        simp only [Bool.and_eq_true, decide_eq_true_eq] at h
        obtain ⟨q, pos, rfl⟩ := asCall_eq ha
        obtain ⟨⟨⟨⟨⟨⟨h1, h2⟩, h3⟩, h4⟩, h5⟩, h6⟩, h7⟩ := h
        have ih := snd_Es hp hm es tl sc _ h4 k X W C T
        obtain ⟨w, K, ca, T', da, dfd, dps, rfl⟩ := hp
        subst h1
        exact s_make (p := g.pr w K ca T' da dfd dps) C hi hd h2 h3 ih h5 h6 (beq_iff_eq.mp h7)
      · cases h
    · cases h
  | .io _, _, _, _, h, _, _, _, _, _ => by simp [mE] at h
  | .bor _, _, _, _, h, _, _, _, _, _ => by simp [mE] at h
  | .fld es f, tl, sc, pe, h, k, X, W, C, T => by
    simp only [mE] at h
    split at h
    · rename_i o m ha
      simp only [Bool.and_eq_true, decide_eq_true_eq, Bool.not_eq_true'] at h
      obtain ⟨pos, rfl⟩ := asAttr_eq ha
      obtain ⟨⟨⟨⟨h1, h2⟩, h3⟩, h4⟩, h5⟩ := h
      exact c_fld hp C h2 (snd_Es hp hm es tl sc _ h3 k X W C T) h1 h4 h5
    · cases h
  | .lc t it c e, tl, sc, pe, h, k, X, W, C, T => by
    simp only [mE] at h
    split at h
    · rename_i elt tg iter ifs scope ha
      simp only [Bool.and_eq_true, decide_eq_true_eq, Bool.not_eq_true', List.all_eq_true] at h
      obtain ⟨pos, rfl⟩ := asLc_eq ha
      obtain ⟨⟨⟨⟨⟨⟨⟨⟨h1, h2⟩, h3⟩, hit⟩, h4⟩, h5⟩, h6⟩, h7⟩, h8⟩ := h
      exact s_lc C (snd_I hp hm it tl sc _ tg h6 hit k X W C T) (blkOk_by h1) h2
        (fun s H Cc cl fp => pg_T (Sets.blk C scope s H Cc cl fp) h3)
        (fun s H Cc cl fp => snd_C hp hm c false _ _ h7 k _ (C.blk scope s H Cc cl fp) T)
        (fun s H Cc cl fp => snd_E hp hm e false _ _ h8 k _ W0 (C.blk scope s H Cc cl fp) T) h4 h5
    · cases h
  | .told e, tl, sc, pe, h, k, X, W, C, T => by
    simp only [mE] at h
    split at h
    · rename_i x a b s ha
      simp only [Bool.and_eq_true, decide_eq_true_eq] at h
      obtain ⟨p1, p2, p3, rfl⟩ := asTold_eq ha
      obtain ⟨⟨⟨⟨⟨⟨h1, h2⟩, h3⟩, h4⟩, h5⟩, h6⟩, h7⟩ := h
      have e1 := noPar_eq h6
      subst e1
      subst h1
      exact s_told C T h2 h3 h4 h5 (fun env => rfl) (fun q cl pm cv ctv => rfl) fun k' hk A outer s' H E f c' hr =>
        snd_E hp hm e false s b h7 k' _ _ (C.lamc (by omega) s A outer s' H E f c' hr) T
    · cases h
  | .pick ks es ek, tl, sc, pe, h, k, X, W, C, T => by
    simp only [mE] at h
    split at h
    · rename_i keys vals ke ha
      simp only [Bool.and_eq_true, decide_eq_true_eq, Bool.not_eq_true'] at h
      obtain ⟨p1, p2, rfl⟩ := asPick_eq ha
      obtain ⟨⟨⟨⟨⟨⟨⟨⟨⟨h1, h2⟩, h3⟩, h4⟩, h5⟩, h6⟩, h7⟩, h8⟩, h9⟩, h10⟩ := h
      exact s_pick C h1 h2 (snd_Es hp hm es tl sc _ h3 k X W C T) h4 h5 h6 (fun z => by subst z; simp at h7) h8 (snd_E hp hm ek tl sc _ h9 k X W C T) h10
    · cases h
theorem snd_Q (hp : IsP g p) (hm : MsOk g) : ∀ (e : E) (tl : Bool) (sc : Scope) (pe : Expr), mQ g N ow e tl sc pe = true → ∀ (k : Nat) (X : Cx) (W : WX), Cok p N tl sc k X W → ToldAt p X.K X.mg g.told → PT X pe (tT p ow p.pg.tb (lev p.pg k) W e)
  | .cmp c es, tl, sc, pe, h, k, X, W, C, T => by
    simp only [mQ] at h
    split at h
    · rename_i a q b ha
      simp only [Bool.and_eq_true, Bool.not_eq_true'] at h
      obtain ⟨pos, rfl⟩ := asCmp1_eq ha
      have e := cm2Is_eq h.1.1.1
      subst e
      exact t_cmp C (snd_Es hp hm es tl sc _ h.1.1.2 k X W C T) h.1.2 h.2
    · cases h
  | .chain c1 c2 es c, tl, sc, pe, h, k, X, W, C, T => by
    simp only [mQ] at h
    split at h
    · rename_i a q1 b q2 d ha
      simp only [Bool.and_eq_true, Bool.not_eq_true'] at h
      obtain ⟨⟨⟨⟨⟨⟨h1, h2⟩, h3⟩, h4⟩, h5⟩, h6⟩, h7⟩ := h
      obtain ⟨pos, rfl⟩ := asCmp2_eq ha
      have e1 := cm2Is_eq h1
      have e2 := cm2Is_eq h2
      subst e1; subst e2
      have ih := snd_Es hp hm es tl sc _ h3 k X W C T
      have ic := snd_E hp hm c tl sc _ h5 k X W C T
      split at h7
      · rename_i ea eb
        cases ih with
        | cons i1 _ r => cases r with
          | cons i2 _ r2 => exact t_chain C i1 i2 ic h4 (noLate_of h7) h6
      · cases h7
    · cases h
  | .no e, tl, sc, pe, h, k, X, W, C, T => by
    simp only [mQ] at h
    split at h
    · rename_i o a ha
      simp only [Bool.and_eq_true] at h
      obtain ⟨pos, rfl⟩ := asUn_eq ha
      have eo : o = .Not := by
        have := h.1
        cases o <;> first | rfl | (simp [isNot] at this)
      subst eo
      exact t_no C (snd_Q hp hm e tl sc _ h.2 k X W C T)
    · cases h
  | .and a b, tl, sc, pe, h, k, X, W, C, T => by
    simp only [mQ] at h
    split at h
    · rename_i o x r ha
      simp only [Bool.and_eq_true] at h
      obtain ⟨y, rr, pos, rfl, rfl⟩ := asBool_eq ha
      have eo := is_and h.1.1
      subst eo
      refine t_and (snd_Q hp hm a tl sc _ h.1.2 k X W C T) ?_
      have h2 := h.2
      split at h2
      · rename_i z hz
        obtain ⟨o2, p2, e2⟩ := asOne_eq hz
        cases e2
        exact pt_one (snd_Q hp hm b tl sc _ h2 k X W C T)
      · exact snd_Q hp hm b tl sc _ h2 k X W C T
    · cases h
  | .or a b, tl, sc, pe, h, k, X, W, C, T => by
    simp only [mQ] at h
    split at h
    · rename_i o x r ha
      simp only [Bool.and_eq_true, Bool.not_eq_true'] at h
      obtain ⟨y, rr, pos, rfl, rfl⟩ := asBool_eq ha
      have eo := not_and h.1.1
      subst eo
      refine t_or (snd_Q hp hm a tl sc _ h.1.2 k X W C T) ?_
      have h2 := h.2
      split at h2
      · rename_i z hz
        obtain ⟨o2, p2, e2⟩ := asOne_eq hz
        cases e2
        exact pt_one (snd_Q hp hm b tl sc _ h2 k X W C T)
      · exact snd_Q hp hm b tl sc _ h2 k X W C T
    · cases h
  | .var i, tl, sc, pe, h, k, X, W, C, T => by
    simp only [mQ, Bool.and_eq_true, decide_eq_true_eq] at h
    refine t_of (s_var C (slot_pe C h.1) h.2) ?_
    have := h.1
    unfold slotE at this
    split at this
    · rfl
    · cases this
  | .con d, tl, sc, pe, h, k, X, W, C, T => by
    simp only [mQ] at h
    refine t_of (s_con h) ?_
    unfold conIs at h
    split at h <;> first | rfl | cases h
  | .call f es, tl, sc, pe, h, k, X, W, C, T => by
    simp only [mQ] at h
    split at h
    · rename_i x as df ha hd
      simp only [Bool.and_eq_true, decide_eq_true_eq] at h
      obtain ⟨q, pos, rfl⟩ := asCall_eq ha
      obtain ⟨⟨⟨⟨⟨⟨⟨h1, h2⟩, h3⟩, h4⟩, h5⟩, h6⟩, h7⟩, h8⟩ := h
      exact t_of (c_call hp C hd (snd_Es hp hm es tl sc _ h6 k X W C T) h1 h2 h3 h4 h5 h7 h8) rfl
    · cases h
  | .meth m o es, tl, sc, pe, h, k, X, W, C, T => by
    simp only [mQ] at h
    split at h
    · rename_i x n as ha
      simp only [Bool.and_eq_true, decide_eq_true_eq] at h
      obtain ⟨ap, cp, rfl, hc, hl⟩ := asMeth_eq ha
      obtain ⟨⟨⟨⟨h1, h2⟩, h3⟩, h4⟩, h5⟩ := h
      have ih := snd_Es hp hm es tl sc _ h3 k X W C T
      cases hlo : lateOf o with
      | some i =>
        rw [hlo] at h2
        simp only [Bool.and_eq_true, decide_eq_true_eq] at h2
        refine t_of (c_meth hp hm C hc hl ?_ ih h1 (fun j hj => ?_) h4 h5) rfl
        · unfold tO; rw [hlo]; exact slot_pe C h2.1
        · rw [hlo] at hj; cases hj; exact h2.2
      | none =>
        rw [hlo] at h2
        refine t_of (c_meth hp hm C hc hl ?_ ih h1 (fun j hj => ?_) h4 h5) rfl
        · unfold tO; rw [hlo]; exact snd_E hp hm o tl sc _ h2 k X W C T
        · rw [hlo] at hj; cases hj
    · cases h
  | .idx es, tl, sc, pe, h, k, X, W, C, T => by
    simp only [mQ] at h
    split at h
    · rename_i a b ha
      simp only [Bool.and_eq_true, Bool.not_eq_true'] at h
      obtain ⟨pos, rfl⟩ := asSub_eq ha
      exact t_of (s_idx C (snd_Es hp hm es tl sc _ h.1.1 k X W C T) h.1.2 h.2) rfl
    · cases h
  | .fld es f, tl, sc, pe, h, k, X, W, C, T => by
    simp only [mQ] at h
    split at h
    · rename_i o m ha
      simp only [Bool.and_eq_true, decide_eq_true_eq, Bool.not_eq_true'] at h
      obtain ⟨pos, rfl⟩ := asAttr_eq ha
      obtain ⟨⟨⟨⟨h1, h2⟩, h3⟩, h4⟩, h5⟩ := h
      exact t_of (c_fld hp C h2 (snd_Es hp hm es tl sc _ h3 k X W C T) h1 h4 h5) rfl
    · cases h
  | .own _, _, _, _, h, _, _, _, _, _ => by simp [mQ] at h
  | .glob _, _, _, _, h, _, _, _, _, _ => by simp [mQ] at h
  | .op _ _, _, _, _, h, _, _, _, _, _ => by simp [mQ] at h
  | .neg _, _, _, _, h, _, _, _, _, _ => by simp [mQ] at h
  | .ite _ _ _, _, _, _, h, _, _, _, _, _ => by simp [mQ] at h
  | .tup _, _, _, _, h, _, _, _, _, _ => by simp [mQ] at h
  | .lst _, _, _, _, h, _, _, _, _, _ => by simp [mQ] at h
  | .slice _ _ _, _, _, _, h, _, _, _, _, _ => by simp [mQ] at h
  | .lm _ _ _, _, _, _, h, _, _, _, _, _ => by simp [mQ] at h
  | .bf _ _, _, _, _, h, _, _, _, _, _ => by simp [mQ] at h
  | .mm _ _ _, _, _, _, h, _, _, _, _, _ => by simp [mQ] at h
  | .make _ _, _, _, _, h, _, _, _, _, _ => by simp [mQ] at h
  | .io _, _, _, _, h, _, _, _, _, _ => by simp [mQ] at h
  | .bor _, _, _, _, h, _, _, _, _, _ => by simp [mQ] at h
  | .lc _ _ _ _, _, _, _, h, _, _, _, _, _ => by simp [mQ] at h
  | .told _, _, _, _, h, _, _, _, _, _ => by simp [mQ] at h
  | .pick _ _ _, _, _, _, h, _, _, _, _, _ => by simp [mQ] at h
theorem snd_C (hp : IsP g p) (hm : MsOk g) : ∀ (c : Option E) (tl : Bool) (sc : Scope) (xs : List Expr), mC g N ow c tl sc xs = true → ∀ (k : Nat) (X : Cx), Cok p N tl sc k X W0 → ToldAt p X.K X.mg g.told → PTs X xs (tCd p ow p.pg.tb (lev p.pg k) c)
  | none, tl, sc, xs, h, k, X, C, T => by
    cases xs with
    | nil => exact pts_nil
    | cons _ _ => simp [mC] at h
  | some c, tl, sc, xs, h, k, X, C, T => by
    cases xs with
    | nil => simp [mC] at h
    | cons x xs =>
      cases xs with
      | cons _ _ => simp [mC] at h
      | nil => exact pts_one (snd_Q hp hm c tl sc x (by simpa only [mC] using h) k X W0 C T)
theorem snd_Es (hp : IsP g p) (hm : MsOk g) : ∀ (es : Es) (tl : Bool) (sc : Scope) (xs : List Expr), mEs g N ow es tl sc xs = true → ∀ (k : Nat) (X : Cx) (W : WX), Cok p N tl sc k X W → ToldAt p X.K X.mg g.told → PEs X xs (tOs p ow p.pg.tb (lev p.pg k) W es)
  | .nil, tl, sc, xs, h, k, X, W, C, T => by
    cases xs with
    | nil => exact .nil
    | cons _ _ => simp [mEs] at h
  | .cons e es, tl, sc, xs, h, k, X, W, C, T => by
    cases xs with
    | nil => simp [mEs] at h
    | cons x xs =>
      simp only [mEs, Bool.and_eq_true, Bool.not_eq_true'] at h
      obtain ⟨⟨h1, h2⟩, h3⟩ := h
      refine .cons ?_ h1 (snd_Es hp hm es tl sc xs h3 k X W C T)
      unfold tO
      cases hlo : lateOf e with
      | some i =>
        rw [hlo] at h2
        exact slot_pe C h2
      | none =>
        rw [hlo] at h2
        exact snd_E hp hm e tl sc x h2 k X W C T
theorem snd_P (hp : IsP g p) (hm : MsOk g) : ∀ (o : Option E) (tl : Bool) (sc : Scope) (po : Option Expr), mP g N ow o tl sc po = true → ∀ (k : Nat) (X : Cx) (W : WX), Cok p N tl sc k X W → ToldAt p X.K X.mg g.told → PPt X p ow p.pg.tb (lev p.pg k) W o po
  | none, tl, sc, none, h, k, X, W, C, T => .none
  | some e, tl, sc, some pe, h, k, X, W, C, T => .some (snd_E hp hm e tl sc pe (by simpa only [mP] using h) k X W C T)
  | none, _, _, some _, h, _, _, _, _, _ => by simp [mP] at h
  | some _, _, _, none, h, _, _, _, _, _ => by simp [mP] at h
theorem snd_I (hp : IsP g p) (hm : MsOk g) : ∀ (it : It) (tl : Bool) (sc : Scope) (pe tg : Expr), mI g N ow it tl sc pe = true → itTg it tg = true → ∀ (k : Nat) (X : Cx) (W : WX), Cok p N tl sc k X W → ToldAt p X.K X.mg g.told → PI X tg pe (tI p ow p.pg.tb (lev p.pg k) W it)
  | .seq e, tl, sc, pe, tg, h, _, k, X, W, C, T => i_seq C (snd_E hp hm e tl sc pe (by simpa only [mI] using h) k X W C T)
  | .rng1 e, tl, sc, pe, tg, h, _, k, X, W, C, T => by
    simp only [mI] at h
    split at h
    · rename_i x a ha
      simp only [Bool.and_eq_true, decide_eq_true_eq, Bool.not_eq_true'] at h
      obtain ⟨q, pos, rfl⟩ := asCall_eq ha
      obtain ⟨⟨⟨h1, h2⟩, h3⟩, h4⟩ := h
      subst h1
      exact i_rng1 C h2 (snd_E hp hm e tl sc a h4 k X W C T) h3
    · cases h
  | .enum e, tl, sc, pe, tg, h, ht, k, X, W, C, T => by
    simp only [mI] at h
    split at h
    · rename_i x a ha
      simp only [Bool.and_eq_true, decide_eq_true_eq, Bool.not_eq_true'] at h
      obtain ⟨q, pos, rfl⟩ := asCall_eq ha
      obtain ⟨⟨⟨h1, h2⟩, h3⟩, h4⟩ := h
      subst h1
      cases tg <;> first | (simp [itTg] at ht; done) | skip
      exact i_enum C h2 (snd_E hp hm e tl sc a h4 k X W C T) h3
    · cases h
  | .rng2 es, tl, sc, pe, tg, h, _, k, X, W, C, T => by
    simp only [mI] at h
    split at h
    · rename_i x a b ha
      simp only [Bool.and_eq_true, decide_eq_true_eq] at h
      obtain ⟨q, pos, rfl⟩ := asCall_eq ha
      obtain ⟨⟨⟨h1, h2⟩, h3⟩, h4⟩ := h
      subst h1
      exact i_rng2 C h2 (snd_Es hp hm es tl sc _ h3 k X W C T) h4
    · cases h
end
end
end Bh
/-! text Bh5r -/
set_option Elab.async false
set_option linter.all false
set_option maxRecDepth 100000
set_option maxHeartbeats 4000000
/-! Bh5r: the checker of statements. -/
namespace Bh
open PySem PySem.W L2 PyProof.Rows
def isLcE : Expr → Bool
  | .ListComp _ _ _ _ => true
  | _ => false
/-- a comprehension that is assigned to a local name: it swaps -/
def lcAsg (N : List Str) (sc : Scope) (i : Nat) (tg ex : Expr) : Bool := match tg, ex with
  | .Name y py, .ListComp _ _ scope pos => decide (N[i]? = some y) && (match sc.names.lookup y with
    | some .local => true
    | _ => false) && (match sc.kind with
    | .function => true
    | _ => false) && (py.line == pos.line) && !(scope.names.any fun (n, k) => n == y && (k == .local || k == .cell))
  | _, _ => false
/-- name = value -/
def mAsg (g : Cg) (N : List Str) (ow : List Nat) (tl : Bool) (sc : Scope) (i : Nat) (e : E) : Stmt → Bool
  | .Assign [tg] ex _ => mE g N ow e tl sc ex && (if isComp ex then lcAsg N sc i tg ex else tgtIs N sc i tg)
  | _ => false
def swT (sc : Scope) : Expr → Bool
  | .Tuple es _ _ => swOff sc es
  | _ => false
def mTg (g : Cg) (N : List Str) (ow : List Nat) : List Tg → Bool → Scope → List Expr → Bool
  | [], _, _, [] => true
  | .nm i :: ts, tl, sc, e :: es => tgtIs N sc i e && decide (i ∉ ow) && mTg g N ow ts tl sc es
  | .ix i k :: ts, tl, sc, .Subscript o ke _ :: es => slotE N sc i o && decide (i ∈ ow) && mE g N ow k tl sc ke && !isSlice ke && mTg g N ow ts tl sc es
  | _, _, _, _ => false
mutual
def mS (g : Cg) (N : List Str) (ow io : List Nat) (fr tl : Bool) (sc : Scope) : S → Stmt → Bool
  | .set i e, st => mAsg g N ow tl sc i e st && decide (i ∉ ow)
  | .thaw i e, st => mAsg g N ow tl sc i e st && decide (i ∈ ow) && decide (i ∉ io) && decide (i < N.length)
  | .bind is e, .Assign [tg] ex _ => mT N sc (.many is) tg && mE g N ow e tl sc ex && (!isTupE ex || swT sc tg) && is.all fun i => decide (i ∉ ow)
  | .bindX ts e, .Assign [.Tuple tes _ _] ex _ => mTg g N ow ts tl sc tes && mE g N ow e tl sc ex && (!isTupE ex || swOff sc tes)
  | .augIx i o k v, .AugAssign (.Subscript b ke _) q ve _ => op2Is o q && slotE N sc i b && decide (i ∈ ow) && mE g N ow k tl sc ke && mE g N ow v tl sc ve && !isSlice ke
  | .par2 i fi a j fj b, .Assign [.Tuple [.Name x px, .Name y py] _ _] (.Tuple [ea, eb] _ _) _ => decide (N[i]? = some x) && decide (N[j]? = some y) && !(i == j) && (match sc.names.lookup x with
    | some .local => true
    | _ => false) && (match sc.names.lookup y with
    | some .local => true
    | _ => false) && (match sc.kind with
    | .function => true
    | _ => false) && mE g N ow a tl sc ea && mE g N ow b tl sc eb && parOk px py x y ea eb && (if fj then !fi && decide (i ∉ ow) && decide (j ∈ ow) && decide (j ∉ io) else (if fi then decide (i ∈ ow) && decide (i ∉ io) else decide (i ∉ ow)) && decide (j ∉ ow))
  | .setIx i k v, .Assign [.Subscript o ke _] ve _ => slotE N sc i o && decide (i ∈ ow) && mE g N ow k tl sc ke && mE g N ow v tl sc ve && !isSlice ke && !isComp ve
  | .setFld i f e, .Assign [.Attribute o m _] ve _ => slotE N sc i o && decide (i ∈ ow) && decide (m = g.fnm f) && mE g N ow e tl sc ve && !isComp ve
  | .expr e, .Expr ex _ => mE g N ow e tl sc ex && !isComp ex
  | .ret e, .Return (some ex) _ => mE g N ow e tl sc ex && (!fr || (isNew g.pg.tb e 1 && isNew g.pg.tb e 2))
  | .retO i, .Return (some ex) _ => slotE N sc i ex && decide (i ∈ ow) && decide (i ∉ io)
  | .raise c, .Raise (some (.Call (.Name x _) [.Constant (.str _) _ _] [] _)) none _ => decide (x = g.cn c) && g.exc c && gloB sc (g.cn c) && plainName (g.cn c)
  | .pass, .Pass _ => true
  | .brk, .Break _ => true
  | .cont, .Continue _ => true
  | .ite e a b, .If c sa sb _ => mQ g N ow e tl sc c && mSs g N ow io fr tl sc a sa && mSs g N ow io fr tl sc b sb
  | .whil _ e b, .While c sb [] _ => mQ g N ow e tl sc c && mSs g N ow io fr tl sc b sb
  | .fors t it b, .For tg iter sb [] _ => mI g N ow it tl sc iter && (mT N sc t tg && itTg it tg) && mSs g N ow io fr tl sc b sb && !isSetE iter && t.slots.all fun i => decide (i ∉ ow)
  | _, _ => false
def mSs (g : Cg) (N : List Str) (ow io : List Nat) (fr tl : Bool) (sc : Scope) : List S → List Stmt → Bool
  | [], [] => true
  | s :: ss, st :: sts => mS g N ow io fr tl sc s st && mSs g N ow io fr tl sc ss sts
  | _, _ => false
end
section
variable {g : Cg} {p : Pr} {N : List Str} {ow io : List Nat} {fr tl : Bool} {sc : Scope} {k : Nat} {X : Cx} {W : WX}
theorem asg_ok (hp : IsP g p) (hm : MsOk g) (C : Cok p N tl sc k X W) (S : Sets N sc X) (T : ToldAt p X.K X.mg g.told) {i : Nat} {e : E} {st : Stmt} (h : mAsg g N ow tl sc i e st = true) : AsgN p ow p.pg.tb (lev p.pg k) W X st i e := by
  unfold mAsg at h
  split at h
  · rename_i tg ex pos
    rw [Bool.and_eq_true] at h
    split at h
    · rename_i hc
      have h2 := h.2
      unfold lcAsg at h2
      split at h2
      · rename_i y py elt gens scope lpos
        simp only [Bool.and_eq_true, decide_eq_true_eq, Bool.not_eq_true'] at h2
        obtain ⟨⟨⟨⟨a1, a2⟩, a3⟩, a4⟩, a5⟩ := h2
        have hy : sc.names.lookup y = some .local := by
          split at a2
          · assumption
          · cases a2
        have hk : sc.kind = .function := by
          split at a3
          · assumption
          · cases a3
        have h1 := h.1
        cases e with
        | lc t it c e =>
          simp only [mE] at h1
          split at h1
          · rename_i elt' tg' iter ifs scope' ha
            simp only [Bool.and_eq_true, decide_eq_true_eq, Bool.not_eq_true', List.all_eq_true] at h1
            obtain ⟨pos', e2⟩ := asLc_eq ha
            cases e2
            obtain ⟨⟨⟨⟨⟨⟨⟨⟨b1, b2⟩, b3⟩, bt⟩, b4⟩, b5⟩, b6⟩, b7⟩, b8⟩ := h1
            exact asg_lc C a1 hy hk a4 a5 (snd_I hp hm it tl sc _ tg' b6 bt k X W C T) (blkOk_by b1) b2
              (fun s H Cc cl fp => pg_T (Sets.blk C scope s H Cc cl fp) b3)
              (fun s H Cc cl fp => snd_C hp hm c false _ _ b7 k _ (C.blk scope s H Cc cl fp) T)
              (fun s H Cc cl fp => snd_E hp hm e false _ _ b8 k _ W0 (C.blk scope s H Cc cl fp) T) b4 b5
          · cases h1
        | var _ => simp [mE, slotE] at h1
        | con d => cases d <;> simp [mE, conIs] at h1
        | glob _ => simp [mE, asName] at h1
        | op _ _ => simp [mE, asBin] at h1
        | cmp _ _ => simp [mE, asCmp1] at h1
        | chain _ _ _ _ => simp [mE, asCmp2] at h1
        | neg _ => simp [mE, asUn] at h1
        | no _ => simp [mE, asUn] at h1
        | and _ _ => simp [mE, asBool] at h1
        | or _ _ => simp [mE, asBool] at h1
        | ite _ _ _ => simp [mE, asIf] at h1
        | tup _ => simp [mE, asTup] at h1
        | lst _ => simp [mE, asLst] at h1
        | idx _ => simp [mE, asSub] at h1
        | bf _ _ => simp [mE, asCall] at h1
        | mm _ _ _ => simp [mE, asMeth] at h1
        | call _ _ => simp [mE, asCall] at h1
        | meth _ _ _ => simp [mE, asMeth] at h1
        | make _ _ => simp [mE, asCall] at h1
        | fld _ _ => simp [mE, asAttr] at h1
        | told _ => simp [mE, asTold] at h1
        | pick _ _ _ => simp [mE, asPick] at h1
        | slice _ _ _ => simp [mE, asSlice] at h1
        | lm _ _ _ => simp [mE, asMeth] at h1
        | _ => simp [mE] at h1
      · cases h2
    · rename_i hc
      exact asg_plain C S h.2 (snd_E hp hm e tl sc ex h.1 k X W C T) (by simpa using hc)
  · cases h
theorem tg_ok (hp : IsP g p) (hm : MsOk g) (C : Cok p N tl sc k X W) (T : ToldAt p X.K X.mg g.told) : ∀ (ts : List Tg) (es : List Expr), mTg g N ow ts tl sc es = true → PTg p ow p.pg.tb (lev p.pg k) W N sc X ts es
  | [], es, h => by
    cases es with
    | nil => exact .nil
    | cons _ _ => simp [mTg] at h
  | .nm i :: ts, es, h => by
    cases es with
    | nil => simp [mTg] at h
    | cons e es =>
      simp only [mTg, Bool.and_eq_true, decide_eq_true_eq] at h
      exact .nm h.1.1 h.1.2 (tg_ok hp hm C T ts es h.2)
  | .ix i ek :: ts, es, h => by
    cases es with
    | nil => simp [mTg] at h
    | cons e es =>
      cases e <;> first | (simp [mTg] at h; done) | skip
      simp only [mTg, Bool.and_eq_true, decide_eq_true_eq, Bool.not_eq_true'] at h
      obtain ⟨⟨⟨⟨h1, h2⟩, h3⟩, h4⟩, h5⟩ := h
      exact .ix (slot_pe C h1) h2 (snd_E hp hm ek tl sc _ h3 k X W C T) h4 (tg_ok hp hm C T ts es h5)
mutual
theorem snd_S (hp : IsP g p) (hm : MsOk g) (C : Cok p N tl sc k X W) (S0 : Sets N sc X) (T : ToldAt p X.K X.mg g.told) (po : PassesOwn (model X.prog X.w) X.A X.env X.xe) : ∀ (s : S) (st : Stmt), mS g N ow io fr tl sc s st = true → PS X st (tS p ow io fr W (evS p.pg.tb (lev p.pg k) s))
  | .set i e, st, h => by
    simp only [mS, Bool.and_eq_true, decide_eq_true_eq] at h
    exact r_set (asg_ok hp hm C S0 T h.1) h.2
  | .thaw i e, st, h => by
    simp only [mS, Bool.and_eq_true, decide_eq_true_eq] at h
    exact r_thaw (asg_ok hp hm C S0 T h.1.1.1) h.1.1.2 h.1.2 h.2 C.nm
  | .bind is e, st, h => by
    unfold mS at h
    split at h <;> first | (rename_i e1; cases e1) | skip
    all_goals first
      | (cases h; done)
      | (simp only [Bool.and_eq_true, decide_eq_true_eq, Bool.not_eq_true', List.all_eq_true] at h
         obtain ⟨⟨⟨h1, h2⟩, h3⟩, h4⟩ := h
         rename_i tg ex pos
         have he := snd_E hp hm e tl sc _ h2 k X W C T
         rw [Bool.or_eq_true] at h3
         rcases h3 with h3 | h3
         · exact r_bind C S0 h1 he (by simpa using h3) h4
         · unfold swT at h3
           split at h3
           · exact r_bindN C S0 h1 he h3 h4
           · cases h3)
  | .bindX ts e, st, h => by
    unfold mS at h
    split at h <;> first | (rename_i e1; cases e1) | skip
    all_goals first
      | (cases h; done)
      | (simp only [Bool.and_eq_true] at h
         exact r_bindX C S0 (tg_ok hp hm C T ts _ h.1.1) (snd_E hp hm e tl sc _ h.1.2 k X W C T) (by simpa using h.2))
  | .augIx i o ek ev, st, h => by
    unfold mS at h
    split at h <;> first | (rename_i e1; cases e1) | skip
    all_goals first
      | (cases h; done)
      | (simp only [Bool.and_eq_true, decide_eq_true_eq, Bool.not_eq_true'] at h
         obtain ⟨⟨⟨⟨⟨h1, h2⟩, h3⟩, h4⟩, h5⟩, h6⟩ := h
         rw [op2Is_eq h1]
         exact r_augIx C (slot_pe C h2) h3 (snd_E hp hm ek tl sc _ h4 k X W C T) (snd_E hp hm ev tl sc _ h5 k X W C T) h6)
  | .par3 _ _ _ _ _ _ _ _ _, st, h => by
    unfold mS at h
    cases h
  | .par2 i fi a j fj b, st, h => by
    unfold mS at h
    split at h <;> first | (rename_i e1; cases e1) | skip
    all_goals first
      | (cases h; done)
      | skip
    rename_i _ _ x px y py kt pt ea eb k2 pt2 pos
    simp only [Bool.and_eq_true, decide_eq_true_eq, Bool.not_eq_true', beq_eq_false_iff_ne] at h
    obtain ⟨⟨⟨⟨⟨⟨⟨⟨⟨h1, h2⟩, h3⟩, h4⟩, h5⟩, h6⟩, h7⟩, h8⟩, h9⟩, h10⟩ := h
    have hx : sc.names.lookup x = some .local := by
      split at h4
      · assumption
      · cases h4
    have hy : sc.names.lookup y = some .local := by
      split at h5
      · assumption
      · cases h5
    have hk : sc.kind = .function := by
      split at h6
      · assumption
      · cases h6
    have ia := snd_E hp hm a tl sc _ h7 k X W C T
    have ib := snd_E hp hm b tl sc _ h8 k X W C T
    cases fj with
    | true =>
      rw [if_pos rfl] at h10
      simp only [Bool.and_eq_true, decide_eq_true_eq, Bool.not_eq_true'] at h10
      obtain ⟨⟨⟨c1, c2⟩, c3⟩, c4⟩ := h10
      subst c1
      exact r_parB C h1 h2 h3 hx hy hk ia ib h9 c2 ⟨c3, c4⟩
    | false =>
      rw [if_neg (by decide), Bool.and_eq_true, decide_eq_true_eq] at h10
      refine r_par2 C h1 h2 h3 hx hy hk ia ib h9 (fun z => ?_) (fun z => ?_) h10.2
      · subst z; simpa using h10.1
      · subst z; simpa using h10.1
  | .setIx i ek ev, st, h => by
    unfold mS at h
    split at h <;> first | (rename_i e1; cases e1) | skip
    all_goals first
      | (cases h; done)
      | (simp only [Bool.and_eq_true, decide_eq_true_eq, Bool.not_eq_true', List.all_eq_true] at h
         exact r_setIx C (slot_pe C h.1.1.1.1.1) h.1.1.1.1.2 (snd_E hp hm ek tl sc _ h.1.1.1.2 k X W C T) (snd_E hp hm ev tl sc _ h.1.1.2 k X W C T) h.1.2 h.2)
  | .setFld i f e, st, h => by
    unfold mS at h
    split at h <;> first | (rename_i e1; cases e1) | skip
    all_goals first
      | (cases h; done)
      | (simp only [Bool.and_eq_true, decide_eq_true_eq, Bool.not_eq_true'] at h
         obtain ⟨⟨⟨⟨h1, h2⟩, h3⟩, h4⟩, h5⟩ := h
         have he := snd_E hp hm e tl sc _ h4 k X W C T
         have ho := slot_pe C h1
         obtain ⟨w, K, ca, T', da, dfd, dps, rfl⟩ := hp
         subst h3
         exact r_setFld (p := g.pr w K ca T' da dfd dps) C ho h2 he h5)
  | .expr e, st, h => by
    unfold mS at h
    split at h <;> first | (rename_i e1; cases e1) | skip
    all_goals first
      | (cases h; done)
      | (simp only [Bool.and_eq_true, decide_eq_true_eq, Bool.not_eq_true', List.all_eq_true] at h
         exact r_expr (snd_E hp hm e tl sc _ h.1 k X W C T) h.2)
  | .ret e, st, h => by
    unfold mS at h
    split at h <;> first | (rename_i e1; cases e1) | skip
    all_goals first
      | (cases h; done)
      | (simp only [Bool.and_eq_true, Bool.or_eq_true, Bool.not_eq_true'] at h
         have he := snd_E hp hm e tl sc _ h.1 k X W C T
         obtain ⟨w, K, ca, T', da, dfd, dps, rfl⟩ := hp
         exact r_ret (p := g.pr w K ca T' da dfd dps) he fun hf => by
           rcases h.2 with z | z
           · rw [hf] at z; cases z
           · exact z)
  | .retO i, st, h => by
    unfold mS at h
    split at h <;> first | (rename_i e1; cases e1) | skip
    all_goals first
      | (cases h; done)
      | (simp only [Bool.and_eq_true, decide_eq_true_eq, Bool.not_eq_true', List.all_eq_true] at h
         exact r_retO (slot_pe C h.1.1) h.1.2 h.2)
  | .raise c, st, h => by
    unfold mS at h
    split at h <;> first | (rename_i e1; cases e1) | skip
    all_goals first
      | (cases h; done)
      | (simp only [Bool.and_eq_true, decide_eq_true_eq] at h
         obtain ⟨⟨⟨h1, h2⟩, h3⟩, h4⟩ := h
         obtain ⟨w, K, ca, T', da, dfd, dps, rfl⟩ := hp
         subst h1
         exact r_raise (p := g.pr w K ca T' da dfd dps) C h2 h3 h4)
  | .pass, st, h => by
    unfold mS at h
    split at h <;> first | (rename_i e1; cases e1) | skip
    all_goals first
      | (cases h; done)
      | (skip
         exact r_pass)
  | .brk, st, h => by
    unfold mS at h
    split at h <;> first | (rename_i e1; cases e1) | skip
    all_goals first
      | (cases h; done)
      | (skip
         exact r_brk)
  | .cont, st, h => by
    unfold mS at h
    split at h <;> first | (rename_i e1; cases e1) | skip
    all_goals first
      | (cases h; done)
      | (skip
         exact r_cont)
  | .ite e a b, st, h => by
    unfold mS at h
    split at h <;> first | (rename_i e1; cases e1) | skip
    all_goals first
      | (cases h; done)
      | (simp only [Bool.and_eq_true, decide_eq_true_eq, Bool.not_eq_true', List.all_eq_true] at h
         exact r_ite (snd_Q hp hm e tl sc _ h.1.1 k X W C T) (snd_Ss hp hm C S0 T po a _ h.1.2) (snd_Ss hp hm C S0 T po b _ h.2))
  | .whil n e b, st, h => by
    unfold mS at h
    split at h <;> first | (rename_i e1; cases e1) | skip
    all_goals first
      | (cases h; done)
      | (simp only [Bool.and_eq_true, decide_eq_true_eq, Bool.not_eq_true', List.all_eq_true] at h
         exact r_while po (snd_Q hp hm e tl sc _ h.1 k X W C T) (snd_Ss hp hm C S0 T po b _ h.2))
  | .fors t it b, st, h => by
    unfold mS at h
    split at h <;> first | (rename_i e1; cases e1) | skip
    all_goals first
      | (cases h; done)
      | (simp only [Bool.and_eq_true, decide_eq_true_eq, Bool.not_eq_true', List.all_eq_true] at h
         exact r_for C S0 po (snd_I hp hm it tl sc _ _ h.1.1.1.1 h.1.1.1.2.2 k X W C T) h.1.1.1.2.1 (snd_Ss hp hm C S0 T po b _ h.1.1.2) h.1.2 h.2)
  | .aug _ _ _, st, h => by
    unfold mS at h
    cases h
theorem snd_Ss (hp : IsP g p) (hm : MsOk g) (C : Cok p N tl sc k X W) (S0 : Sets N sc X) (T : ToldAt p X.K X.mg g.told) (po : PassesOwn (model X.prog X.w) X.A X.env X.xe) : ∀ (ss : List S) (sts : List Stmt), mSs g N ow io fr tl sc ss sts = true → PSs X sts (tS p ow io fr W (evSs p.pg.tb (lev p.pg k) ss))
  | [], [], _ => ss_nil
  | s :: ss, st :: sts, h => by
    simp only [mSs, Bool.and_eq_true] at h
    exact ss_cons (snd_S hp hm C S0 T po s st h.1) (snd_Ss hp hm C S0 T po ss sts h.2)
  | [], _ :: _, h => by simp [mSs] at h
  | _ :: _, [], h => by simp [mSs] at h
end
end
end Bh
/-! text Bh6a -/
set_option Elab.async false
set_option linter.all false
set_option maxRecDepth 100000
set_option maxHeartbeats 1000000
/-! Bh6a: a def of the row, as the checker has looked at it. -/
namespace Bh
open PySem PySem.W L2 PyProof.Rows
def defOkB (df : Def) (N ps : List Str) : Bool := decide (N.length = df.nl) && decide (ps.length = df.np) && decide (df.np ≤ df.nl) && df.io.all (fun i => decide (i ∈ df.ow) && decide (i < df.np)) && df.ow.all (fun i => !decide (i < df.np) || decide (i ∈ df.io))
theorem defOk_by {df : Def} {N ps : List Str} (h : defOkB df N ps = true) : DefOk df N ps := by
  simp only [defOkB, Bool.and_eq_true, decide_eq_true_eq, List.all_eq_true, Bool.or_eq_true, Bool.not_eq_true', decide_eq_false_iff_not] at h
  obtain ⟨⟨⟨⟨h1, h2⟩, h3⟩, h4⟩, h5⟩ := h
  exact ⟨h1, h2, h3, h4, fun i hi hn => (h5 i hi).resolve_left fun z => z hn⟩
theorem defAt_of {g : Cg} {p : Pr} {prog : Program} {w : World} {K : Frag} {mg : Str → Option Value} {base : Heap} {f : Nat} {df : Def} {name qual : Str} {st : Stmt} {kV doc pm cdv ct oc : Value} {an od : Option Addr} {osl : Array (Option Value)} {N : List Str} (tl : Bool)
    (hp : IsP g p) (hm : MsOk g) (T : ToldAt p K mg g.told)
    (l : K.lookup (p.da f) = some ⟨oc, od, .func (fnOf name qual (defArgs st) (defBody st) (defScope st) .none kV doc pm an cdv ct), osl⟩) (c : codeIn K cdv qual = true) (S : FnScope N (p.dps f) (defScope st))
    (e : p.dfd f = fnOf name qual (defArgs st) (defBody st) (defScope st) .none kV doc pm an cdv ct) (dk : defOkB df N (p.dps f) = true)
    (lam : tl = true → ∃ c P, LamX.TabB base mg c P ∧ cdv = .ref c ∧ (P, (qual ++ ".<locals>.") ++ "<lambda>") ∈ p.T ∧ ∀ q ∈ p.T, q.1 = P → q.2 = (qual ++ ".<locals>.") ++ "<lambda>")
    (m : mSs g N df.ow df.io df.fr tl (defScope st) df.body (defBody st) = true) : DefAt p prog w K mg base f df :=
  ⟨name, qual, defArgs st, defBody st, defScope st, .none, kV, doc, pm, cdv, ct, oc, an, od, osl, N, tl, l, c, S, e, defOk_by dk, lam, fun k X W C h1 h2 h3 h4 S0 po => by
    subst h3; subst h4
    exact snd_Ss hp hm C S0 T po df.body (defBody st) m⟩
end Bh
/-! text Bh7a -/
set_option Elab.async false
set_option linter.all false
set_option maxRecDepth 100000
set_option maxHeartbeats 1000000
/-! Bh7a: arguments come to plain parameters. -/
namespace Bh
open PySem PySem.W L2 PyProof.Rows
theorem fm_congr {α β : Type} {f g : α → Option β} : ∀ {l : List α}, (∀ x ∈ l, f x = g x) → l.filterMap f = l.filterMap g
  | [], _ => rfl
  | x :: l, h => by
    rw [List.filterMap_cons, List.filterMap_cons, h x (by simp), fm_congr fun y hy => h y (by simp [hy])]
theorem zip_look : ∀ {ns : List Str} {us : List Value}, ns.Nodup → us.length = ns.length → ns.filterMap (fun n => ((ns.zip us).lookup n).map (n, ·)) = ns.zip us ∧ ∀ n ∈ ns, ((ns.zip us).lookup n).isSome = true
  | [], [], _, _ => ⟨rfl, fun _ h => nomatch h⟩
  | n :: ns, u :: us, hd, hl => by
    obtain ⟨h1, h2⟩ := List.nodup_cons.mp hd
    obtain ⟨i1, i2⟩ := zip_look h2 (by simpa using hl)
    have e : ∀ m ∈ ns, ((n, u) :: ns.zip us).lookup m = (ns.zip us).lookup m := fun m hm => by
      have : (m == n) = false := by simpa using fun z : m = n => h1 (z ▸ hm)
      rw [List.lookup_cons, this]
    refine ⟨?_, fun m hm => ?_⟩
    · rw [List.zip_cons_cons, List.filterMap_cons]
      simp only [List.lookup_cons_self, Option.map_some]
      congr 1
      refine Eq.trans (fm_congr fun m hm => ?_) i1
      rw [e m hm]
    · rw [List.zip_cons_cons]
      rcases List.mem_cons.mp hm with rfl | hm
      · simp
      · rw [e m hm]; exact i2 m hm
theorem bindArgs_plain {fd : FuncData} {as : List PySem.Arg} {us : List Value} (hp : fd.params = ⟨[], as, none, [], [], none, []⟩) (hd : fd.defaults = .none) (hn : (as.map (·.arg)).Nodup) (hl : us.length = as.length) :
    bindArgs fd ⟨us, []⟩ = pure ((as.map (·.arg)).zip us) := by
  obtain ⟨h1, h2⟩ := zip_look hn (us := us) (by simpa using hl)
  have h3 : (as.map (·.arg)).filter (fun n => (((as.map (·.arg)).zip us).lookup n).isNone) = [] := by
    rw [List.filter_eq_nil_iff]
    intro n hnn
    have := h2 n hnn
    cases hq : ((as.map (·.arg)).zip us).lookup n <;> simp_all
  have hs : seqItems? Value.none = pure none := rfl
  have hlt : ¬ as.length < us.length := by omega
  unfold bindArgs
  rw [hp, hd, hs]
  simp [hlt, h3, List.take_of_length_le]
  rw [← List.filterMap_map, h1]
end Bh
/-! text Bh7b -/
set_option Elab.async false
set_option linter.all false
set_option maxRecDepth 100000
set_option maxHeartbeats 2000000
/-! Bh7b: what the program's top has left, looked at by one computation. -/
namespace Bh
open PySem PySem.W L2 PyProof.Rows
/-- a program: the core's tables and the names -/
structure Rw where
  pg : Pg
  ds : List Def
  gs : List (Str × D)
  dn : List Str
  pl : List (Option Nat)
  nm : List (List Str)
  tl : List Bool
  cn : List Str
  cls : List Nat
  exs : List Nat
  mn : List Str
  ms : List (Nat × Nat × Nat)
  is : List (Nat × Nat)
  fn : List Str
  td : List (Nat × List Nat)
  told : Str
  ex : List Str
def ix (l : List Str) (i : Nat) : Str := (l[i]?).getD ""
def tilde (i : Nat) : Str := ⟨(List.replicate (i + 1) 126).toArray⟩
def ixT (l : List Str) (i : Nat) : Str := match l[i]? with
  | some s => s
  | none => tilde i
def Rw.cg (r : Rw) : Cg := ⟨r.pg, fun i => ix (r.gs.map (·.1)) i, ix r.dn, ix r.mn, ix r.cn, ixT r.fn, fun f => match r.pl[f]? with
  | some none => true
  | _ => false, fun c => r.exs.contains c, r.ms, r.told⟩
/-- the tables are told by the lists -/
structure RwOk (r : Rw) : Prop where
  defs : ∀ f, r.pg.defs f = r.ds[f]?
  glob : ∀ i, r.pg.tb.glob i = (r.gs[i]?).map (·.2)
  meth : ∀ c m f, r.pg.tb.meth c m = some f → (c, m, f) ∈ r.ms
  init : ∀ c f, r.pg.tb.init c = some f → (c, f) ∈ r.is
  fld : ∀ c f, r.pg.tb.fld c f = true → c ∈ r.cls ∧ f < r.fn.length
  told : ∀ c d, r.pg.tb.told c = some d → ∃ s, (c, s) ∈ r.td ∧ d = .str s
def nsA (K : Frag) (x : Str) : Option Addr := match nsIn K mainGlobals x with
  | some (some (.ref a)) => some a
  | _ => none
def clA (K : Frag) (c : Addr) (x : Str) : Option Addr := match findIn K (.ref c) x with
  | some (some (.ref a)) => some a
  | _ => none
theorem nsA_eq {K : Frag} {x : Str} {a : Addr} (h : nsA K x = some a) : nsIn K mainGlobals x = some (some (.ref a)) := by
  unfold nsA at h; split at h
  · cases h; assumption
  · cases h
theorem clA_eq {K : Frag} {c : Addr} {x : Str} {a : Addr} (h : clA K c x = some a) : findIn K (.ref c) x = some (some (.ref a)) := by
  unfold clA at h; split at h
  · cases h; assumption
  · cases h
section
variable (r : Rw) (K : Frag)
def Rw.ca (c : Nat) : Addr := (nsA K (ix r.cn c)).getD 0
def Rw.daO (f : Nat) : Option Addr := match r.pl[f]? with
  | some none => nsA K (ix r.dn f)
  | some (some c) => clA K (r.ca K c) (ix r.dn f)
  | none => none
def Rw.da (f : Nat) : Addr := (r.daO K f).getD 0
def fnAt (a : Addr) : Option FuncData := match K.lookup a with
  | some ⟨_, _, .func fd, _⟩ => some fd
  | _ => none
def Rw.fd (f : Nat) : FuncData := (fnAt K (r.da K f)).getD default
def Rw.nms (f : Nat) : List Str := (r.nm[f]?).getD []
def Rw.ps (f : Nat) : List Str := (r.nms f).take (((r.ds[f]?).map (·.np)).getD 0)
/-- a code object's table -/
def tabOfC (cd : Value) : Option (Addr × Addr) := match cd with
  | .ref c => (match K.lookup c with
    | some ⟨_, _, .fields vs, _⟩ => (match (vs[11]? : Option Value) with
      | some (.ref P) => some (c, P)
      | _ => none)
    | _ => none)
  | _ => none
def lamQ (fd : FuncData) : Str := (fd.qualname ++ ".<locals>.") ++ "<lambda>"
/-- the defs that make lambdas -/
def Rw.tls : List Nat := (List.range r.ds.length).filter fun f => (r.tl[f]?).getD false
def Rw.lams : List FuncData := r.tls.map (r.fd K) ++ r.ex.filterMap fun x => (nsA K x).bind (fnAt K)
def Rw.cs : List (Addr × Addr) := (r.lams K).filterMap fun fd => tabOfC K fd.code
def Rw.T : List (Addr × Str) := (r.lams K).filterMap fun fd => (tabOfC K fd.code).map fun q => (q.2, lamQ fd)
def Rw.pr (w : World) : Pr := r.cg.pr w K (r.ca K) (r.T K) (r.da K) (r.fd K) r.ps
/-! ### the looks -/
def noneV : Value → Bool
  | .none => true
  | _ => false
def stmtsOf : FuncBody → Option (List Stmt)
  | .stmts b => some b
  | _ => none
def parsB : Arguments → List Str → Bool
  | ⟨[], as, none, [], [], none, []⟩, ps => decide (as.map (·.arg) = ps) && decide ps.Nodup
  | _, _ => false
def scopeB (N ps : List Str) (sc : Scope) : Bool := (match sc.kind with
    | .function => true
    | _ => false) && !sc.isCoroutine && !sc.isGenerator && decide N.Nodup && decide (N.take ps.length = ps) && (ps.all fun x => match sc.names.lookup x with
    | some .local => true
    | some .cell => true
    | _ => false) && (sc.names.all fun y => match y.2 with
    | .free => false
    | _ => true)
theorem scopeB_ok {N ps : List Str} {sc : Scope} (h : scopeB N ps sc = true) : FnScope N ps sc := by
  simp only [scopeB, Bool.and_eq_true, Bool.not_eq_true', decide_eq_true_eq, List.all_eq_true] at h
  obtain ⟨⟨⟨⟨⟨⟨h1, h2⟩, h3⟩, h4⟩, h5⟩, h6⟩, h7⟩ := h
  refine ⟨?_, h2, h3, h4, h5, fun x hx => ?_, fun y hy => ?_⟩
  · split at h1
    · assumption
    · cases h1
  · have := h6 x hx
    split at this
    · exact .inl (by assumption)
    · exact .inr (by assumption)
    · cases this
  · have := h7 y hy
    intro z
    rw [z] at this
    cases this
def fdB (fd : FuncData) : Bool := fd.globals == mainGlobals && fd.closure.isEmpty && noneV fd.defaults && fd.builtins == builtinsNs
def Rw.dfB (f : Nat) (df : Def) : Bool := match r.daO K f with
  | some a => (match K.lookup a with
    | some ⟨_, _, .func fd, _⟩ => fdB fd && codeIn K fd.code fd.qualname && scopeB (r.nms f) (r.ps f) fd.scope && defOkB df (r.nms f) (r.ps f) && parsB fd.params (r.ps f) && keepIn K (.ref a) &&
        (!((r.tl[f]?).getD false) || (match tabOfC K fd.code with
          | some q => (r.T K).all (fun t => !(t.1 == q.2) || decide (t.2 = lamQ fd))
          | none => false)) &&
        (match stmtsOf fd.body with
          | some b => mSs r.cg (r.nms f) df.ow df.io df.fr ((r.tl[f]?).getD false) fd.scope df.body b
          | none => false)
    | _ => false)
  | none => false
mutual
def dB : D → Value → Bool
  | .non, .none => true
  | .bl b, .bool c => b == c
  | .int i, .int j _ => decide (i = j)
  | .str s, .str t _ => decide (t = ⟨s.toArray⟩)
  | .tup ds, .ref a => match K.lookup a with
    | some ⟨.type t, dd, .seq its _, _⟩ => dd.isNone && decide (t = "tuple") && decide (its.size ≤ sizeLine) && dBs ds its.toList
    | _ => false
  | _, _ => false
def dBs : List D → List Value → Bool
  | [], [] => true
  | d :: ds, v :: vs => dB d v && dBs ds vs
  | _, _ => false
end
variable {K}
mutual
theorem dB_ok : ∀ {d : D} {v : Value}, dB K d v = true → ∃ u, RelV u v ∧ ∀ (G : Gx) (H : Hp) (O : Addr → Prop), G.K = K → FR G H O u d
  | d, v, h => by
    unfold dB at h
    split at h
    · exact ⟨.non, rfl, fun _ _ _ _ => .non⟩
    · rename_i b c
      rw [beq_iff_eq] at h
      subst h
      exact ⟨.bl b, rfl, fun _ _ _ _ => .bl b⟩
    · rename_i i j t
      rw [decide_eq_true_eq] at h
      subst h
      exact ⟨.int i, ⟨t, rfl⟩, fun _ _ _ _ => .int i⟩
    · rename_i s t k
      rw [decide_eq_true_eq] at h
      subst h
      exact ⟨.str ⟨s.toArray⟩, ⟨k, rfl⟩, fun _ _ _ _ => .str s⟩
    · rename_i ds a
      split at h
      · rename_i t dd its n sl hk
        simp only [Bool.and_eq_true, decide_eq_true_eq, Option.isNone_iff_eq_none] at h
        obtain ⟨⟨⟨hd, rfl⟩, h2⟩, h3⟩ := h
        obtain ⟨us, h4, h5⟩ := dBs_ok h3
        exact ⟨.ref a, rfl, fun G H O e => .tupk ⟨_, its, n, by rw [e]; exact hk, rfl, hd, rfl, h2, h4⟩ (h5 G H O e)⟩
      · cases h
    · cases h
theorem dBs_ok : ∀ {ds : List D} {vs : List Value}, dBs K ds vs = true → ∃ us, Vals us vs ∧ ∀ (G : Gx) (H : Hp) (O : Addr → Prop), G.K = K → FRs G H O us ds
  | [], [], _ => ⟨[], .nil, fun _ _ _ _ => .nil⟩
  | d :: ds, v :: vs, h => by
    simp only [dBs, Bool.and_eq_true] at h
    obtain ⟨u, h1, h2⟩ := dB_ok h.1
    obtain ⟨us, h3, h4⟩ := dBs_ok h.2
    exact ⟨u :: us, .cons h1 h3, fun G H O e => .cons (h2 G H O e) (h4 G H O e)⟩
  | [], _ :: _, h => by simp [dBs] at h
  | _ :: _, [], h => by simp [dBs] at h
end
variable (K)
def glB (q : Str × D) : Bool := match nsIn K mainGlobals q.1 with
  | some (some v) => dB K q.2 v
  | _ => false
def noNs (x : Str) : Bool := match nsIn K mainGlobals x with
  | some none => true
  | _ => false
def clsB (C : Addr) : Bool := plainGet K C Str.empty && hasDictIn K C && plainOver K C && decide (findIn K (.ref C) "__setattr__" = some (some (.builtin "object.__setattr__")))
theorem clsB_ok {C : Addr} (h : clsB K C = true) : Cls K C := by
  simp only [clsB, Bool.and_eq_true, decide_eq_true_eq] at h
  exact ⟨h.1.1.1, h.1.1.2, h.1.2, h.2⟩
def Rw.mtB (q : Nat × Nat × Nat) : Bool := clsB K (r.ca K q.1) && decide (findIn K (.ref (r.ca K q.1)) (ix r.mn q.2.1) = some (some (.ref (r.da K q.2.2)))) && isFn K (.ref (r.da K q.2.2)) && keepIn K (.ref (r.da K q.2.2)) && decide (q.2.2 < r.ds.length)
def Rw.inB (q : Nat × Nat) : Bool := decide (nsA K (ix r.cn q.1) = some (r.ca K q.1)) && makesIn K (r.ca K q.1) && decide (findIn K (.ref (r.ca K q.1)) "__init__" = some (some (.ref (r.da K q.2)))) && isFn K (.ref (r.da K q.2)) && keepIn K (.ref (r.ca K q.1)) && decide (q.2 < r.ds.length)
def Rw.exB (c : Nat) : Bool := decide (nsA K (ix r.cn c) = some (r.ca K c)) && keepIn K (.ref (r.ca K c)) && decide (subIn K (.ref (r.ca K c)) (.type "BaseException") = some true) && decide (typeIn K (.ref (r.ca K c)) = some (.type "type")) &&
  excIn K (r.ca K c) [.type "ValueError", .type "Exception", .type "BaseException", .type "object"] "ValueError.__new__"
def Rw.flB (c : Nat) : Bool := clsB K (r.ca K c) && r.fn.all fun x => decide (findIn K (.ref (r.ca K c)) x = some none)
/-- a name that is no filler -/
def notT (s : Str) : Bool := match s.cps.toList with
  | 126 :: _ => false
  | _ => true
def Rw.nmB : Bool := decide (r.pl.length ≤ r.ds.length) && decide r.fn.Nodup && r.fn.all notT && r.mn.all notT && r.fn.all (fun x => !r.mn.contains x && decide (x ≠ ""))
def bltB : Bool := (["len", "abs", "int", "list", "tuple", "sorted", "max", "min", "dict", "sum", "enumerate", "range"] : List Str).all (noNs K)
/-- all of it -/
def Rw.lookB : Bool := r.gs.all (glB K) && bltB K && ((List.range r.ds.length).all fun f => match r.ds[f]? with
    | some df => r.dfB K f df
    | none => true) && r.ms.all (r.mtB K) && r.is.all (r.inB K) && r.exs.all (r.exB K) && r.cls.all (r.flB K) && r.nmB
end
theorem tilde_head (i : Nat) : (tilde i).cps.toList = 126 :: List.replicate i 126 := by
  show (List.replicate (i + 1) 126).toArray.toList = _
  rw [List.toList_toArray, List.replicate_succ]
theorem notT_tilde (i : Nat) : notT (tilde i) = false := by
  unfold notT; rw [tilde_head]; rfl
theorem tilde_inj {i j : Nat} (h : tilde i = tilde j) : i = j := by
  have h1 := congrArg (fun s : Str => s.cps.toList.length) h
  simp only [tilde_head, List.length_cons, List.length_replicate] at h1
  omega
theorem ixT_or (l : List Str) (i : Nat) : (∃ s, l[i]? = some s ∧ ixT l i = s) ∨ (l[i]? = none ∧ ixT l i = tilde i) := by
  unfold ixT
  cases h : l[i]? with
  | some s => exact .inl ⟨s, rfl, rfl⟩
  | none => exact .inr ⟨rfl, rfl⟩
theorem ixT_inj {l : List Str} (hd : l.Nodup) (hn : l.all notT = true) (g g' : Nat) (h : ixT l g = ixT l g') : g = g' := by
  rw [List.all_eq_true] at hn
  rcases ixT_or l g with ⟨s, h1, h2⟩ | ⟨h1, h2⟩ <;> rcases ixT_or l g' with ⟨t, h3, h4⟩ | ⟨h3, h4⟩
  · rw [h2, h4] at h
    subst h
    obtain ⟨a1, a2⟩ := List.getElem?_eq_some_iff.mp h1
    obtain ⟨b1, b2⟩ := List.getElem?_eq_some_iff.mp h3
    exact (List.getElem_inj hd).mp (a2.trans b2.symm)
  · rw [h2, h4] at h
    have := hn s (List.mem_of_getElem? h1)
    rw [h, notT_tilde] at this
    cases this
  · rw [h2, h4] at h
    have := hn t (List.mem_of_getElem? h3)
    rw [← h, notT_tilde] at this
    cases this
  · rw [h2, h4] at h
    exact tilde_inj h
theorem ixT_ne {l ms : List Str} (h1 : l.all notT = true) (h2 : ms.all notT = true) (h3 : l.all (fun x => !ms.contains x && decide (x ≠ "")) = true) (g j : Nat) : ixT l g ≠ ix ms j := by
  rw [List.all_eq_true] at h1 h2 h3
  have hm : ix ms j = "" ∨ ix ms j ∈ ms := by
    unfold ix
    cases h : ms[j]? with
    | none => exact .inl rfl
    | some s => exact .inr (List.mem_of_getElem? h)
  rcases ixT_or l g with ⟨s, a1, a2⟩ | ⟨a1, a2⟩
  · rw [a2]
    have hs := h3 s (List.mem_of_getElem? a1)
    simp only [Bool.and_eq_true, Bool.not_eq_true', decide_eq_true_eq] at hs
    rcases hm with e | e
    · rw [e]; exact hs.2
    · intro z
      rw [← z] at e
      have := List.contains_iff_mem.mpr e
      rw [this] at hs
      cases hs.1
  · rw [a2]
    intro z
    rcases hm with e | e
    · rw [e] at z
      have := congrArg (fun s : Str => s.cps.toList.length) z
      simp only [tilde_head, List.length_cons] at this
      have e0 : ("" : Str).cps.toList.length = 0 := by decide +kernel
      rw [e0] at this
      cases this
    · have := h2 _ e
      rw [← z, notT_tilde] at this
      cases this
end Bh
/-! text Bh7c -/
set_option Elab.async false
set_option linter.all false
set_option maxRecDepth 100000
set_option maxHeartbeats 2000000
/-! Bh7c: the facts of the program from the look. -/
namespace Bh
open PySem PySem.W L2 PyProof.Rows
theorem noneV_eq {v : Value} (h : noneV v = true) : v = .none := by
  unfold noneV at h; split at h
  · rfl
  · cases h
theorem stmtsOf_eq {b : FuncBody} {s : List Stmt} (h : stmtsOf b = some s) : b = .stmts s := by
  unfold stmtsOf at h; split at h
  · cases h; rfl
  · cases h
theorem fd_eq {fd : FuncData} {b : List Stmt} (h : fdB fd = true) (hb : stmtsOf fd.body = some b) : fd = fnOf fd.name fd.qualname fd.params b fd.scope .none fd.kwdefaults fd.doc fd.pyModule fd.annotations fd.code fd.closureTuple := by
  simp only [fdB, Bool.and_eq_true, beq_iff_eq] at h
  obtain ⟨⟨⟨h1, h2⟩, h3⟩, h4⟩ := h
  have h2' := List.isEmpty_iff.mp h2
  have h3' := noneV_eq h3
  have hb' := stmtsOf_eq hb
  cases fd
  simp only at h1 h2' h3' h4 hb'
  subst h1; subst h2'; subst h3'; subst h4; subst hb'
  rfl
theorem parsB_ok {ar : Arguments} {ps : List Str} (h : parsB ar ps = true) : ∃ as, ar = ⟨[], as, none, [], [], none, []⟩ ∧ as.map (·.arg) = ps ∧ ps.Nodup := by
  unfold parsB at h
  split at h
  · rename_i as
    simp only [Bool.and_eq_true, decide_eq_true_eq] at h
    exact ⟨as, rfl, h.1, h.2⟩
  · cases h
theorem binds_of {K : Frag} {fd : FuncData} {ps : List Str} (hd : fd.defaults = .none) (h : parsB fd.params ps = true) : L2.Binds K fd ps [] := by
  obtain ⟨as, h1, h2, h3⟩ := parsB_ok h
  refine L2.Binds.all fun us hl => ?_
  rw [← h2]
  exact bindArgs_plain h1 hd (by rw [h2]; exact h3) (by rw [hl, ← h2, List.length_map])
section
variable {r : Rw} {K : Frag} {w : World} {mg : Str → Option Value} {base h0 : Heap} {prog : Program}
theorem lookB_ok (h : r.lookB K = true) : (r.gs.all (glB K) = true) ∧ (bltB K = true) ∧ (∀ f df, r.ds[f]? = some df → r.dfB K f df = true) ∧ (r.ms.all (r.mtB K) = true) ∧ (r.is.all (r.inB K) = true) ∧ (r.exs.all (r.exB K) = true) ∧ (r.cls.all (r.flB K) = true) ∧ r.nmB = true := by
  simp only [Rw.lookB, Bool.and_eq_true] at h
  obtain ⟨⟨⟨⟨⟨⟨⟨h1, h2⟩, h3⟩, h4⟩, h5⟩, h6⟩, h7⟩, h8⟩ := h
  refine ⟨h1, h2, fun f df hf => ?_, h4, h5, h6, h7, h8⟩
  have := List.all_eq_true.mp h3 f (List.mem_range.mpr (List.getElem?_eq_some_iff.mp hf).1)
  rw [hf] at this
  exact this
theorem dfB_ok {f : Nat} {df : Def} (h : r.dfB K f df = true) : ∃ (a : Addr) (oc : Value) (od : Option Addr) (fd : FuncData) (osl : Array (Option Value)) (b : List Stmt), r.daO K f = some a ∧ K.lookup a = some ⟨oc, od, .func fd, osl⟩ ∧ fdB fd = true ∧ codeIn K fd.code fd.qualname = true ∧ scopeB (r.nms f) (r.ps f) fd.scope = true ∧
    defOkB df (r.nms f) (r.ps f) = true ∧ parsB fd.params (r.ps f) = true ∧ keepIn K (.ref a) = true ∧ ((r.tl[f]?).getD false = true → ∃ q, tabOfC K fd.code = some q ∧ ∀ t ∈ r.T K, t.1 = q.2 → t.2 = lamQ fd) ∧ stmtsOf fd.body = some b ∧ mSs r.cg (r.nms f) df.ow df.io df.fr ((r.tl[f]?).getD false) fd.scope df.body b = true := by
  unfold Rw.dfB at h
  split at h
  · rename_i a ha
    split at h
    · rename_i oc od fd osl hk
      simp only [Bool.and_eq_true] at h
      obtain ⟨⟨⟨⟨⟨⟨⟨h1, h2⟩, h3⟩, h4⟩, h5⟩, h6⟩, h7⟩, h8⟩ := h
      split at h8
      · rename_i b hb
        refine ⟨a, oc, od, fd, osl, b, ha, hk, h1, h2, h3, h4, h5, h6, fun ht => ?_, hb, h8⟩
        rw [ht] at h7
        simp only [Bool.not_true, Bool.false_or] at h7
        split at h7
        · rename_i q hq
          refine ⟨q, hq, fun t htt e => ?_⟩
          have := List.all_eq_true.mp h7 t htt
          simp only [Bool.or_eq_true, Bool.not_eq_true', beq_eq_false_iff_ne, decide_eq_true_eq] at this
          exact this.resolve_left fun z => z e
        · cases h7
      · cases h8
    · cases h
  · cases h
theorem da_of {f : Nat} {a : Addr} (h : r.daO K f = some a) : r.da K f = a := by rw [Rw.da, h]; rfl
theorem fd_of {f : Nat} {a : Addr} {oc : Value} {od : Option Addr} {fd : FuncData} {osl : Array (Option Value)} (h : r.daO K f = some a) (hk : K.lookup a = some ⟨oc, od, .func fd, osl⟩) : r.fd K f = fd := by
  unfold Rw.fd fnAt
  rw [da_of h, hk]
  rfl
theorem tls_mem {f : Nat} {df : Def} (hf : r.ds[f]? = some df) (ht : (r.tl[f]?).getD false = true) : f ∈ r.tls :=
  List.mem_filter.mpr ⟨List.mem_range.mpr (List.getElem?_eq_some_iff.mp hf).1, ht⟩
theorem tabOfC_code {cd : Value} {q : Addr × Addr} (h : tabOfC K cd = some q) : cd = .ref q.1 := by
  unfold tabOfC at h
  split at h
  · split at h
    · split at h
      · cases h; rfl
      · cases h
    · cases h
  · cases h
theorem defAt_look (ok : RwOk r) (h : r.lookB K = true) (T : ToldAt (r.pr K w) K mg r.told) (TB : ∀ p ∈ r.cs K, LamX.TabB base mg p.1 p.2) {f : Nat} {df : Def} (hf : (r.pr K w).pg.defs f = some df) : DefAt (r.pr K w) prog w K mg base f df := by
  have hf' : r.ds[f]? = some df := (ok.defs f).symm.trans hf
  obtain ⟨_, _, h3, _⟩ := lookB_ok h
  obtain ⟨a, oc, od, fd, osl, b, q1, q2, q3, q4, q5, q6, q7, q8, q9, q10, q11⟩ := dfB_ok (h3 f df hf')
  have e1 : (r.pr K w).da f = a := da_of q1
  have e2 : (r.pr K w).dfd f = fd := fd_of q1 q2
  have e3 : (r.pr K w).dps f = r.ps f := rfl
  have ef := fd_eq q3 q10
  refine ⟨fd.name, fd.qualname, fd.params, b, fd.scope, .none, fd.kwdefaults, fd.doc, fd.pyModule, fd.code, fd.closureTuple, oc, fd.annotations, od, osl, r.nms f, (r.tl[f]?).getD false, ?_, q4, ?_, ?_, ?_, fun ht => ?_, ?_⟩
  · rw [e1, ← ef]; exact q2
  · rw [e3]; exact scopeB_ok q5
  · rw [e2]; exact ef
  · rw [e3]; exact defOk_by q6
  · obtain ⟨q, t1, t2⟩ := q9 ht
    have m := tls_mem hf' ht
    have efd : r.fd K f = fd := e2
    have ml : fd ∈ r.lams K := List.mem_append_left _ (List.mem_map.mpr ⟨f, m, efd⟩)
    refine ⟨q.1, q.2, TB q (List.mem_filterMap.mpr ⟨fd, ml, t1⟩), tabOfC_code t1, ?_, fun t htt e => t2 t htt e⟩
    show (q.2, lamQ fd) ∈ r.T K
    exact List.mem_filterMap.mpr ⟨fd, ml, by rw [t1]; rfl⟩
  · intro k X W C p1 p2 p3 p4 S0 po
    subst p3; subst p4
    exact snd_Ss (g := r.cg) ⟨w, X.K, _, _, _, _, _, rfl⟩ ok.meth C S0 T po df.body b q11
theorem all_get {α : Type} {l : List α} {p : α → Bool} (h : l.all p = true) {x : α} (hx : x ∈ l) : p x = true := List.all_eq_true.mp h x hx
theorem ix_map {l : List (Str × D)} {i : Nat} {q : Str × D} (h : l[i]? = some q) : ix (l.map (·.1)) i = q.1 := by
  unfold ix; rw [List.getElem?_map, h]; rfl
theorem facts_look (ok : RwOk r) (h : r.lookB K = true) (X : K.In h0) (G : h0.Ns mainGlobals mg) (T : ToldAt (r.pr K w) K mg r.told) (TB : ∀ p ∈ r.cs K, LamX.TabB base mg p.1 p.2) : ∀ k, Facts (r.pr K w) prog w K mg base k := by
  obtain ⟨h1, h2, h3, h4, h5, h6, h7, h8⟩ := lookB_ok h
  simp only [Rw.nmB, Bool.and_eq_true, decide_eq_true_eq] at h8
  obtain ⟨⟨⟨⟨n0, n1⟩, n2⟩, n3⟩, n4⟩ := h8
  have blt : ∀ x ∈ (["len", "abs", "int", "list", "tuple", "sorted", "max", "min", "dict", "sum", "enumerate", "range"] : List Str), mg x = none := fun x hx => by
    have := all_get h2 hx
    unfold noNs at this
    split at this
    · exact mg_none_of X G (by assumption)
    · cases this
  refine facts_all (fun k fn => ⟨rfl, rfl, fun g d hg => ?_, fun b => ?_, blt "range" (by simp), blt "enumerate" (by simp), fun f hf => ?_, fun f df hf => ?_, fun f df hf => ?_, fn, ixT_inj n1 n2, ixT_ne n2 n3 n4, fun c m f hm => ?_, fun c f hi => ?_, fun c hc => ?_, fun c f hf => ?_⟩) fun f df hf => defAt_look ok h T TB hf
  · have hg' := (ok.glob g).symm.trans hg
    cases hq : r.gs[g]? with
    | none => rw [hq] at hg'; cases hg'
    | some q =>
      rw [hq] at hg'
      cases hg'
      have := all_get h1 (List.mem_of_getElem? hq)
      unfold glB at this
      split at this
      · rename_i v hv
        obtain ⟨u, a1, a2⟩ := dB_ok this
        refine ⟨u, v, ?_, a1, fun H O => a2 _ H O rfl⟩
        show mg (ix (r.gs.map (·.1)) g) = some v
        rw [ix_map hq]
        exact mg_of X G hv
      · cases this
  · cases b <;> exact blt _ (by simp [bfName])
  · have hf' : (match r.pl[f]? with
      | some none => true
      | _ => false) = true := hf
    split at hf'
    · rename_i hpl
      by_cases hl : f < r.ds.length
      · obtain ⟨a, oc, od, fd, osl, b, q1, _⟩ := dfB_ok (h3 f _ (List.getElem?_eq_getElem hl))
        have q1' := q1
        unfold Rw.daO at q1'
        rw [hpl] at q1'
        show mg (ix r.dn f) = some (.ref (r.da K f))
        rw [da_of q1]
        exact mg_of X G (nsA_eq q1')
      · have := (List.getElem?_eq_some_iff.mp hpl).1; omega
    · cases hf'
  · obtain ⟨a, oc, od, fd, osl, b, q1, _, _, _, _, _, _, q8, _⟩ := dfB_ok (h3 f df ((ok.defs f).symm.trans hf))
    show keepIn K (.ref (r.da K f)) = true
    rw [da_of q1]; exact q8
  · obtain ⟨a, oc, od, fd, osl, b, q1, q2, q3, _, _, _, q7, _⟩ := dfB_ok (h3 f df ((ok.defs f).symm.trans hf))
    show L2.Binds K (r.fd K f) (r.ps f) []
    rw [fd_of q1 q2]
    simp only [fdB, Bool.and_eq_true] at q3
    exact binds_of (noneV_eq q3.1.2) q7
  · have := all_get h4 (ok.meth c m f hm)
    simp only [Rw.mtB, Bool.and_eq_true, decide_eq_true_eq] at this
    obtain ⟨⟨⟨⟨a1, a2⟩, a3⟩, a4⟩, a5⟩ := this
    exact ⟨clsB_ok K a1, ⟨a2, a3, a4⟩, _, (ok.defs f).trans (List.getElem?_eq_getElem a5)⟩
  · have := all_get h5 (ok.init c f hi)
    simp only [Rw.inB, Bool.and_eq_true, decide_eq_true_eq] at this
    obtain ⟨⟨⟨⟨⟨a1, a2⟩, a3⟩, a4⟩, a5⟩, a6⟩ := this
    exact ⟨mg_of X G (nsA_eq a1), ⟨a2, a3, a4, a5⟩, _, (ok.defs f).trans (List.getElem?_eq_getElem a6)⟩
  · have := all_get h6 (List.contains_iff_mem.mp hc)
    simp only [Rw.exB, Bool.and_eq_true, decide_eq_true_eq] at this
    obtain ⟨⟨⟨⟨a1, a2⟩, a3⟩, a4⟩, a5⟩ := this
    exact ⟨mg_of X G (nsA_eq a1), a2, a3, a4, a5⟩
  · obtain ⟨m1, m2⟩ := ok.fld c f hf
    have := all_get h7 m1
    simp only [Rw.flB, Bool.and_eq_true] at this
    obtain ⟨a1, a2⟩ := this
    have a3 := all_get a2 (List.getElem_mem m2)
    rw [decide_eq_true_eq] at a3
    refine ⟨clsB_ok K a1, ?_⟩
    show findIn K (.ref (r.ca K c)) (ixT r.fn f) = some none
    rw [show ixT r.fn f = r.fn[f] from by unfold ixT; rw [List.getElem?_eq_getElem m2]]
    exact a3
/-! ### the def that tells -/
/-- a clause of it: the class's name, what is told -/
def hdS : ExceptHandler → Option (Str × Str)
  | .ExceptHandler (some (.Name e _)) none [.Return (some (.Constant (.str ret) _ _)) _] _ => some (e, ret)
  | _ => none
def clOk (sg : Scope) (e : Str) : Bool := (match sg.names.lookup e with
  | some .globalImplicit => true
  | _ => false) && !(e == ("__debug__" : Str))
theorem clOk_ok {sg : Scope} {e : Str} (h : clOk sg e = true) : sg.names.lookup e = some .globalImplicit ∧ (e == ("__debug__" : Str)) = false := by
  unfold clOk at h
  rw [Bool.and_eq_true, Bool.not_eq_true'] at h
  refine ⟨?_, h.2⟩
  have h1 := h.1
  split at h1
  · assumption
  · cases h1
def hdsL (K : Frag) (sg : Scope) : List ExceptHandler → Option (List (Value × Str))
  | [] => some []
  | h :: hs => match hdS h with
    | some (e, ret) => (match nsIn K mainGlobals e with
      | some (some c) => if clOk sg e = true then (hdsL K sg hs).map ((c, ret) :: ·) else none
      | _ => none)
    | none => none
theorem hdsL_ok (X : K.In h0) (G : h0.Ns mainGlobals mg) {sg : Scope} : ∀ {hs : List ExceptHandler} {l : List (Value × Str)}, hdsL K sg hs = some l → Hds sg mg hs l
  | [], l, h => by cases h; exact .nil
  | hd :: hs, l, h => by
    unfold hdsL at h
    split at h
    · rename_i e ret hh
      split at h
      · rename_i c hc
        split at h
        · rename_i hb
          obtain ⟨hl, b2⟩ := clOk_ok hb
          cases hr : hdsL K sg hs with
          | none => rw [hr] at h; cases h
          | some l' =>
            rw [hr] at h
            cases h
            unfold hdS at hh
            split at hh
            · cases hh
              exact .cons hl (mg_of X G hc) b2 (hdsL_ok X G hr)
            · cases hh
        · cases h
      · cases h
    · cases h
/-- what is told of a class -/
def wTB (K : Frag) : List (Value × Str) → Value → Option Str
  | [], _ => none
  | (c, ret) :: r, cls => match exmOne K cls c with
    | some true => some ret
    | some false => wTB K r cls
    | none => none
theorem wTB_ok : ∀ {l : List (Value × Str)} {cls : Value} {s : Str}, wTB K l cls = some s → ∀ k : Str → Prop, k s → wT K l cls k
  | [], _, _, h, _, _ => by cases h
  | (c, ret) :: r, cls, s, h, k, hk => by
    unfold wTB at h
    split at h
    · rename_i he
      cases h
      exact ⟨true, he, fun _ => hk, fun z => nomatch z⟩
    · rename_i he
      exact ⟨false, he, (fun z => nomatch z), fun _ => wTB_ok h k hk⟩
    · cases h
def tryOf : List Stmt → Option (Str × List ExceptHandler)
  | [.Try [.Return (some (.Call (.Name a _) [] [] _)) _] hs [] [] _] => some (a, hs)
  | _ => none
def visL (sg : Scope) (a : Str) : Bool := match sg.names.lookup a with
  | some .local => true
  | _ => false
def Rw.tdB (r : Rw) (K : Frag) : Bool := match nsA K r.told with
  | some g => (match K.lookup g with
    | some ⟨_, _, .func fd, _⟩ => fdB fd && decide (fd.name = r.told) && decide (fd.qualname = r.told) && codeIn K fd.code fd.qualname && keepIn K (.ref g) && (match stmtsOf fd.body with
      | some b => (match tryOf b with
        | some (a, hs) => parsB fd.params [a] && scopeB [a] [a] fd.scope && visL fd.scope a && plainName a && (match hdsL K fd.scope hs with
          | some (c :: l) => r.td.all fun q => decide (wTB K (c :: l) (.ref (r.ca K q.1)) = some (kStr q.2))
          | _ => false)
        | none => false)
      | none => false)
    | _ => false)
  | none => false
theorem toldAt_look (ok : RwOk r) (X : K.In h0) (G : h0.Ns mainGlobals mg) (h : r.tdB K = true) : ToldAt (r.pr K w) K mg r.told := by
  unfold Rw.tdB at h
  split at h
  · rename_i g hg
    split at h
    · rename_i oc od fd osl hk
      simp only [Bool.and_eq_true, decide_eq_true_eq] at h
      obtain ⟨⟨⟨⟨⟨h1, h2⟩, h3⟩, h4⟩, h5⟩, h6⟩ := h
      split at h6
      · rename_i b hb
        split at h6
        · rename_i a hs ha
          simp only [Bool.and_eq_true] at h6
          obtain ⟨⟨⟨⟨h7, h8⟩, h9⟩, h10⟩, h11⟩ := h6
          split at h11
          · rename_i c l hl
            have ef := fd_eq h1 hb
            have hd : fd.defaults = .none := by
              simp only [fdB, Bool.and_eq_true] at h1
              exact noneV_eq h1.1.2
            have hbi := binds_of (K := K) hd h7
            unfold tryOf at ha
            split at ha
            · rename_i a' p1 p2 p3 hs' p8
              cases ha
              have hlok := hdsL_ok X G hl
              cases hs with
              | nil => cases hl
              | cons h0' hds =>
              rw [h2, h3] at ef
              refine ⟨g, a, fd.params, fd.scope, .none, fd.kwdefaults, fd.doc, fd.pyModule, fd.code, fd.closureTuple, oc, fd.annotations, od, osl, [a], h0', hds, c, l, p1, p2, p3, p8, mg_of X G (nsA_eq hg), h5, ?_, ?_, ?_, scopeB_ok h8, rfl, ?_, hlok, h10, fun cc d hcd => ?_⟩
              · rw [← ef]; exact hk
              · rw [h3] at h4; exact h4
              · rw [← ef]; exact hbi
              · unfold visL at h9
                split at h9
                · exact .inl (by assumption)
                · cases h9
              · obtain ⟨s, m1, rfl⟩ := ok.told cc d hcd
                have := all_get h11 m1
                rw [decide_eq_true_eq] at this
                exact ⟨s, rfl, fun k hk => wTB_ok this k hk⟩
            · cases ha
          · cases h11
        · cases h6
      · cases h6
    · cases h
  · cases h
end
end Bh
/-! text Bh7d -/
set_option Elab.async false
set_option linter.all false
set_option maxRecDepth 100000
set_option maxHeartbeats 2000000
/-! Bh7d: the law's two outer defs, and the end. -/
namespace Bh
open PySem PySem.W L2 PyProof.Rows
/-- the law's outer part -/
structure Lw where
  r : Rw
  rounds : Str
  rdN : List Str
  rdB : List S
  lwN : List Str
  lwOw : List Nat
  lwB : List S
  lwI : Nat
  lwTl : Bool
def rdOf : List Stmt → Option (Expr × Expr × Expr × List Stmt)
  | .Assign [tg] (.Subscript a (.Slice none (some b) none _) _) _ :: rest => some (tg, a, b, rest)
  | _ => none
def lwOf : List Stmt → Option (Expr × Str × Expr × List Stmt)
  | [.For tg (.Call (.Name x _) [a, .Constant (.int 1) _ _] [] _) body [] _, .Return (some (.Constant (.bool true) _ _)) _] => some (tg, x, a, body)
  | _ => none
theorem rdOf_eq {b rest : List Stmt} {tg a m : Expr} (h : rdOf b = some (tg, a, m, rest)) : ∃ p1 p2 p3, b = .Assign [tg] (.Subscript a (.Slice none (some m) none p1) p2) p3 :: rest := by
  unfold rdOf at h
  split at h
  · cases h; exact ⟨_, _, _, rfl⟩
  · cases h
theorem lwOf_eq {b body : List Stmt} {tg a : Expr} {x : Str} (h : lwOf b = some (tg, x, a, body)) : ∃ p1 p2 p3 p4 p5 p6 j l, b = [.For tg (.Call (.Name x p1) [a, .Constant (.int 1) j p2] [] p3) body [] p4, .Return (some (.Constant (.bool true) l p5)) p6] := by
  unfold lwOf at h
  split at h
  · cases h; exact ⟨_, _, _, _, _, _, _, _, rfl⟩
  · cases h
section
variable (L : Lw) (K : Frag)
def Lw.rdK : Bool := match nsA K L.rounds with
  | some g => (match K.lookup g with
    | some ⟨_, _, .func fd, _⟩ => fdB fd && codeIn K fd.code fd.qualname && keepIn K (.ref g) && parsB fd.params (L.rdN.take 2) && scopeB L.rdN (L.rdN.take 2) fd.scope && decide (L.rdN.length = 4) && (match stmtsOf fd.body with
      | some b => (match rdOf b with
        | some (tg, a, m, rest) => slotE L.rdN fd.scope 0 a && slotE L.rdN fd.scope 1 m && tgtIs L.rdN fd.scope 2 tg && mSs L.r.cg L.rdN [] [] false false fd.scope L.rdB rest
        | none => false)
      | none => false)
    | _ => false)
  | none => false
def Lw.lwK : Bool := match nsA K "law" with
  | some g => (match K.lookup g with
    | some ⟨_, _, .func fd, _⟩ => fdB fd && codeIn K fd.code fd.qualname && parsB fd.params ["script"] && scopeB L.lwN ["script"] fd.scope && decide (L.lwI ∈ L.lwOw) && decide (0 ∉ L.lwOw) && decide (L.lwI < L.lwN.length) &&
      (!L.lwTl || (match tabOfC K fd.code with
          | some q => decide (q ∈ L.r.cs K) && decide ((q.2, lamQ fd) ∈ L.r.T K) && (L.r.T K).all (fun t => !(t.1 == q.2) || decide (t.2 = lamQ fd))
          | none => false)) &&
      (match stmtsOf fd.body with
      | some b => (match lwOf b with
        | some (tg, x, a, body) => decide (x = L.rounds) && gloB fd.scope x && plainName x && slotE L.lwN fd.scope 0 a && !isStar a && tgtIs L.lwN fd.scope L.lwI tg && mSs L.r.cg L.lwN L.lwOw [] false L.lwTl fd.scope L.lwB body
        | none => false)
      | none => false)
    | _ => false)
  | none => false
/-- what is asked of the evaluator -/
structure Lw.Good (k : Nat) : Prop where
  rd : ∀ ns : List Int, ∃ a b c e, evSs L.r.pg.tb (lev L.r.pg k) L.rdB [none, some (.int 1), some (.lst ((ns.take 1).map .int)), none] = .ret (.lst [.lst [.int a, .int b, .int c]]) e
  lw : ∀ a b c : Int, ∃ e, evSs L.r.pg.tb (lev L.r.pg (k + 1)) L.lwB (Env.put (List.replicate L.lwN.length none) L.lwI (.lst [.int a, .int b, .int c])) = .nx e
end
/-- the promise of the rounds -/
def spR (T : List (Addr × Str)) (K : Frag) : Sp := fun vs H Q _ => ∃ (a : Addr) (ns : List Int), vs = [.ref a, .int 1] ∧ SqL K H a (ns.map V.int) ∧ LamX.Tabs T H ∧
  ∀ (p d : Addr) (x y z : Int) (H' : Hp), H' p = some (.lst [.ref d]) → H' d = some (.lst [.int x, .int y, .int z]) → LamX.Tabs T H' → Q (.ref p) H'
def spL (T : List (Addr × Str)) (K : Frag) : Sp := fun vs H Q _ => ∃ (a : Addr) (ns : List Int), vs = [.ref a] ∧ SqL K H a (ns.map V.int) ∧ LamX.Tabs T H ∧ ∀ H', Q (.bl true) H'
theorem FRs_ints {G : Gx} {H : Hp} {O : Addr → Prop} : ∀ ns : List Int, FRs G H O (ns.map V.int) (ns.map D.int)
  | [] => .nil
  | n :: ns => .cons (.int n) (FRs_ints ns)
theorem cut1 (ns : List Int) : cutV (ns.map V.int) none (some 1) = (ns.take 1).map V.int := by
  cases ns with
  | nil => rfl
  | cons n ns => simp [cutV, HT.sIx]
section
variable {L : Lw} {K : Frag} {w : World} {mg : Str → Option Value} {base h0 : Heap} {prog : Program}
theorem rounds_ok (ok : RwOk L.r) (X0 : K.In h0) (G : h0.Ns mainGlobals mg) (T : ToldAt (L.r.pr K w) K mg L.r.told) (h : L.rdK K = true) {k : Nat} (F : Facts (L.r.pr K w) prog w K mg base k) (gd : L.Good k) :
    ∃ (g : Addr) (fd : FuncData), mg L.rounds = some (.ref g) ∧ keepIn K (.ref g) = true ∧ L2.Binds K fd (L.rdN.take 2) [] ∧ FnOk prog w K mg base (L2.CX prog w) (k + 1) g fd (L.rdN.take 2) (spR (L.r.T K) K) := by
  unfold Lw.rdK at h
  split at h
  · rename_i g hg
    split at h
    · rename_i oc od fd osl hk
      simp only [Bool.and_eq_true, decide_eq_true_eq] at h
      obtain ⟨⟨⟨⟨⟨⟨h1, h2⟩, h3⟩, h4⟩, h5⟩, h5'⟩, h6⟩ := h
      split at h6
      · rename_i b hb
        split at h6
        · rename_i tg a m rest hr
          simp only [Bool.and_eq_true] at h6
          obtain ⟨⟨⟨h7, h8⟩, h9⟩, h10⟩ := h6
          have ef := fd_eq h1 hb
          have hd : fd.defaults = .none := by
            simp only [fdB, Bool.and_eq_true] at h1
            exact noneV_eq h1.1.2
          have sc := scopeB_ok h5
          obtain ⟨p1, p2, p3, rfl⟩ := rdOf_eq hr
          refine ⟨g, fd, mg_of X0 G (nsA_eq hg), h3, binds_of hd h4, ?_⟩
          have l2 : (L.rdN.take 2).length = 2 := by rw [List.length_take, h5']; rfl
          rw [ef]
          rw [ef] at hk
          refine fn_of hk h2 sc (fun vs H Q E ⟨a, ns, e, _⟩ => by rw [e, l2]; rfl) fun A outer s H vs Q E hrm ⟨sa, ns, e, hS, hT, q⟩ => ?_
          subst e
          have tk := takes_of (X := cxOf (L2.CX prog w) prog w K mg base L.rdN fd.qualname fd.scope g fd.code A outer s H E) rfl rfl rfl rfl
          have C : Cok (L.r.pr K w) L.rdN false fd.scope k (cxOf (L2.CX prog w) prog w K mg base L.rdN fd.qualname fd.scope g fd.code A outer s H E) (fun cls d _ H' => E cls d H') := ⟨rfl, sc.nd, rfl, rfl, hrm, tk, fun z => (nomatch z), F⟩
          have S0 : Sets L.rdN fd.scope (cxOf (L2.CX prog w) prog w K mg base L.rdN fd.qualname fd.scope g fd.code A outer s H E) := ⟨rfl, sc.nd, rfl, fun x hx => ⟨hx, .inl rfl⟩⟩
          unfold tgtIs at h9
          split at h9
          · simp only [Bool.and_eq_true, decide_eq_true_eq] at h9
            have hl := locB_loc h9.2
            refine ⟨_, pss_cons (ps_set (i := 2) C.nd h9.1 (S0.st _ hl).1 (pe_slice sl_list (slot_pe C h7) po_none (po_some (slot_pe C h8))) rfl (S0.st _ hl).2) (snd_Ss (g := L.r.cg) ⟨w, K, _, _, _, _, _, rfl⟩ ok.meth C S0 T (passes_of rfl) L.rdB rest h10), ?_⟩
            refine ⟨_, rfl, _, rfl, 1, rfl, sa, ns.map V.int, rfl, hS, fun p np => ?_⟩
            rw [cut1]
            obtain ⟨x, y, z, e', hev⟩ := gd.rd ns
            refine ⟨⟨(L.r.pr K w).G, [], [], (L.r.pr K w).T, fun _ => False, fun _ => False, fun _ => none, []⟩, [none, some (.int 1), some (.lst ((ns.take 1).map .int)), none], ⟨⟨rfl, rfl, rfl, fun _ z => z⟩, rfl, fun q hq => (nomatch hq)⟩, ?_, ?_⟩
            · have eσ : (L2.start L.rdN [V.ref sa, V.int 1]).set 2 (some (V.ref p)) = [some (V.ref sa), some (V.int 1), some (V.ref p), none] := by
                unfold L2.start
                rw [h5']
                rfl
              show FI _ ((L2.start L.rdN [V.ref sa, V.int 1]).set 2 (some (V.ref p))) _ _
              rw [eσ]
              refine ⟨rfl, fun i d hd _ => ?_, fun i d _ hi => (nomatch hi), fun i j q hi => (nomatch hi), fun a o e => (nomatch e), fun a z => z.elim, fun q hq => (nomatch hq), fun a z => z.elim, fun _ z => z, fun a ⟨o, e, _⟩ => (nomatch e), LamX.Tabs.ext hT fun b o e => by rw [upd_ne (ne_of_none e np)]; exact e, fun q hq => (nomatch hq)⟩
              match i, hd with
              | 0, hd => cases hd
              | 1, hd => cases hd; exact ⟨_, rfl, .int 1⟩
              | 2, hd =>
                cases hd
                refine ⟨_, rfl, .lst upd_same ?_ (FRs_ints _)⟩
                rintro (z | ⟨i, hi, _⟩)
                · exact z
                · exact nomatch hi
              | 3, hd => cases hd
              | n + 4, hd => simp [Env.get] at hd
            · show OW _ _ _ _ (evSs L.r.pg.tb (lev L.r.pg k) L.rdB _)
              rw [hev]
              intro v σ' H' I R
              have R1 := R.1
              cases R1 with
              | lst e1 n1 r1 =>
                obtain ⟨v1, rfl, r2⟩ := r1.of_one
                cases r2 with
                | lst e2 n2 r3 =>
                  cases r3 with
                  | cons u1 r4 => cases r4 with
                    | cons u2 r5 => cases r5 with
                      | cons u3 r6 =>
                        cases r6
                        cases u1; cases u2; cases u3
                        exact q _ _ _ _ _ _ e1 e2 I.tabs
          · cases h9
        · cases h6
      · cases h6
    · cases h
  · cases h
theorem law_ok (ok : RwOk L.r) (X0 : K.In h0) (G : h0.Ns mainGlobals mg) (T : ToldAt (L.r.pr K w) K mg L.r.told) (TB : ∀ p ∈ L.r.cs K, LamX.TabB base mg p.1 p.2) (hr : L.rdK K = true) (h : L.lwK K = true) {k : Nat} (FA : ∀ k, Facts (L.r.pr K w) prog w K mg base k) (gd : L.Good k) :
    ∃ (g : Addr) (fd : FuncData), mg "law" = some (.ref g) ∧ (∀ (s : Shared) (u : Value), BindsTo s fd ⟨[u], []⟩ [(("script" : Str), u)]) ∧ fd = (fnAt K g).getD default ∧ FnOk prog w K mg base (L2.CX prog w) (k + 2) g fd ["script"] (spL (L.r.T K) K) := by
  obtain ⟨gr, fdr, r1, r2, r3, r4⟩ := rounds_ok ok X0 G T hr (FA k) gd
  unfold Lw.lwK at h
  split at h
  · rename_i g hg
    split at h
    · rename_i oc od fd osl hk
      simp only [Bool.and_eq_true, decide_eq_true_eq] at h
      obtain ⟨⟨⟨⟨⟨⟨⟨⟨h1, h2⟩, h4⟩, h5⟩, h5a⟩, h5b⟩, h5c⟩, h5d⟩, h6⟩ := h
      split at h6
      · rename_i b hb
        split at h6
        · rename_i tg x a body hl
          simp only [Bool.and_eq_true, decide_eq_true_eq] at h6
          obtain ⟨⟨⟨⟨⟨⟨h7, h8⟩, h8a⟩, h8b⟩, h8c⟩, h9⟩, h10⟩ := h6
          have ef := fd_eq h1 hb
          have hd : fd.defaults = .none := by
            simp only [fdB, Bool.and_eq_true] at h1
            exact noneV_eq h1.1.2
          have sc := scopeB_ok h5
          obtain ⟨p1, p2, p3, p4, p5, p6, jj, ll, rfl⟩ := lwOf_eq hl
          refine ⟨g, fd, mg_of X0 G (nsA_eq hg), fun s u => ?_, by unfold fnAt; rw [hk]; rfl, ?_⟩
          · obtain ⟨as, a1, a2, a3⟩ := parsB_ok h4
            have := bindArgs_plain (us := [u]) a1 hd (by rw [a2]; exact a3) (by
              have := congrArg List.length a2
              simpa using this.symm)
            rw [a2] at this
            exact .of_eq this
          rw [ef]
          rw [ef] at hk
          refine fn_of hk h2 sc (fun vs H Q E ⟨a, ns, e, _⟩ => by rw [e]; rfl) fun A outer s H vs Q E hrm ⟨sa, ns, e, hS, hT, q⟩ => ?_
          subst e
          have tk := takes_of (X := cxOf (L2.CX prog w) prog w K mg base L.lwN fd.qualname fd.scope g fd.code A outer s H E) rfl rfl rfl rfl
          have C : Cok (L.r.pr K w) L.lwN L.lwTl fd.scope (k + 1) (cxOf (L2.CX prog w) prog w K mg base L.lwN fd.qualname fd.scope g fd.code A outer s H E) (fun cls d _ H' => E cls d H') := ⟨rfl, sc.nd, rfl, rfl, hrm, tk, (fun z => by
            rw [z] at h5d
            simp only [Bool.not_true, Bool.false_or] at h5d
            split at h5d
            · rename_i qq hq
              simp only [Bool.and_eq_true, decide_eq_true_eq] at h5d
              obtain ⟨⟨t1, t2⟩, t3⟩ := h5d
              refine ⟨qq.1, qq.2, _, congrArg (fun z : Str => z ++ "<lambda>") (show (cxOf (L2.CX prog w) prog w K mg base L.lwN fd.qualname fd.scope g fd.code A outer s H E).env.qual = fd.qualname ++ ".<locals>." from rfl), TB qq t1, tabOfC_code hq, t2, fun t ht e => ?_⟩
              have := List.all_eq_true.mp t3 t ht
              simp only [Bool.or_eq_true, Bool.not_eq_true', beq_eq_false_iff_ne, decide_eq_true_eq] at this
              exact this.resolve_left fun z => z e
            · cases h5d), FA (k + 1)⟩
          have S0 : Sets L.lwN fd.scope (cxOf (L2.CX prog w) prog w K mg base L.lwN fd.qualname fd.scope g fd.code A outer s H E) := ⟨rfl, sc.nd, rfl, fun x hx => ⟨hx, .inl rfl⟩⟩
          subst h7
          simp only [plainName, Bool.and_eq_true, Bool.not_eq_true'] at h8a
          have hcall : PE (cxOf (L2.CX prog w) prog w K mg base L.lwN fd.qualname fd.scope g fd.code A outer s H E) (.Call (.Name L.rounds p1) [a, .Constant (.int 1) jj p2] [] p3) _ :=
            pe_callS (k := k + 1) (sp := spR (L.r.T K) K) r4 C.room (C.gl h8) r1 r2 r3 (fun σ => passAt C.tk σ) (pa_cons (slot_pe C h8b) (pa_cons pe_int pa_nil rfl) (starEach_cons (by simpa using h8c) _ _)) h8a.1.1 (starEach_cons (by simpa using h8c) _ _) rfl
          have hfor := ps_for (pos := p4) (passes_of (X := cxOf (L2.CX prog w) prog w K mg base L.lwN fd.qualname fd.scope g fd.code A outer s H E) rfl) rfl (pi_list hcall) (pg_one S0 h9) (snd_Ss (g := L.r.cg) ⟨w, K, _, _, _, _, _, rfl⟩ ok.meth C S0 T (passes_of rfl) L.lwB body h10)
          refine ⟨_, pss_cons hfor (pss_one (ps_ret pe_bl)), ?_⟩
          refine ⟨_, rfl, sa, ns, rfl, hS, hT, fun p d x y z H' hp hd' hT' => ⟨p, rfl, ⟨_, Or.inl (Or.inl hp)⟩, ?_⟩⟩
          have npd : p ≠ d := fun z => by
            rw [z, hd'] at hp
            cases hp
          refine for_list (xs := [V.ref d]) (fun i σ H => H p = some (.lst [.ref d]) ∧ (i = 0 → H d = some (.lst [.int x, .int y, .int z]) ∧ LamX.Tabs (L.r.T K) H ∧ σ.length = L.lwN.length)) ⟨hp, fun _ => ⟨hd', hT', start_len (by have := congrArg List.length sc.pre; simp at this ⊢; omega)⟩⟩ (fun i σ H _ P => .inl (.inl P.1)) (fun i v σ H hi P => ?_) fun σ H P => q H
          match i, hi with
          | 0, hi =>
            cases hi
            obtain ⟨Pp, P2⟩ := P
            obtain ⟨Pd, Pt, Pl⟩ := P2 rfl
            obtain ⟨e', hev⟩ := gd.lw x y z
            have gI : ∀ (i : Nat) (dd : D), (Env.put (List.replicate L.lwN.length none) L.lwI (.lst [.int x, .int y, .int z])).get i = some dd → i = L.lwI ∧ dd = .lst [.int x, .int y, .int z] := fun i dd hg => by
              unfold Env.put Env.get at hg
              rw [List.getElem?_set] at hg
              split at hg
              · rename_i e
                split at hg
                · exact ⟨e.symm, (Option.some.inj hg).symm⟩
                · cases hg
              · rw [List.getElem?_replicate] at hg
                split at hg <;> cases hg
            show tS _ _ _ _ _ _ _ (σ.set L.lwI (some (.ref d))) H
            have hli : L.lwI < σ.length := by omega
            refine ⟨⟨(L.r.pr K w).G, L.lwOw, [], (L.r.pr K w).T, fun _ => False, fun _ => False, fun a => if a = d then none else H a, []⟩, Env.put (List.replicate L.lwN.length none) L.lwI (.lst [.int x, .int y, .int z]), ⟨⟨rfl, rfl, rfl, fun _ z => z⟩, rfl, fun q hq => (nomatch hq)⟩, ?_, ?_⟩
            · refine ⟨?_, fun i dd hg hn => ?_, fun i dd hg hn => ?_, fun i j b hi hj ⟨d1, g1⟩ ⟨d2, g2⟩ s1 s2 => ?_, fun a o e _ _ => ?_, fun a z => z.elim, fun q hq => (nomatch hq), fun a z => z.elim, fun _ z => z, fun a ⟨o, e, nt⟩ => ?_, Pt, fun q hq => (nomatch hq)⟩
              · rw [List.length_set, Pl]
                unfold Env.put
                rw [List.length_set, List.length_replicate]
              · obtain ⟨rfl, _⟩ := gI i dd hg
                exact (hn h5a).elim
              · obtain ⟨rfl, rfl⟩ := gI i dd hg
                refine ⟨d, by rw [List.getElem?_set]; simp [hli], .lst Pd (.cons (.int x) (.cons (.int y) (.cons (.int z) .nil))), .inr fun ⟨o, e, _⟩ => ?_⟩
                have z0 : (none : Option HO) = some o := (if_pos rfl).symm.trans e
                cases z0
              · rw [(gI i d1 g1).1, (gI j d2 g2).1]
              · by_cases hb : a = d
                · have z0 : (none : Option HO) = some o := (if_pos hb).symm.trans e
                  cases z0
                · exact (if_neg hb).symm.trans e
              · by_cases hb : a = d
                · have z0 : (none : Option HO) = some o := (if_pos hb).symm.trans e
                  cases z0
                · exact ⟨o, (if_neg hb).symm.trans e, nt⟩
            · show OW _ _ _ _ (evSs L.r.pg.tb (lev L.r.pg (k + 1)) L.lwB _)
              rw [hev]
              intro σ' H' I
              exact ⟨I.kp p _ ((if_neg npd).trans Pp) (fun j hj => (nomatch hj)) fun _ z => (nomatch z), fun z => (nomatch z)⟩
        · cases h6
      · cases h6
    · cases h
  · cases h
end
end Bh
/-! text Bh7e -/
set_option Elab.async false
set_option linter.all false
set_option maxRecDepth 100000
set_option maxHeartbeats 2000000
/-! Bh7e: the end. -/
namespace Bh
open PySem PySem.W L2 PyProof.Rows
/-- the whole look -/
def Lw.allB (L : Lw) (ts : List Addr) (K : Frag) : Bool := L.r.lookB K && L.r.tdB K && L.rdK K && L.lwK K && (L.r.cs K).all fun q => ts.contains q.2 && (K.lookup q.2).isNone && codeHdIn K q.1 q.2
section
variable {L : Lw} {K : Frag} {w : World} {mg : Str → Option Value} {base h0 : Heap} {prog : Program}
theorem law_binds (h : L.lwK K = true) : ∃ g, nsA K "law" = some g ∧ ∀ (s : Shared) (u : Value), BindsTo s ((fnAt K g).getD default) ⟨[u], []⟩ [(("script" : Str), u)] := by
  unfold Lw.lwK at h
  split at h
  · rename_i g hg
    refine ⟨g, hg, ?_⟩
    split at h
    · rename_i oc od fd osl hk
      have e : (fnAt K g).getD default = fd := by unfold fnAt; rw [hk]; rfl
      rw [e]
      simp only [Bool.and_eq_true, decide_eq_true_eq] at h
      obtain ⟨⟨⟨⟨⟨⟨⟨⟨h1, h2⟩, h4⟩, h5⟩, h5a⟩, h5b⟩, h5c⟩, h5d⟩, h6⟩ := h
      have hd : fd.defaults = .none := by
        simp only [fdB, Bool.and_eq_true] at h1
        exact noneV_eq h1.1.2
      intro s u
      obtain ⟨as, a1, a2, a3⟩ := parsB_ok h4
      have := bindArgs_plain (us := [u]) a1 hd (by rw [a2]; exact a3) (by
        have := congrArg List.length a2
        simpa using this.symm)
      rw [a2] at this
      exact .of_eq this
    · cases h
  · cases h
theorem law_at {l : OpenLaw} {ts : List Addr} {n k : Nat} {fa : Addr} (ok : RwOk L.r) (gd : L.Good k) (X0 : K.In h0) (G : h0.Ns mainGlobals mg) (Y : ∀ P ∈ ts, h0.get? P = some (tabObj #[])) (B : L.allB ts K = true) (hfa : mg "law" = some (.ref fa)) :
    LamX.LawAtS l w K (L2.CX l.prog w) (k + 2) n "script" mg fa h0 := by
  simp only [Lw.allB, Bool.and_eq_true] at B
  obtain ⟨⟨⟨⟨b1, b2⟩, b3⟩, b4⟩, b5⟩ := B
  rw [List.all_eq_true] at b5
  obtain ⟨g, hg, hb⟩ := law_binds b4
  have T := toldAt_look (w := w) ok X0 G b2
  have ega : g = fa := by
    have := (mg_of X0 G (nsA_eq hg)).symm.trans hfa
    cases this; rfl
  subst ega
  refine ⟨(fnAt K g).getD default, L.r.cs K, spL (L.r.T K) K, fun q hq => ?_, fun q hq => ?_, fun q hq => ?_, hb, fun H a ns _ _ hH hS => ⟨a, ns, rfl, hS, fun t ht => ?_, fun _ => rfl⟩, fun base KX Gb TB => ?_⟩
  · have := b5 q hq
    simp only [Bool.and_eq_true] at this
    exact Y q.2 (List.contains_iff_mem.mp this.1.1)
  · have := b5 q hq
    simp only [Bool.and_eq_true] at this
    exact Option.isNone_iff_eq_none.mp this.1.2
  · have := b5 q hq
    simp only [Bool.and_eq_true] at this
    exact codeHd_of_K X0 this.2
  · unfold Rw.T at ht
    obtain ⟨fd, h1, h2⟩ := List.mem_filterMap.mp ht
    cases hq : tabOfC K fd.code with
    | none => rw [hq] at h2; cases h2
    | some q =>
      rw [hq] at h2
      cases h2
      exact LamX.TabS.nil (hH q (List.mem_filterMap.mpr ⟨fd, h1, hq⟩))
  · obtain ⟨g', fd', e1, _, e3, e4⟩ := law_ok (prog := l.prog) ok X0 G T TB b3 b4 (facts_look ok b1 X0 G T TB) gd
    have : g' = g := by
      have := e1.symm.trans hfa
      cases this; rfl
    subst this
    rw [← e3]
    exact e4
theorem cx_no {P : Program} (w : World) (H : Hp) (s : Shared) (e : Value) (s' : Shared) (h : L2.CX P w [] H s (fun _ _ _ => False) e s') : False := by
  obtain ⟨_, _, _, _, _, _, _, _, _, _, _, _, z⟩ := h
  exact z
end
end Bh
/-! text Bt -/
set_option linter.all false
/-! Bt: tables as lists. Plain Lean. -/
namespace Bh
structure Tab where
  ds : List Def
  gs : List D
  ms : List (Nat × Nat × Nat)
  is : List (Nat × Nat)
  td : List (Nat × List Nat)
  cls : List Nat
  nf : Nat
def Tab.pg (t : Tab) : Pg := ⟨⟨fun i => t.gs[i]?, fun c m => (t.ms.find? fun q => q.1 == c && q.2.1 == m).map (·.2.2), fun c => t.is.lookup c, fun c => (t.td.lookup c).map .str, fun f => match t.ds[f]? with
  | some d => d.fr
  | none => false, fun c f => t.cls.contains c && decide (f < t.nf)⟩, fun i => t.ds[i]?⟩
end Bh
/-! text Bh7f -/
set_option Elab.async false
set_option linter.all false
set_option maxRecDepth 100000
set_option maxHeartbeats 2000000
/-! Bh7f: a program from its tables and names. -/
namespace Bh
open PySem PySem.W L2 PyProof.Rows
structure Nms where
  gn : List Str
  dn : List Str
  pl : List (Option Nat)
  nm : List (List Str)
  tl : List Bool
  cn : List Str
  exs : List Nat
  mn : List Str
  fn : List Str
  told : Str
  ex : List Str
def rwOf (t : Tab) (n : Nms) : Rw := ⟨t.pg, t.ds, n.gn.zip t.gs, n.dn, n.pl, n.nm, n.tl, n.cn, t.cls, n.exs, n.mn, t.ms, t.is, n.fn, t.td, n.told, n.ex⟩
theorem zip_snd {α β : Type} : ∀ {l : List α} {m : List β}, l.length = m.length → ∀ i : Nat, Option.map (fun q : α × β => q.2) ((l.zip m)[i]?) = m[i]?
  | [], [], _, i => by simp
  | a :: l, b :: m, h, 0 => rfl
  | a :: l, b :: m, h, i + 1 => by
    simp only [List.zip_cons_cons, List.getElem?_cons_succ]
    exact zip_snd (by simpa using h) i
theorem look_mem {α : Type} {c : Nat} {v : α} : ∀ {l : List (Nat × α)}, l.lookup c = some v → (c, v) ∈ l
  | [], h => by cases h
  | (a, b) :: l, h => by
    rw [List.lookup_cons] at h
    by_cases e : (c == a) = true
    · rw [e] at h
      cases h
      rw [beq_iff_eq.mp e]
      exact List.mem_cons_self
    · rw [Bool.not_eq_true] at e
      rw [e] at h
      exact List.mem_cons_of_mem _ (look_mem h)
theorem rwOf_ok {t : Tab} {n : Nms} (h1 : n.gn.length = t.gs.length) (h2 : n.fn.length = t.nf) : RwOk (rwOf t n) where
  defs := fun f => rfl
  glob := fun i => (zip_snd h1 i).symm
  meth := fun c m f h => by
    have h' : (t.ms.find? fun q => q.1 == c && q.2.1 == m).map (·.2.2) = some f := h
    obtain ⟨q, a1, a2⟩ := Option.map_eq_some_iff.mp h'
    have a3 := List.find?_some a1
    have a4 := List.mem_of_find?_eq_some a1
    simp only [Bool.and_eq_true, beq_iff_eq] at a3
    rw [← a3.1, ← a3.2, ← a2]
    exact a4
  init := fun c f h => look_mem h
  fld := fun c f h => by
    have h' : (t.cls.contains c && decide (f < t.nf)) = true := h
    rw [Bool.and_eq_true, decide_eq_true_eq] at h'
    exact ⟨List.contains_iff_mem.mp h'.1, h2 ▸ h'.2⟩
  told := fun c d h => by
    have h' : (t.td.lookup c).map D.str = some d := h
    obtain ⟨s, a1, a2⟩ := Option.map_eq_some_iff.mp h'
    exact ⟨s, look_mem a1, a2.symm⟩
end Bh
/-! text Qk -/
set_option linter.all false
set_option maxRecDepth 100000
namespace Bh.K09
/-- Sowing.__init__ -/
def b0 : List S := [.ite (.or (.cmp .eq (.cons (.bf .len (.cons (.var 1) .nil)) (.cons (.con (.int 0)) .nil))) (.or (.cmp .ne (.cons (.bf .len (.cons (.var 1) .nil)) (.cons (.bf .len (.cons (.var 2) .nil)) .nil))) (.cmp .ne (.cons (.bf .len (.cons (.var 3) .nil)) (.cons (.con (.int 2)) .nil))))) [.raise 4] [], .ite (.cmp .lt (.cons (.bf .min (.cons (.op .add (.cons (.op .add (.cons (.bf .list (.cons (.var 1) .nil)) (.cons (.bf .list (.cons (.var 2) .nil)) .nil))) (.cons (.bf .list (.cons (.var 3) .nil)) .nil))) .nil)) (.cons (.con (.int 0)) .nil))) [.raise 4] [], .setFld 0 0 (.bf .tuple (.cons (.var 1) .nil)), .setFld 0 1 (.bf .tuple (.cons (.var 2) .nil)), .setFld 0 2 (.bf .tuple (.cons (.var 3) .nil)), .setFld 0 3 (.var 4)]
def n0 : List String := ["self", "mine", "others", "stores", "first"]
def d0 : Def := ⟨5, 5, [0], [0], false, b0⟩
/-- Sowing.moves -/
def b1 : List S := [.ret (.bf .tuple (.cons (.lc (.many [1, 2]) (.enum (.fld (.cons (.var 0) .nil) 0)) (some (.cmp .gt (.cons (.var 2) (.cons (.con (.int 0)) .nil)))) (.var 1)) .nil))]
def n1 : List String := ["self", "k", "many"]
def d1 : Def := ⟨1, 3, [], [], false, b1⟩
/-- Sowing.sow -/
def b2 : List S := [.ite (.cmp .notin (.cons (.var 1) (.cons (.meth 0 (.var 0) (.nil)) .nil))) [.raise 2] [], .set 2 (.bf .len (.cons (.fld (.cons (.var 0) .nil) 0) .nil)), .thaw 3 (.op .add (.cons (.op .add (.cons (.bf .list (.cons (.fld (.cons (.var 0) .nil) 0) .nil)) (.cons (.lst (.cons (.idx (.cons (.fld (.cons (.var 0) .nil) 2) (.cons (.con (.int 0)) .nil))) .nil)) .nil))) (.cons (.bf .list (.cons (.fld (.cons (.var 0) .nil) 1) .nil)) .nil))), .par2 7 false (.idx (.cons (.own 3) (.cons (.var 1) .nil))) 8 false (.var 1), .setIx 3 (.var 1) (.con (.int 0)), .fors (.one 4) (.rng1 (.var 7)) [.set 8 (.op .mod (.cons (.op .add (.cons (.var 8) (.cons (.con (.int 1)) .nil))) (.cons (.bf .len (.cons (.own 3) .nil)) .nil))), .augIx 3 .add (.var 8) (.con (.int 1))], .ite (.and (.cmp .lt (.cons (.var 8) (.cons (.var 2) .nil))) (.and (.cmp .eq (.cons (.idx (.cons (.own 3) (.cons (.var 8) .nil))) (.cons (.con (.int 1)) .nil))) (.cmp .gt (.cons (.idx (.cons (.own 3) (.cons (.op .sub (.cons (.op .mul (.cons (.con (.int 2)) (.cons (.var 2) .nil))) (.cons (.var 8) .nil))) .nil))) (.cons (.con (.int 0)) .nil))))) [.augIx 3 .add (.var 2) (.op .add (.cons (.idx (.cons (.own 3) (.cons (.op .sub (.cons (.op .mul (.cons (.con (.int 2)) (.cons (.var 2) .nil))) (.cons (.var 8) .nil))) .nil))) (.cons (.con (.int 1)) .nil))), .setIx 3 (.op .sub (.cons (.op .mul (.cons (.con (.int 2)) (.cons (.var 2) .nil))) (.cons (.var 8) .nil))) (.con (.int 0)), .setIx 3 (.var 8) (.con (.int 0))] [], .set 5 (.cmp .eq (.cons (.var 8) (.cons (.var 2) .nil))), .par2 9 false (.slice (.own 3) none (some (.var 2))) 10 false (.slice (.own 3) (some (.op .add (.cons (.var 2) (.cons (.con (.int 1)) .nil)))) none), .set 6 (.tup (.cons (.idx (.cons (.own 3) (.cons (.var 2) .nil))) (.cons (.idx (.cons (.fld (.cons (.var 0) .nil) 2) (.cons (.con (.int 1)) .nil))) .nil))), .ite (.var 5) [.ret (.tup (.cons (.make 8 (.cons (.var 9) (.cons (.var 10) (.cons (.var 6) (.cons (.fld (.cons (.var 0) .nil) 3) .nil))))) (.cons (.con (.bl true)) .nil)))] [], .ret (.tup (.cons (.make 8 (.cons (.var 10) (.cons (.var 9) (.cons (.tup (.cons (.idx (.cons (.var 6) (.cons (.con (.int 1)) .nil))) (.cons (.idx (.cons (.var 6) (.cons (.con (.int 0)) .nil))) .nil))) (.cons (.no (.fld (.cons (.var 0) .nil) 3)) .nil))))) (.cons (.con (.bl false)) .nil)))]
def n2 : List String := ["self", "hole", "size", "ring", "k", "again", "stores", "many", "place", "mine", "others"]
def d2 : Def := ⟨2, 11, [3], [], false, b2⟩
/-- Sowing.is_over -/
def b3 : List S := [.ret (.cmp .eq (.cons (.bf .sum (.cons (.fld (.cons (.var 0) .nil) 0) .nil)) (.cons (.con (.int 0)) .nil)))]
def n3 : List String := ["self"]
def d3 : Def := ⟨1, 1, [], [], false, b3⟩
/-- Sowing.totals -/
def b4 : List S := [.par2 1 false (.op .add (.cons (.idx (.cons (.fld (.cons (.var 0) .nil) 2) (.cons (.con (.int 0)) .nil))) (.cons (.bf .sum (.cons (.fld (.cons (.var 0) .nil) 0) .nil)) .nil))) 2 false (.op .add (.cons (.idx (.cons (.fld (.cons (.var 0) .nil) 2) (.cons (.con (.int 1)) .nil))) (.cons (.bf .sum (.cons (.fld (.cons (.var 0) .nil) 1) .nil)) .nil))), .ret (.ite (.fld (.cons (.var 0) .nil) 3) (.tup (.cons (.var 1) (.cons (.var 2) .nil))) (.tup (.cons (.var 2) (.cons (.var 1) .nil))))]
def n4 : List String := ["self", "mine", "others"]
def d4 : Def := ⟨1, 3, [], [], false, b4⟩
/-- Sowing.seeds -/
def b5 : List S := [.ret (.op .add (.cons (.op .add (.cons (.bf .sum (.cons (.fld (.cons (.var 0) .nil) 0) .nil)) (.cons (.bf .sum (.cons (.fld (.cons (.var 0) .nil) 1) .nil)) .nil))) (.cons (.bf .sum (.cons (.fld (.cons (.var 0) .nil) 2) .nil)) .nil)))]
def n5 : List String := ["self"]
def d5 : Def := ⟨1, 1, [], [], false, b5⟩
/-- Sowing.look -/
def b6 : List S := [.ite (.meth 2 (.var 0) (.nil)) [.ret (.op .sub (.cons (.op .sub (.cons (.idx (.cons (.fld (.cons (.var 0) .nil) 2) (.cons (.con (.int 0)) .nil))) (.cons (.idx (.cons (.fld (.cons (.var 0) .nil) 2) (.cons (.con (.int 1)) .nil))) .nil))) (.cons (.bf .sum (.cons (.fld (.cons (.var 0) .nil) 1) .nil)) .nil)))] [], .ite (.cmp .eq (.cons (.var 1) (.cons (.con (.int 0)) .nil))) [.ret (.op .sub (.cons (.idx (.cons (.fld (.cons (.var 0) .nil) 2) (.cons (.con (.int 0)) .nil))) (.cons (.idx (.cons (.fld (.cons (.var 0) .nil) 2) (.cons (.con (.int 1)) .nil))) .nil)))] [], .set 2 (.con .non), .fors (.one 3) (.seq (.meth 0 (.var 0) (.nil))) [.bind [5, 6] (.meth 1 (.var 0) (.cons (.var 3) .nil)), .set 4 (.meth 5 (.var 5) (.cons (.op .sub (.cons (.var 1) (.cons (.con (.int 1)) .nil))) .nil)), .set 4 (.ite (.var 6) (.var 4) (.op .sub (.cons (.con (.int 0)) (.cons (.var 4) .nil)))), .set 2 (.ite (.or (.cmp .is (.cons (.var 2) (.cons (.con .non) .nil))) (.cmp .gt (.cons (.var 4) (.cons (.var 2) .nil)))) (.var 4) (.var 2))], .ret (.var 2)]
def n6 : List String := ["self", "depth", "best", "hole", "value", "after", "again"]
def d6 : Def := ⟨2, 7, [], [], false, b6⟩
/-- Sowing.best -/
def b7 : List S := [.ite (.meth 2 (.var 0) (.nil)) [.raise 2] [], .ite (.cmp .lt (.cons (.var 1) (.cons (.con (.int 1)) .nil))) [.raise 3] [], .thaw 2 (.lst (.nil)), .fors (.one 3) (.seq (.meth 0 (.var 0) (.nil))) [.bind [5, 6] (.meth 1 (.var 0) (.cons (.var 3) .nil)), .set 4 (.meth 5 (.var 5) (.cons (.op .sub (.cons (.var 1) (.cons (.con (.int 1)) .nil))) .nil)), .expr (.mm .append 2 (.cons (.ite (.var 6) (.var 4) (.op .sub (.cons (.con (.int 0)) (.cons (.var 4) .nil)))) .nil))], .ret (.idx (.cons (.meth 0 (.var 0) (.nil)) (.cons (.lm .index (.own 2) (.cons (.bf .max (.cons (.own 2) .nil)) .nil)) .nil)))]
def n7 : List String := ["self", "depth", "values", "hole", "value", "after", "again"]
def d7 : Def := ⟨2, 7, [2], [], false, b7⟩
/-- Sowing.to_store -/
def b8 : List S := [.ret (.bf .tuple (.cons (.lc (.one 1) (.seq (.meth 0 (.var 0) (.nil))) (some (.idx (.cons (.meth 1 (.var 0) (.cons (.var 1) .nil)) (.cons (.con (.int 1)) .nil)))) (.var 1)) .nil))]
def n8 : List String := ["self", "hole"]
def d8 : Def := ⟨1, 2, [], [], false, b8⟩
/-- Sowing.most_now -/
def b9 : List S := [.set 1 (.tup (.cons (.con (.int 0)) (.cons (.tup (.nil)) .nil))), .thaw 2 (.lst (.cons (.tup (.cons (.var 0) (.cons (.tup (.nil)) .nil))) .nil)), .whil 1000000000 (.cmp .ne (.cons (.own 2) (.cons (.lst (.nil)) .nil))) [.bind [4, 5] (.mm .pop 2 .nil), .fors (.one 3) (.seq (.meth 0 (.var 4) (.nil))) [.bind [8, 9] (.meth 1 (.var 4) (.cons (.var 3) .nil)), .set 6 (.op .sub (.cons (.ite (.var 9) (.idx (.cons (.fld (.cons (.var 8) .nil) 2) (.cons (.con (.int 0)) .nil))) (.idx (.cons (.fld (.cons (.var 8) .nil) 2) (.cons (.con (.int 1)) .nil)))) (.cons (.idx (.cons (.fld (.cons (.var 0) .nil) 2) (.cons (.con (.int 0)) .nil))) .nil))), .set 7 (.op .add (.cons (.var 5) (.cons (.tup (.cons (.var 3) .nil)) .nil))), .ite (.or (.cmp .gt (.cons (.var 6) (.cons (.idx (.cons (.var 1) (.cons (.con (.int 0)) .nil))) .nil))) (.and (.cmp .eq (.cons (.var 6) (.cons (.idx (.cons (.var 1) (.cons (.con (.int 0)) .nil))) .nil))) (.cmp .lt (.cons (.var 7) (.cons (.idx (.cons (.var 1) (.cons (.con (.int 1)) .nil))) .nil))))) [.set 1 (.tup (.cons (.var 6) (.cons (.var 7) .nil)))] [], .ite (.and (.var 9) (.cmp .lt (.cons (.bf .len (.cons (.var 7) .nil)) (.cons (.con (.int 12)) .nil)))) [.expr (.mm .append 2 (.cons (.tup (.cons (.var 8) (.cons (.var 7) .nil))) .nil))] []]], .ret (.var 1)]
def n9 : List String := ["self", "best", "work", "hole", "here", "holes", "gained", "way", "after", "again"]
def d9 : Def := ⟨1, 10, [2], [], false, b9⟩
/-- Sowing.key -/
def b10 : List S := [.ret (.tup (.cons (.fld (.cons (.var 0) .nil) 0) (.cons (.fld (.cons (.var 0) .nil) 1) (.cons (.fld (.cons (.var 0) .nil) 2) (.cons (.fld (.cons (.var 0) .nil) 3) .nil)))))]
def n10 : List String := ["self"]
def d10 : Def := ⟨1, 1, [], [], false, b10⟩
/-- new_sowing -/
def b11 : List S := [.ite (.or (.cmp .lt (.cons (.var 0) (.cons (.con (.int 1)) .nil))) (.cmp .lt (.cons (.var 1) (.cons (.con (.int 0)) .nil)))) [.raise 3] [], .ret (.make 8 (.cons (.op .mul (.cons (.lst (.cons (.var 1) .nil)) (.cons (.var 0) .nil))) (.cons (.op .mul (.cons (.lst (.cons (.var 1) .nil)) (.cons (.var 0) .nil))) (.cons (.tup (.cons (.con (.int 0)) (.cons (.con (.int 0)) .nil))) (.cons (.con (.bl true)) .nil)))))]
def n11 : List String := ["holes", "seeds"]
def d11 : Def := ⟨2, 2, [], [], false, b11⟩
/-- sown -/
def b12 : List S := [.fors (.one 2) (.seq (.var 1)) [.set 0 (.idx (.cons (.meth 1 (.var 0) (.cons (.var 2) .nil)) (.cons (.con (.int 0)) .nil)))], .ret (.var 0)]
def n12 : List String := ["board", "holes", "hole"]
def d12 : Def := ⟨2, 3, [], [], false, b12⟩
/-- played_out -/
def b13 : List S := [.thaw 3 (.lst (.nil)), .whil 1000000000 (.and (.no (.meth 2 (.var 0) (.nil))) (.cmp .lt (.cons (.bf .len (.cons (.own 3) .nil)) (.cons (.var 2) .nil)))) [.expr (.mm .append 3 (.cons (.meth 6 (.var 0) (.cons (.var 1) .nil)) .nil)), .set 0 (.idx (.cons (.meth 1 (.var 0) (.cons (.idx (.cons (.own 3) (.cons (.neg (.con (.int 1))) .nil))) .nil)) (.cons (.con (.int 0)) .nil)))], .ret (.tup (.cons (.var 0) (.cons (.bf .tuple (.cons (.own 3) .nil)) .nil)))]
def n13 : List String := ["board", "depth", "most", "holes"]
def d13 : Def := ⟨3, 4, [3], [], false, b13⟩
/-- marching -/
def b14 : List S := [.thaw 2 (.lc (.one 6) (.seq (.var 0)) (some (.cmp .gt (.cons (.var 6) (.cons (.con (.int 0)) .nil)))) (.var 6)), .thaw 3 (.lst (.cons (.bf .tuple (.cons (.own 2) .nil)) .nil)), .fors (.one 4) (.rng1 (.var 1)) [.ite (.cmp .eq (.cons (.own 2) (.cons (.lst (.nil)) .nil))) [.brk] [], .par2 6 false (.idx (.cons (.own 2) (.cons (.con (.int 0)) .nil))) 2 true (.slice (.own 2) (some (.con (.int 1))) none), .fors (.one 5) (.rng1 (.var 6)) [.ite (.cmp .lt (.cons (.var 5) (.cons (.bf .len (.cons (.own 2) .nil)) .nil))) [.augIx 2 .add (.var 5) (.con (.int 1))] [.expr (.mm .append 2 (.cons (.con (.int 1)) .nil))]], .expr (.mm .append 3 (.cons (.bf .tuple (.cons (.own 2) .nil)) .nil))], .ret (.bf .tuple (.cons (.own 3) .nil))]
def n14 : List String := ["seeds", "turns", "here", "found", "k", "place", "many"]
def d14 : Def := ⟨2, 7, [3, 2], [], false, b14⟩
/-- until_same -/
def b15 : List S := [.set 2 (.call 14 (.cons (.var 0) (.cons (.var 1) .nil))), .fors (.many [3, 4]) (.enum (.var 2)) [.ite (.cmp .isin (.cons (.var 4) (.cons (.slice (.var 2) none (some (.var 3))) .nil))) [.set 5 (.lm .indexT (.var 2) (.cons (.var 4) .nil)), .ret (.tup (.cons (.var 5) (.cons (.op .sub (.cons (.var 3) (.cons (.var 5) .nil))) .nil)))] []], .raise 3]
def n15 : List String := ["seeds", "most", "rows", "k", "row", "first"]
def d15 : Def := ⟨2, 6, [], [], false, b15⟩
/-- _law_dice -/
def b16 : List S := [.ite (.chain .lt .lt (.cons (.op .sub (.cons (.con (.int 0)) (.cons (.con (.int 10)) .nil))) (.cons (.var 0) .nil)) (.con (.int 10))) [.ret (.lst (.cons (.bf .abs (.cons (.var 0) .nil)) (.cons (.con (.int 0)) (.cons (.con (.int 2)) .nil))))] [], .ret (.lst (.cons (.var 0) (.cons (.op .add (.cons (.con (.int 1)) (.cons (.op .mod (.cons (.bf .int (.cons (.var 0) .nil)) (.cons (.con (.int 1009)) .nil))) .nil))) (.cons (.bf .int (.cons (.cmp .ge (.cons (.var 0) (.cons (.op .pow (.cons (.con (.int 10)) (.cons (.con (.int 18)) .nil))) .nil))) .nil)) .nil))))]
def n16 : List String := ["cell"]
def d16 : Def := ⟨1, 1, [], [], false, b16⟩
/-- _law_roll -/
def b17 : List S := [.ite (.or (.cmp .eq (.cons (.idx (.cons (.own 0) (.cons (.con (.int 2)) .nil))) (.cons (.con (.int 2)) .nil))) (.and (.cmp .eq (.cons (.idx (.cons (.own 0) (.cons (.con (.int 2)) .nil))) (.cons (.con (.int 1)) .nil))) (.cmp .gt (.cons (.idx (.cons (.own 0) (.cons (.con (.int 0)) .nil))) (.cons (.con (.int 0)) .nil))))) [.set 2 (.op .mod (.cons (.bf .int (.cons (.idx (.cons (.own 0) (.cons (.con (.int 0)) .nil))) .nil)) (.cons (.var 1) .nil))), .setIx 0 (.con (.int 0)) (.op .fdiv (.cons (.idx (.cons (.own 0) (.cons (.con (.int 0)) .nil))) (.cons (.var 1) .nil))), .ret (.var 2)] [], .setIx 0 (.con (.int 2)) (.con (.int 0)), .setIx 0 (.con (.int 0)) (.op .mod (.cons (.bf .int (.cons (.op .add (.cons (.op .add (.cons (.op .mul (.cons (.idx (.cons (.own 0) (.cons (.con (.int 0)) .nil))) (.cons (.con (.int 48271)) .nil))) (.cons (.op .mul (.cons (.idx (.cons (.own 0) (.cons (.con (.int 1)) .nil))) (.cons (.con (.int 69621)) .nil))) .nil))) (.cons (.con (.int 11)) .nil))) .nil)) (.cons (.con (.int 2147483647)) .nil))), .setIx 0 (.con (.int 1)) (.op .add (.cons (.idx (.cons (.own 0) (.cons (.con (.int 1)) .nil))) (.cons (.con (.int 1)) .nil))), .ret (.op .mod (.cons (.bf .int (.cons (.op .add (.cons (.op .fdiv (.cons (.idx (.cons (.own 0) (.cons (.con (.int 0)) .nil))) (.cons (.con (.int 7)) .nil))) (.cons (.idx (.cons (.own 0) (.cons (.con (.int 0)) .nil))) .nil))) .nil)) (.cons (.var 1) .nil)))]
def n17 : List String := ["dice", "many", "found"]
def d17 : Def := ⟨2, 3, [0], [0], false, b17⟩
/-- _law_sow -/
def b18 : List S := [.bind [5, 6, 7, 8] (.var 0), .set 2 (.bf .len (.cons (.var 5) .nil)), .par2 9 true (.op .add (.cons (.op .add (.cons (.bf .list (.cons (.var 5) .nil)) (.cons (.lst (.cons (.var 7) .nil)) .nil))) (.cons (.bf .list (.cons (.var 6) .nil)) .nil))) 10 false (.idx (.cons (.var 5) (.cons (.var 1) .nil))), .setIx 9 (.var 1) (.con (.int 0)), .fors (.one 3) (.rng2 (.cons (.con (.int 1)) (.cons (.op .add (.cons (.var 10) (.cons (.con (.int 1)) .nil))) .nil))) [.setIx 9 (.op .mod (.cons (.op .add (.cons (.var 1) (.cons (.var 3) .nil))) (.cons (.bf .len (.cons (.own 9) .nil)) .nil))) (.op .add (.cons (.idx (.cons (.own 9) (.cons (.op .mod (.cons (.op .add (.cons (.var 1) (.cons (.var 3) .nil))) (.cons (.bf .len (.cons (.own 9) .nil)) .nil))) .nil))) (.cons (.con (.int 1)) .nil)))], .set 4 (.op .mod (.cons (.op .add (.cons (.var 1) (.cons (.var 10) .nil))) (.cons (.bf .len (.cons (.own 9) .nil)) .nil))), .ite (.and (.cmp .lt (.cons (.var 4) (.cons (.var 2) .nil))) (.and (.cmp .eq (.cons (.idx (.cons (.own 9) (.cons (.var 4) .nil))) (.cons (.con (.int 1)) .nil))) (.cmp .gt (.cons (.idx (.cons (.own 9) (.cons (.op .sub (.cons (.op .mul (.cons (.con (.int 2)) (.cons (.var 2) .nil))) (.cons (.var 4) .nil))) .nil))) (.cons (.con (.int 0)) .nil))))) [.bindX [.ix 9 (.var 2), .ix 9 (.var 4), .ix 9 (.op .sub (.cons (.op .mul (.cons (.con (.int 2)) (.cons (.var 2) .nil))) (.cons (.var 4) .nil)))] (.tup (.cons (.op .add (.cons (.op .add (.cons (.idx (.cons (.own 9) (.cons (.var 2) .nil))) (.cons (.con (.int 1)) .nil))) (.cons (.idx (.cons (.own 9) (.cons (.op .sub (.cons (.op .mul (.cons (.con (.int 2)) (.cons (.var 2) .nil))) (.cons (.var 4) .nil))) .nil))) .nil))) (.cons (.con (.int 0)) (.cons (.con (.int 0)) .nil))))] [], .ite (.cmp .eq (.cons (.var 4) (.cons (.var 2) .nil))) [.ret (.tup (.cons (.tup (.cons (.slice (.own 9) none (some (.var 2))) (.cons (.slice (.own 9) (some (.op .add (.cons (.var 2) (.cons (.con (.int 1)) .nil)))) none) (.cons (.idx (.cons (.own 9) (.cons (.var 2) .nil))) (.cons (.var 8) .nil))))) (.cons (.con (.bl true)) .nil)))] [], .ret (.tup (.cons (.tup (.cons (.slice (.own 9) (some (.op .add (.cons (.var 2) (.cons (.con (.int 1)) .nil)))) none) (.cons (.slice (.own 9) none (some (.var 2))) (.cons (.var 8) (.cons (.idx (.cons (.own 9) (.cons (.var 2) .nil))) .nil))))) (.cons (.con (.bl false)) .nil)))]
def n18 : List String := ["state", "hole", "size", "k", "last", "mine", "others", "stored", "theirs", "ring", "many"]
def d18 : Def := ⟨2, 11, [9], [], false, b18⟩
/-- _law_look -/
def b19 : List S := [.bind [2, 3, 4, 5] (.var 0), .ite (.cmp .eq (.cons (.bf .sum (.cons (.var 2) .nil)) (.cons (.con (.int 0)) .nil))) [.ret (.op .sub (.cons (.op .sub (.cons (.var 4) (.cons (.var 5) .nil))) (.cons (.bf .sum (.cons (.var 3) .nil)) .nil)))] [], .ite (.cmp .eq (.cons (.var 1) (.cons (.con (.int 0)) .nil))) [.ret (.op .sub (.cons (.var 4) (.cons (.var 5) .nil)))] [], .ret (.bf .max (.cons (.call 20 (.cons (.var 0) (.cons (.var 1) .nil))) .nil))]
def n19 : List String := ["state", "depth", "mine", "others", "stored", "theirs"]
def d19 : Def := ⟨2, 6, [], [], false, b19⟩
/-- _law_values -/
def b20 : List S := [.thaw 2 (.lst (.nil)), .fors (.one 3) (.seq (.lc (.one 4) (.rng1 (.bf .len (.cons (.idx (.cons (.var 0) (.cons (.con (.int 0)) .nil))) .nil))) (some (.cmp .gt (.cons (.idx (.cons (.idx (.cons (.var 0) (.cons (.con (.int 0)) .nil))) (.cons (.var 4) .nil))) (.cons (.con (.int 0)) .nil)))) (.var 4))) [.bind [5, 6] (.call 18 (.cons (.var 0) (.cons (.var 3) .nil))), .expr (.mm .append 2 (.cons (.op .mul (.cons (.call 19 (.cons (.var 5) (.cons (.op .sub (.cons (.var 1) (.cons (.con (.int 1)) .nil))) .nil))) (.cons (.ite (.var 6) (.con (.int 1)) (.op .sub (.cons (.con (.int 0)) (.cons (.con (.int 1)) .nil)))) .nil))) .nil))], .retO 2]
def n20 : List String := ["state", "depth", "found", "hole", "k", "after", "again"]
def d20 : Def := ⟨2, 7, [2], [], false, b20⟩
/-- _law_cases1 -/
def b21 : List S := [.ite (.cmp .ne (.cons (.told (.make 8 (.cons (.lst (.nil)) (.cons (.lst (.nil)) (.cons (.tup (.cons (.con (.int 0)) (.cons (.con (.int 0)) .nil))) (.cons (.con (.bl true)) .nil)))))) (.cons (.con (.str [114, 111, 119])) .nil))) [.ret (.con (.bl false))] [], .ite (.cmp .ne (.cons (.told (.make 8 (.cons (.lst (.cons (.op .sub (.cons (.con (.int 0)) (.cons (.con (.int 1)) .nil))) .nil)) (.cons (.lst (.cons (.con (.int 1)) .nil)) (.cons (.tup (.cons (.con (.int 0)) (.cons (.con (.int 0)) .nil))) (.cons (.con (.bl true)) .nil)))))) (.cons (.con (.str [114, 111, 119])) .nil))) [.ret (.con (.bl false))] [], .ite (.cmp .ne (.cons (.told (.call 11 (.cons (.con (.int 0)) (.cons (.con (.int 1)) .nil)))) (.cons (.con (.str [99, 111, 117, 110, 116])) .nil))) [.ret (.con (.bl false))] [], .ret (.con (.bl true))]
def n21 : List String := []
def d21 : Def := ⟨0, 0, [], [], false, b21⟩
/-- _law_rest1 -/
def b22 : List S := [.par2 9 false (.lst (.cons (.tup (.cons (.var 3) (.cons (.tup (.nil)) .nil))) .nil)) 10 true (.lst (.cons (.tup (.cons (.con (.int 0)) (.cons (.tup (.nil)) .nil))) .nil)), .fors (.one 5) (.rng1 (.con (.int 13))) [.set 11 (.lst (.nil)), .fors (.many [18, 19]) (.seq (.var 9)) [.fors (.one 20) (.seq (.lc (.one 7) (.rng1 (.var 1)) (some (.cmp .gt (.cons (.idx (.cons (.idx (.cons (.var 18) (.cons (.con (.int 0)) .nil))) (.cons (.var 7) .nil))) (.cons (.con (.int 0)) .nil)))) (.var 7))) [.bind [23, 24] (.call 18 (.cons (.var 18) (.cons (.var 20) .nil))), .expr (.mm .append 10 (.cons (.tup (.cons (.op .sub (.cons (.con (.int 0)) (.cons (.op .sub (.cons (.ite (.var 24) (.idx (.cons (.var 23) (.cons (.con (.int 2)) .nil))) (.idx (.cons (.var 23) (.cons (.con (.int 3)) .nil)))) (.cons (.idx (.cons (.var 3) (.cons (.con (.int 2)) .nil))) .nil))) .nil))) (.cons (.op .add (.cons (.var 19) (.cons (.tup (.cons (.var 20) .nil)) .nil))) .nil))) .nil)), .set 11 (.op .add (.cons (.var 11) (.cons (.ite (.and (.var 24) (.cmp .lt (.cons (.bf .len (.cons (.var 19) .nil)) (.cons (.con (.int 11)) .nil)))) (.lst (.cons (.tup (.cons (.var 23) (.cons (.op .add (.cons (.var 19) (.cons (.tup (.cons (.var 20) .nil)) .nil))) .nil))) .nil)) (.lst (.nil))) .nil)))]], .set 9 (.var 11)], .ite (.cmp .ne (.cons (.meth 8 (.var 2) (.nil)) (.cons (.tup (.cons (.op .sub (.cons (.con (.int 0)) (.cons (.idx (.cons (.bf .min (.cons (.own 10) .nil)) (.cons (.con (.int 0)) .nil))) .nil))) (.cons (.idx (.cons (.bf .min (.cons (.own 10) .nil)) (.cons (.con (.int 1)) .nil))) .nil))) .nil))) [.ret (.con (.bl false))] [], .bind [12, 13] (.call 13 (.cons (.var 2) (.cons (.con (.int 1)) (.cons (.con (.int 60)) .nil)))), .ite (.or (.cmp .ne (.cons (.meth 4 (.var 12) (.nil)) (.cons (.meth 4 (.var 2) (.nil)) .nil))) (.or (.and (.cmp .lt (.cons (.bf .len (.cons (.var 13) .nil)) (.cons (.con (.int 60)) .nil))) (.no (.meth 2 (.var 12) (.nil)))) (.cmp .ne (.cons (.meth 9 (.call 12 (.cons (.var 2) (.cons (.var 13) .nil))) (.nil)) (.cons (.meth 9 (.var 12) (.nil)) .nil))))) [.ret (.con (.bl false))] [], .par2 14 false (.lc (.one 7) (.rng1 (.op .add (.cons (.con (.int 1)) (.cons (.call 17 (.cons (.io 0) (.cons (.con (.int 4)) .nil))) .nil)))) none (.op .add (.cons (.con (.int 1)) (.cons (.call 17 (.cons (.io 0) (.cons (.con (.int 4)) .nil))) .nil)))) 15 false (.call 17 (.cons (.io 0) (.cons (.con (.int 7)) .nil))), .thaw 6 (.lst (.cons (.var 14) .nil)), .fors (.one 7) (.rng1 (.var 15)) [.bind [17, 21] (.tup (.cons (.idx (.cons (.idx (.cons (.own 6) (.cons (.var 7) .nil))) (.cons (.con (.int 0)) .nil))) (.cons (.slice (.idx (.cons (.own 6) (.cons (.var 7) .nil))) (some (.con (.int 1))) none) .nil))), .expr (.mm .append 6 (.cons (.op .add (.cons (.lc (.one 25) (.rng1 (.bf .len (.cons (.var 21) .nil))) none (.op .add (.cons (.idx (.cons (.var 21) (.cons (.var 25) .nil))) (.cons (.bf .int (.cons (.cmp .lt (.cons (.var 25) (.cons (.var 17) .nil))) .nil)) .nil)))) (.cons (.op .mul (.cons (.lst (.cons (.con (.int 1)) .nil)) (.cons (.bf .max (.cons (.con (.int 0)) (.cons (.op .sub (.cons (.var 17) (.cons (.bf .len (.cons (.var 21) .nil)) .nil))) .nil))) .nil))) .nil))) .nil))], .ite (.cmp .ne (.cons (.lc (.one 22) (.seq (.call 14 (.cons (.var 14) (.cons (.var 15) .nil)))) none (.bf .list (.cons (.var 22) .nil))) (.cons (.own 6) .nil))) [.ret (.con (.bl false))] [], .bind [16, 17] (.call 15 (.cons (.var 14) (.cons (.con (.int 300)) .nil))), .set 8 (.call 14 (.cons (.var 14) (.cons (.op .add (.cons (.var 16) (.cons (.var 17) .nil))) .nil))), .ite (.or (.cmp .ne (.cons (.idx (.cons (.var 8) (.cons (.var 16) .nil))) (.cons (.idx (.cons (.var 8) (.cons (.op .add (.cons (.var 16) (.cons (.var 17) .nil))) .nil))) .nil))) (.cmp .ne (.cons (.bf .len (.cons (.bf .dict (.cons (.lc (.one 22) (.seq (.slice (.var 8) none (some (.op .add (.cons (.var 16) (.cons (.var 17) .nil)))))) none (.tup (.cons (.var 22) (.cons (.con (.int 1)) .nil)))) .nil)) .nil)) (.cons (.op .add (.cons (.var 16) (.cons (.var 17) .nil))) .nil)))) [.ret (.con (.bl false))] [], .ite (.no (.call 21 (.nil))) [.ret (.con (.bl false))] [], .ite (.cmp .ne (.cons (.told (.meth 1 (.var 2) (.cons (.con (.int 9)) .nil))) (.cons (.con (.str [109, 111, 118, 101])) .nil))) [.ret (.con (.bl false))] [], .ite (.cmp .ne (.cons (.told (.call 15 (.cons (.lst (.cons (.con (.int 1)) (.cons (.con (.int 2)) (.cons (.con (.int 3)) .nil)))) (.cons (.con (.int 0)) .nil)))) (.cons (.con (.str [99, 111, 117, 110, 116])) .nil))) [.ret (.con (.bl false))] [], .ite (.and (.cmp .ne (.cons (.var 4) (.cons (.lst (.nil)) .nil))) (.cmp .ne (.cons (.told (.meth 6 (.var 2) (.cons (.con (.int 0)) .nil))) (.cons (.con (.str [99, 111, 117, 110, 116])) .nil)))) [.ret (.con (.bl false))] [], .ret (.con (.bl true))]
def n22 : List String := ["dice", "holes", "board", "state", "moves", "turn", "rows", "k", "round_rows", "work", "ways", "fresh", "over", "turns", "heaps", "many", "start", "size", "here", "way", "hole", "rest", "row", "after", "again", "j"]
def d22 : Def := ⟨5, 26, [0, 6, 10], [0], false, b22⟩
def rdB : List S := [.ite (.cmp .eq (.cons (.var 2) (.cons (.lst (.nil)) .nil))) [.set 2 (.lst (.cons (.con (.int 0)) .nil))] [], .ret (.lc (.one 3) (.seq (.var 2)) none (.call 16 (.cons (.var 3) .nil)))]
def lwB : List S := [.par2 5 false (.op .add (.cons (.con (.int 1)) (.cons (.call 17 (.cons (.io 1) (.cons (.con (.int 4)) .nil))) .nil))) 6 false (.call 17 (.cons (.io 1) (.cons (.con (.int 4)) .nil))), .bind [7, 8, 9, 10] (.tup (.cons (.call 11 (.cons (.var 5) (.cons (.var 6) .nil))) (.cons (.tup (.cons (.op .mul (.cons (.lst (.cons (.var 6) .nil)) (.cons (.var 5) .nil))) (.cons (.op .mul (.cons (.lst (.cons (.var 6) .nil)) (.cons (.var 5) .nil))) (.cons (.con (.int 0)) (.cons (.con (.int 0)) .nil))))) (.cons (.con (.bl true)) (.cons (.lst (.nil)) .nil))))), .fors (.one 2) (.rng1 (.call 17 (.cons (.io 1) (.cons (.con (.int 9)) .nil)))) [.set 11 (.lc (.one 14) (.rng1 (.var 5)) (some (.cmp .gt (.cons (.idx (.cons (.idx (.cons (.var 8) (.cons (.con (.int 0)) .nil))) (.cons (.var 14) .nil))) (.cons (.con (.int 0)) .nil)))) (.var 14)), .ite (.or (.cmp .ne (.cons (.bf .list (.cons (.meth 0 (.var 7) (.nil)) .nil)) (.cons (.var 11) .nil))) (.cmp .ne (.cons (.meth 2 (.var 7) (.nil)) (.cons (.cmp .eq (.cons (.var 11) (.cons (.lst (.nil)) .nil))) .nil)))) [.ret (.con (.bl false))] [], .ite (.cmp .ne (.cons (.var 11) (.cons (.lst (.nil)) .nil))) [.set 13 (.idx (.cons (.var 11) (.cons (.call 17 (.cons (.io 1) (.cons (.bf .len (.cons (.var 11) .nil)) .nil))) .nil))), .bind [8, 15] (.call 18 (.cons (.var 8) (.cons (.var 13) .nil))), .bind [7, 16] (.meth 1 (.var 7) (.cons (.var 13) .nil)), .par2 9 false (.ite (.var 15) (.var 9) (.no (.var 9))) 10 false (.op .add (.cons (.var 10) (.cons (.lst (.cons (.var 13) .nil)) .nil))), .ite (.cmp .ne (.cons (.var 16) (.cons (.var 15) .nil))) [.ret (.con (.bl false))] []] [], .ite (.or (.cmp .ne (.cons (.meth 9 (.var 7) (.nil)) (.cons (.tup (.cons (.bf .tuple (.cons (.idx (.cons (.var 8) (.cons (.con (.int 0)) .nil))) .nil)) (.cons (.bf .tuple (.cons (.idx (.cons (.var 8) (.cons (.con (.int 1)) .nil))) .nil)) (.cons (.tup (.cons (.idx (.cons (.var 8) (.cons (.con (.int 2)) .nil))) (.cons (.idx (.cons (.var 8) (.cons (.con (.int 3)) .nil))) .nil))) (.cons (.var 9) .nil))))) .nil))) (.cmp .ne (.cons (.meth 4 (.var 7) (.nil)) (.cons (.op .mul (.cons (.op .mul (.cons (.con (.int 2)) (.cons (.var 5) .nil))) (.cons (.var 6) .nil))) .nil)))) [.ret (.con (.bl false))] []], .ite (.cmp .ne (.cons (.meth 9 (.call 12 (.cons (.call 11 (.cons (.var 5) (.cons (.var 6) .nil))) (.cons (.var 10) .nil))) (.nil)) (.cons (.meth 9 (.var 7) (.nil)) .nil))) [.ret (.con (.bl false))] [], .set 3 (.tup (.cons (.op .add (.cons (.idx (.cons (.var 8) (.cons (.con (.int 2)) .nil))) (.cons (.bf .sum (.cons (.idx (.cons (.var 8) (.cons (.con (.int 0)) .nil))) .nil)) .nil))) (.cons (.op .add (.cons (.idx (.cons (.var 8) (.cons (.con (.int 3)) .nil))) (.cons (.bf .sum (.cons (.idx (.cons (.var 8) (.cons (.con (.int 1)) .nil))) .nil)) .nil))) .nil))), .ite (.cmp .ne (.cons (.meth 3 (.var 7) (.nil)) (.cons (.ite (.var 9) (.var 3) (.tup (.cons (.idx (.cons (.var 3) (.cons (.con (.int 1)) .nil))) (.cons (.idx (.cons (.var 3) (.cons (.con (.int 0)) .nil))) .nil)))) .nil))) [.ret (.con (.bl false))] [], .set 4 (.call 17 (.cons (.io 1) (.cons (.con (.int 4)) .nil))), .ite (.cmp .ne (.cons (.meth 5 (.var 7) (.cons (.var 4) .nil)) (.cons (.call 19 (.cons (.var 8) (.cons (.var 4) .nil))) .nil))) [.ret (.con (.bl false))] [], .par2 11 false (.lc (.one 14) (.rng1 (.var 5)) (some (.cmp .gt (.cons (.idx (.cons (.idx (.cons (.var 8) (.cons (.con (.int 0)) .nil))) (.cons (.var 14) .nil))) (.cons (.con (.int 0)) .nil)))) (.var 14)) 12 false (.call 20 (.cons (.var 8) (.cons (.con (.int 2)) .nil))), .ite (.cmp .ne (.cons (.told (.meth 6 (.var 7) (.cons (.con (.int 2)) .nil))) (.cons (.ite (.cmp .ne (.cons (.var 11) (.cons (.lst (.nil)) .nil))) (.idx (.cons (.var 11) (.cons (.lm .index (.var 12) (.cons (.bf .max (.cons (.var 12) .nil)) .nil)) .nil))) (.con (.str [109, 111, 118, 101]))) .nil))) [.ret (.con (.bl false))] [], .ite (.cmp .ne (.cons (.bf .list (.cons (.meth 7 (.var 7) (.nil)) .nil)) (.cons (.lc (.one 14) (.seq (.var 11)) (some (.idx (.cons (.call 18 (.cons (.var 8) (.cons (.var 14) .nil))) (.cons (.con (.int 1)) .nil)))) (.var 14)) .nil))) [.ret (.con (.bl false))] [], .ite (.no (.call 22 (.cons (.io 1) (.cons (.var 5) (.cons (.var 7) (.cons (.var 8) (.cons (.var 11) .nil))))))) [.ret (.con (.bl false))] []]
def tab : Tab where
  ds := [d0, d1, d2, d3, d4, d5, d6, d7, d8, d9, d10, d11, d12, d13, d14, d15, d16, d17, d18, d19, d20, d21, d22]
  gs := []
  ms := [(8, 0, 1), (8, 1, 2), (8, 2, 3), (8, 3, 4), (8, 4, 5), (8, 5, 6), (8, 6, 7), (8, 7, 8), (8, 8, 9), (8, 9, 10)]
  is := [(8, 0)]
  td := [(1, [115, 112, 111, 116]), (2, [109, 111, 118, 101]), (3, [99, 111, 117, 110, 116]), (4, [114, 111, 119]), (5, [110, 111, 32, 119, 97, 121]), (6, [108, 97, 114, 103, 101]), (7, [116, 101, 120, 116])]
  cls := [8]
  nf := 4
def pg : Pg := tab.pg

end Bh.K09
/-! text Sy -/
set_option linter.all false
set_option maxRecDepth 100000
/-! Sy: symbolic runs of the evaluator. Plain Lean. -/
namespace Bh
theorem lev_call {pg : Pg} {n f : Nat} {ds : List D} {df : Def} (h : pg.defs f = some df) (hl : ds.length = df.np) : (lev pg (n+1)).c 0 f ds = endD df (evSs pg.tb (lev pg n) df.body (startE df ds)) := by
  show call1 pg (lev pg n) f ds = _
  unfold call1
  rw [h]
  simp only []
  rw [if_pos hl]
theorem Env.set_set (env : Env) (i : Nat) (a b : Option D) : (List.set env i a).set i b = List.set env i b := List.set_set ..
theorem Env.set_get (env : Env) (i : Nat) : List.set env i (env.get i) = env := by
  apply List.ext_getElem?
  intro j
  rw [List.getElem?_set]
  split
  · rename_i h; subst h
    split
    · rename_i h; simp [Env.get, h]
    · rename_i h; simp at h; simp [h]
  · rfl
theorem lcLoop_ok {t : T} {i : Nat} (ht : t = .one i) {turn : Env → R (Option D)} {env : Env} (g : D → Option D) : ∀ (xs : List D) (o : Option D) (acc : List D),
    (∀ x ∈ xs, turn (List.set env i (some x)) = .ok (g x) (List.set env i (some x))) → okLen (acc.length + xs.length) = true →
    ∃ o', lcLoop t turn xs (List.set env i o) acc = .ok (acc ++ xs.filterMap g) (List.set env i o')
  | [], o, acc, _, _ => ⟨o, by simp [lcLoop]⟩
  | x :: xs, o, acc, h, hl => by
    subst ht
    have h1 := h x (by simp)
    have h0 : bindT (.one i) x (Env.wipe (List.set env i o) (T.one i).slots) = some (List.set env i (some x)) := by
      simp [bindT, T.slots, Env.wipe, Env.put]
    have e1 : List.set env i (some x) = List.set env i (some x) := rfl
    simp only [okLen, decide_eq_true_eq, List.length_cons] at hl
    cases hg : g x with
    | none =>
      obtain ⟨o', ho⟩ := lcLoop_ok rfl (turn := turn) g xs (some x) acc (fun y hy => h y (by simp [hy])) (by simp [okLen]; omega)
      refine ⟨o', ?_⟩
      rw [lcLoop, h0]
      simp only [h1, hg]
      rw [ho, List.filterMap_cons, hg]
    | some y =>
      obtain ⟨o', ho⟩ := lcLoop_ok rfl (turn := turn) g xs (some x) (acc ++ [y]) (fun y hy => h y (by simp [hy])) (by simp [okLen]; omega)
      refine ⟨o', ?_⟩
      rw [lcLoop, h0]
      simp only [h1, hg]
      rw [if_pos (by simp [okLen]; omega), ho, List.filterMap_cons, hg]
      simp
def lcTurn (tb : Tb) (cf : CF) (c : Option E) (e : E) (env1 : Env) : R (Option D) := (evC tb cf c env1).bind fun q env2 => match q with
  | .bl true => (evE tb cf e env2).bind fun y env3 => .ok (some y) env3
  | .bl false => .ok none env2
  | _ => .err
theorem evE_lc {tb : Tb} {cf : CF} {t : T} {it : It} {c : Option E} {e : E} {env : Env} : evE tb cf (.lc t it c e) env = (evI tb cf it env).bind fun xs env0 =>
      (lcLoop t (lcTurn tb cf c e) xs env0 []).bind fun ys env => .ok (.lst ys) (env.back env0 t.slots) := by
  rw [evE]; rfl
/-- a comprehension without effects: [e for x in it if c] -/
theorem ev_lc {tb : Tb} {cf : CF} {i : Nat} {it : It} {c : Option E} {e : E} {env env0 : Env} {xs : List D} (g : D → Option D) (hi : evI tb cf it env = .ok xs env0) (hn : okLen xs.length = true)
    (h : ∀ x ∈ xs, lcTurn tb cf c e (List.set env0 i (some x)) = .ok (g x) (List.set env0 i (some x))) :
    evE tb cf (.lc (.one i) it c e) env = .ok (.lst (xs.filterMap g)) env0 := by
  rw [evE_lc, hi]
  simp only [R.bind]
  obtain ⟨o', ho⟩ := lcLoop_ok (t := .one i) rfl (turn := lcTurn tb cf c e) (env := env0) g xs (env0.get i) [] h (by simpa using hn)
  rw [Env.set_get] at ho
  rw [ho]
  simp only [T.slots, Env.back, List.nil_append, List.set_set]
  rw [Env.set_get]
/-- what a turn of a loop does to a state -/
inductive Lp (S : Type) where
  | go (s : S) | stop (s : S) | out (o : O)
def Lp.run {S : Type} (enc : S → Env) (k : S → O) : Lp S → O
  | .go s => k s
  | .stop s => .nx (enc s)
  | .out o => o
def loopL {S : Type} (enc : S → Env) (step : S → D → Lp S) : List D → S → O
  | [], s => .nx (enc s)
  | x :: xs, s => (step s x).run enc (loopL enc step xs)
def isOut : O → Bool
  | .ret _ _ => true
  | .exc _ _ => true
  | .err => true
  | _ => false
/-- a loop over data by a state -/
theorem forL_st {S : Type} {t : T} {b : Env → O} (enc : S → Env) (step : S → D → Lp S) : ∀ (xs : List D) (s : S),
    (∀ x ∈ xs, ∀ s, ∃ env1, bindT t x (enc s) = some env1 ∧ (match step s x with
      | .go s' => b env1 = .nx (enc s') ∨ b env1 = .cont (enc s')
      | .stop s' => b env1 = .brk (enc s')
      | .out o => b env1 = o ∧ isOut o = true)) → forL t b xs (enc s) = loopL enc step xs s
  | [], s, _ => rfl
  | x :: xs, s, h => by
    obtain ⟨env1, h1, h2⟩ := h x (by simp) s
    rw [forL, h1]
    simp only [loopL]
    cases hs : step s x with
    | go s' =>
      rw [hs] at h2
      have ih := forL_st (b := b) (t := t) enc step xs s' fun y hy => h y (by simp [hy])
      rcases h2 with h2 | h2 <;> simp only [h2, Lp.run] <;> exact ih
    | stop s' => rw [hs] at h2; simp only [h2, Lp.run]
    | out o =>
      rw [hs] at h2
      obtain ⟨h2, h3⟩ := h2
      rw [h2]
      cases o <;> simp [isOut] at h3 <;> rfl
theorem loopL_go {S : Type} {enc : S → Env} {step : S → D → S} : ∀ {xs : List D} {s : S}, loopL enc (fun s x => .go (step s x)) xs s = .nx (enc (xs.foldl step s))
  | [], _ => rfl
  | x :: xs, s => by simp only [loopL, Lp.run, List.foldl_cons]; exact loopL_go
end Bh
/-! text Sz -/
set_option linter.all false
set_option maxRecDepth 100000
/-! Sz: the evaluator's equations, for symbolic runs. -/
namespace Bh
def O.seq (r : O) (k : Env → O) : O := match r with
  | .nx e => k e
  | r => r
def onB {α : Type} (x : D) (t f : R α) : R α := match x with
  | .bl true => t
  | .bl false => f
  | _ => .err
def onBO (x : D) (t f : O) : O := match x with
  | .bl true => t
  | .bl false => f
  | _ => .err
section
variable {tb : Tb} {cf : CF} {env : Env} {α β : Type}
@[simp] theorem seq_nx {e : Env} {k : Env → O} : O.seq (.nx e) k = k e := rfl
@[simp] theorem seq_ret {d : D} {e : Env} {k : Env → O} : O.seq (.ret d e) k = .ret d e := rfl
@[simp] theorem seq_brk {e : Env} {k : Env → O} : O.seq (.brk e) k = .brk e := rfl
@[simp] theorem seq_cont {e : Env} {k : Env → O} : O.seq (.cont e) k = .cont e := rfl
@[simp] theorem seq_exc {c : Nat} {e : Env} {k : Env → O} : O.seq (.exc c e) k = .exc c e := rfl
@[simp] theorem seq_err {k : Env → O} : O.seq .err k = .err := rfl
@[simp] theorem seq_cond {b : Bool} {x y : O} {k : Env → O} : O.seq (bif b then x else y) k = bif b then O.seq x k else O.seq y k := by cases b <;> rfl
@[simp] theorem bind_ok {a : α} {e : Env} {k : α → Env → R β} : R.bind (.ok a e) k = k a e := rfl
@[simp] theorem bind_exc {c : Nat} {e : Env} {k : α → Env → R β} : R.bind (.exc c e) k = .exc c e := rfl
@[simp] theorem bind_err {k : α → Env → R β} : R.bind .err k = .err := rfl
@[simp] theorem bind_cond {b : Bool} {x y : R α} {k : α → Env → R β} : R.bind (bif b then x else y) k = bif b then R.bind x k else R.bind y k := by cases b <;> rfl
@[simp] theorem o_ok {a : α} {e : Env} {k : α → Env → O} : R.o (.ok a e) k = k a e := rfl
@[simp] theorem o_exc {c : Nat} {e : Env} {k : α → Env → O} : R.o (.exc c e) k = .exc c e := rfl
@[simp] theorem o_err {k : α → Env → O} : R.o .err k = .err := rfl
@[simp] theorem o_cond {b : Bool} {x y : R α} {k : α → Env → O} : R.o (bif b then x else y) k = bif b then R.o x k else R.o y k := by cases b <;> rfl
@[simp] theorem of_some {a : α} {e : Env} : R.of (some a) e = .ok a e := rfl
@[simp] theorem of_none {e : Env} : R.of (none : Option α) e = .err := rfl
@[simp] theorem onB_bl {b : Bool} {t f : R α} : onB (.bl b) t f = bif b then t else f := by cases b <;> rfl
@[simp] theorem onBO_bl {b : Bool} {t f : O} : onBO (.bl b) t f = bif b then t else f := by cases b <;> rfl
@[simp] theorem cond_and {b c : Bool} {e : Env} : (bif b then R.ok (D.bl c) e else R.ok (D.bl false) e) = R.ok (D.bl (b && c)) e := by cases b <;> rfl
@[simp] theorem cond_or {b c : Bool} {e : Env} : (bif b then R.ok (D.bl true) e else R.ok (D.bl c) e) = R.ok (D.bl (b || c)) e := by cases b <;> rfl
@[simp] theorem endD_cond {df : Def} {b : Bool} {x y : O} : endD df (bif b then x else y) = bif b then endD df x else endD df y := by cases b <;> rfl
/-! the equations -/
@[simp] theorem late_var {i : Nat} : lateOf (.var i) = none := rfl
@[simp] theorem late_con {d : D} : lateOf (.con d) = none := rfl
@[simp] theorem late_glob {g : Nat} : lateOf (.glob g) = none := rfl
@[simp] theorem late_op {o : Op2} {es : Es} : lateOf (.op o es) = none := rfl
@[simp] theorem late_cmp {c : Cm} {es : Es} : lateOf (.cmp c es) = none := rfl
@[simp] theorem late_chain {c d : Cm} {es : Es} {e : E} : lateOf (.chain c d es e) = none := rfl
@[simp] theorem late_neg {a : E} : lateOf (.neg a) = none := rfl
@[simp] theorem late_no {a : E} : lateOf (.no a) = none := rfl
@[simp] theorem late_and {a b : E} : lateOf (.and a b) = none := rfl
@[simp] theorem late_or {a b : E} : lateOf (.or a b) = none := rfl
@[simp] theorem late_ite {c a b : E} : lateOf (.ite c a b) = none := rfl
@[simp] theorem late_tup {es : Es} : lateOf (.tup es) = none := rfl
@[simp] theorem late_lst {es : Es} : lateOf (.lst es) = none := rfl
@[simp] theorem late_idx {es : Es} : lateOf (.idx es) = none := rfl
@[simp] theorem late_slice {a : E} {l h : Option E} : lateOf (.slice a l h) = none := rfl
@[simp] theorem late_lm {m : Lm} {o : E} {es : Es} : lateOf (.lm m o es) = none := rfl
@[simp] theorem late_bf {f : Bf} {es : Es} : lateOf (.bf f es) = none := rfl
@[simp] theorem late_mm {m : Mm} {i : Nat} {es : Es} : lateOf (.mm m i es) = none := rfl
@[simp] theorem late_call {f : Nat} {es : Es} : lateOf (.call f es) = none := rfl
@[simp] theorem late_meth {m : Nat} {o : E} {es : Es} : lateOf (.meth m o es) = none := rfl
@[simp] theorem late_make {c : Nat} {es : Es} : lateOf (.make c es) = none := rfl
@[simp] theorem late_fld {es : Es} {f : Nat} : lateOf (.fld es f) = none := rfl
@[simp] theorem late_lc {t : T} {it : It} {c : Option E} {e : E} : lateOf (.lc t it c e) = none := rfl
@[simp] theorem late_told {e : E} : lateOf (.told e) = none := rfl
@[simp] theorem late_pick {ks : List (List Nat)} {es : Es} {k : E} : lateOf (.pick ks es k) = none := rfl
@[simp] theorem late_own {i : Nat} : lateOf (.own i) = some i := rfl
@[simp] theorem late_io {i : Nat} : lateOf (.io i) = some i := rfl
@[simp] theorem late_bor {i : Nat} : lateOf (.bor i) = some i := rfl
@[simp] theorem endD_ret {df : Def} {d : D} {env : Env} : endD df (.ret d env) = match outsOf env df.io with
    | some os => .ok d os
    | none => .err := rfl
@[simp] theorem endD_nx {df : Def} {env : Env} : endD df (.nx env) = match outsOf env df.io with
    | some os => .ok .non os
    | none => .err := rfl
@[simp] theorem endD_exc {df : Def} {c : Nat} {env : Env} : endD df (.exc c env) = match outsOf env df.io with
    | some os => .exc c os
    | none => .err := rfl

theorem y_var {i : Nat} : evE tb cf (.var i) env = R.of (env.get i) env := by rw [evE]
theorem y_con {d : D} : evE tb cf (.con d) env = .ok d env := by rw [evE]
theorem y_glob {g : Nat} : evE tb cf (.glob g) env = R.of (tb.glob g) env := by rw [evE]
def two2 {γ : Type} (f : D → D → Option γ) : List D → Option γ
  | [x, y] => f x y
  | _ => none
@[simp] theorem two2_2 {γ : Type} {f : D → D → Option γ} {x y : D} : two2 f [x, y] = f x y := rfl
def cmpB (o : Cm) (x y : D) : Option D := (cmpD o x y).map .bl
@[simp] theorem cmpB_some {o : Cm} {x y : D} {b : Bool} (h : cmpD o x y = some b) : cmpB o x y = some (.bl b) := by rw [cmpB, h]; rfl
theorem two_of {γ : Type} (f : D → D → Option γ) (ds : List D) (env : Env) : (match ds with
    | [x, y] => R.of (f x y) env
    | _ => .err) = R.of (two2 f ds) env := by
  unfold two2; split <;> rfl
theorem y_op {o : Op2} {es : Es} : evE tb cf (.op o es) env = (evEs tb cf es env).bind fun ds env => R.of (two2 (opD o) ds) env := by
  rw [evE]; congr 1; funext ds env; exact two_of (opD o) ds env
theorem y_cmp {o : Cm} {es : Es} : evE tb cf (.cmp o es) env = (evEs tb cf es env).bind fun ds env => R.of (two2 (cmpB o) ds) env := by
  rw [evE]; congr 1; funext ds env; exact two_of (cmpB o) ds env
theorem y_idx {es : Es} : evE tb cf (.idx es) env = (evEs tb cf es env).bind fun ds env => R.of (two2 idxD ds) env := by
  rw [evE]; congr 1; funext ds env; exact two_of idxD ds env
/-- the second half of a chain -/
def chn (c1 c2 : Cm) (ds : List D) (ev : R D) (env : Env) : R D := match ds with
  | [x, y] => match cmpD c1 x y with
    | some true => ev.bind (fun z env => R.of (cmpB c2 y z) env)
    | some false => .ok (.bl false) env
    | none => .err
  | _ => .err
def chn2 (b : Option Bool) (t f : R D) : R D := match b with
  | some true => t
  | some false => f
  | none => .err
@[simp] theorem chn2_some {b : Bool} {t f : R D} : chn2 (some b) t f = bif b then t else f := by cases b <;> rfl
@[simp] theorem chn_2 {c1 c2 : Cm} {x y : D} {ev : R D} : chn c1 c2 [x, y] ev env = chn2 (cmpD c1 x y) (ev.bind (fun z env => R.of (cmpB c2 y z) env)) (.ok (.bl false) env) := rfl
theorem y_chain {c1 c2 : Cm} {es : Es} {c : E} : evE tb cf (.chain c1 c2 es c) env = (evEs tb cf es env).bind fun ds env => chn c1 c2 ds (evE tb cf c env) env := by
  rw [evE]; congr
theorem y_neg {a : E} : evE tb cf (.neg a) env = (evE tb cf a env).bind fun x env => match x with
    | .int i => .ok (.int (-i)) env
    | _ => .err := by rw [evE] <;> congr
def notD : D → Option D
  | .bl q => some (.bl !q)
  | _ => none
@[simp] theorem notD_bl {b : Bool} : notD (.bl b) = some (.bl !b) := rfl
theorem y_no {a : E} : evE tb cf (.no a) env = (evE tb cf a env).bind fun x env => R.of (notD x) env := by
  rw [evE]; congr 1; funext x e; cases x <;> rfl
theorem y_and {a b : E} : evE tb cf (.and a b) env = (evE tb cf a env).bind fun x env => onB x (evE tb cf b env) (.ok (.bl false) env) := by
  rw [evE]; congr 1
theorem y_or {a b : E} : evE tb cf (.or a b) env = (evE tb cf a env).bind fun x env => onB x (.ok (.bl true) env) (evE tb cf b env) := by
  rw [evE]; congr 1
theorem y_ite {c a b : E} : evE tb cf (.ite c a b) env = (evE tb cf c env).bind fun x env => onB x (evE tb cf a env) (evE tb cf b env) := by
  rw [evE]; congr 1
theorem y_tup {es : Es} : evE tb cf (.tup es) env = (evEs tb cf es env).bind fun ds env => if okLen ds.length then .ok (.tup ds) env else .err := by rw [evE]
theorem y_lst {es : Es} : evE tb cf (.lst es) env = (evEs tb cf es env).bind fun ds env => if okLen ds.length then .ok (.lst ds) env else .err := by rw [evE]
theorem y_bf {f : Bf} {es : Es} : evE tb cf (.bf f es) env = (evEs tb cf es env).bind fun ds env => R.of (bfD f ds) env := by rw [evE]
theorem y_call {f : Nat} {es : Es} : evE tb cf (.call f es) env = (evEs tb cf es env).bind fun ds env => callRes es ds env (cf.c 0 f ds) := by rw [evE]
def onObj (x : D) (k : Nat → List (Nat × D) → R D) : R D := match x with
  | .obj c fs => k c fs
  | _ => .err
@[simp] theorem onObj_obj {c : Nat} {fs : List (Nat × D)} {k : Nat → List (Nat × D) → R D} : onObj (.obj c fs) k = k c fs := rfl
def onSome {β : Type} (x : Option α) (k : α → R β) : R β := match x with
  | some a => k a
  | none => .err
@[simp] theorem onSome_some {a : α} {k : α → R β} : onSome (some a) k = k a := rfl
def lateK {γ : Type} (o : Option Nat) (now : γ) (late : Nat → γ) : γ := match o with
  | none => now
  | some i => late i
@[simp] theorem lateK_none {γ : Type} {a : γ} {f : Nat → γ} : lateK none a f = a := rfl
@[simp] theorem lateK_some {γ : Type} {a : γ} {f : Nat → γ} {i : Nat} : lateK (some i) a f = f i := rfl
def onObjO (x : Option D) (k : Nat → List (Nat × D) → R D) : R D := match x with
  | some (.obj c fs) => k c fs
  | _ => .err
@[simp] theorem onObjO_obj {c : Nat} {fs : List (Nat × D)} {k : Nat → List (Nat × D) → R D} : onObjO (some (.obj c fs)) k = k c fs := rfl
theorem y_meth {m : Nat} {o : E} {es : Es} : evE tb cf (.meth m o es) env = lateK (lateOf o) ((evE tb cf o env).bind fun x env => onObj x fun c fs => onSome (tb.meth c m) fun f => (evEs tb cf es env).bind fun ds env => callRes (.cons o es) (.obj c fs :: ds) env (cf.c 0 f (.obj c fs :: ds)))
    (fun i => onObjO (env.get i) fun c fs => onSome (tb.meth c m) fun f => (evEs tb cf es env).bind fun ds env => onObjO (env.get i) fun c' fs => if c' = c then callRes (.cons o es) (.obj c' fs :: ds) env (cf.c 0 f (.obj c' fs :: ds)) else .err) := by
  rw [evE]
  cases lateOf o with
  | none =>
    simp only [lateK]
    cases evE tb cf o env with
    | ok x e =>
      cases x with
      | obj c fs =>
        simp only [R.bind, onObj]
        cases tb.meth c m <;> rfl
      | _ => rfl
    | exc c e => rfl
    | err => rfl
  | some i =>
    simp only [lateK]
    cases env.get i with
    | none => rfl
    | some x =>
      cases x with
      | obj c fs =>
        simp only [onObjO]
        cases tb.meth c m with
        | none => rfl
        | some f =>
          simp only [onSome] <;> congr
      | _ => rfl
def fldK (tb : Tb) (f : Nat) (ds : List D) (env : Env) : R D := match ds with
  | [.obj c fs] => if tb.fld c f then R.of (fs.lookup f) env else .err
  | _ => .err
@[simp] theorem fldK_1 {f c : Nat} {fs : List (Nat × D)} : fldK tb f [.obj c fs] env = if tb.fld c f then R.of (fs.lookup f) env else .err := rfl
theorem y_fld {es : Es} {f : Nat} : evE tb cf (.fld es f) env = (evEs tb cf es env).bind fun ds env => fldK tb f ds env := by
  rw [evE]; congr
def mmK (m : Mm) (i : Nat) (o : Option D) (ds : List D) (env : Env) : R D := match o with
  | some x => match mmD m x ds with
    | some r => .ok r.1 (env.put i r.2)
    | none => .err
  | none => .err
@[simp] theorem mmK_some {m : Mm} {i : Nat} {x : D} {ds : List D} : mmK m i (some x) ds env = match mmD m x ds with
    | some r => .ok r.1 (env.put i r.2)
    | none => .err := rfl
def isL (o : Option D) (k : R D) : R D := match o with
  | some (.lst _) => k
  | _ => .err
@[simp] theorem isL_lst {xs : List D} {k : R D} : isL (some (.lst xs)) k = k := rfl
theorem y_mm {m : Mm} {i : Nat} {es : Es} : evE tb cf (.mm m i es) env = isL (env.get i) ((evEs tb cf es env).bind fun ds env => mmK m i (env.get i) ds env) := by
  rw [evE]
  cases env.get i with
  | none => rfl
  | some x => cases x <;> rfl
theorem y_told {e : E} : evE tb cf (.told e) env = if 2 ≤ cf.lv then (match evE tb (low cf) e env with
    | .ok d env => .ok d env
    | .exc c env => match tb.told c with
      | some d => .ok d env
      | none => .err
    | .err => .err) else .err := by rw [evE] <;> congr
theorem y_pick {ks : List (List Nat)} {es : Es} {k : E} : evE tb cf (.pick ks es k) env = (evEs tb cf es env).bind fun ds env => (evE tb cf k env).bind fun x env => R.of (pickD ks ds x) env := by rw [evE]
theorem y_nil : evEs tb cf .nil env = .ok [] env := by rw [evEs]
theorem y_cons {e : E} {es : Es} : evEs tb cf (.cons e es) env = lateK (lateOf e) ((evE tb cf e env).bind fun d env => (evEs tb cf es env).bind fun ds env => .ok (d :: ds) env)
    (fun i => (R.of (env.get i) env).bind fun _ env => (evEs tb cf es env).bind fun ds env => (R.of (env.get i) env).bind fun d env => .ok (d :: ds) env) := by
  rw [evEs]; cases lateOf e <;> rfl
theorem y_c0 : evC tb cf none env = .ok (.bl true) env := by rw [evC]
theorem y_c1 {c : E} : evC tb cf (some c) env = evE tb cf c env := by rw [evC]
theorem y_seq {e : E} : evI tb cf (.seq e) env = (evE tb cf e env).bind fun d env => R.of (itemsD d) env := by rw [evI]
def rngD (a b : D) : Option (List D) := match a, b with
  | .int i, .int j => if rngOk i j then some (rangeD i j) else none
  | _, _ => none
@[simp] theorem rngD_int {i j : Int} : rngD (.int i) (.int j) = if rngOk i j then some (rangeD i j) else none := rfl
theorem y_rng1 {a : E} : evI tb cf (.rng1 a) env = (evE tb cf a env).bind fun x env => R.of (rngD (.int 0) x) env := by
  rw [evI]; congr 1; funext x e; cases x <;> simp [rngD, R.of]
  split <;> simp_all
theorem y_rng2 {es : Es} : evI tb cf (.rng2 es) env = (evEs tb cf es env).bind fun ds env => R.of (two2 rngD ds) env := by
  rw [evI]; congr 1; funext ds env
  rw [← two_of]
  split
  · rename_i i j
    simp only [rngD]
    split <;> rfl
  · rename_i h
    split
    · rename_i x y
      unfold rngD
      split
      · exact absurd rfl (h _ _)
      · rfl
    · rfl
theorem y_lcTurn {c : Option E} {e : E} : lcTurn tb cf c e env = (evC tb cf c env).bind fun q env2 => onB q ((evE tb cf e env2).bind fun y env3 => .ok (some y) env3) (.ok none env2) := by
  unfold lcTurn; congr 1
def isBor : E → Bool
  | .bor _ => true
  | _ => false
def isIo : E → Option Nat
  | .io i => some i
  | _ => none
@[simp] theorem isBor_bor {i : Nat} : isBor (.bor i) = true := rfl
@[simp] theorem isIo_io {i : Nat} : isIo (.io i) = some i := rfl
@[simp] theorem isBor_var {a : Nat} : isBor (.var a) = false := rfl
@[simp] theorem isBor_con {a : D} : isBor (.con a) = false := rfl
@[simp] theorem isBor_glob {a : Nat} : isBor (.glob a) = false := rfl
@[simp] theorem isBor_op {a : Op2} {b : Es} : isBor (.op a b) = false := rfl
@[simp] theorem isBor_cmp {a : Cm} {b : Es} : isBor (.cmp a b) = false := rfl
@[simp] theorem isBor_chain {a : Cm} {b : Cm} {c : Es} {d : E} : isBor (.chain a b c d) = false := rfl
@[simp] theorem isBor_neg {a : E} : isBor (.neg a) = false := rfl
@[simp] theorem isBor_no {a : E} : isBor (.no a) = false := rfl
@[simp] theorem isBor_and {a : E} {b : E} : isBor (.and a b) = false := rfl
@[simp] theorem isBor_or {a : E} {b : E} : isBor (.or a b) = false := rfl
@[simp] theorem isBor_ite {a : E} {b : E} {c : E} : isBor (.ite a b c) = false := rfl
@[simp] theorem isBor_tup {a : Es} : isBor (.tup a) = false := rfl
@[simp] theorem isBor_lst {a : Es} : isBor (.lst a) = false := rfl
@[simp] theorem isBor_idx {a : Es} : isBor (.idx a) = false := rfl
@[simp] theorem isBor_slice {a : E} {b : Option E} {c : Option E} : isBor (.slice a b c) = false := rfl
@[simp] theorem isBor_lm {m : Lm} {o : E} {es : Es} : isBor (.lm m o es) = false := rfl
@[simp] theorem isBor_bf {a : Bf} {b : Es} : isBor (.bf a b) = false := rfl
@[simp] theorem isBor_mm {a : Mm} {b : Nat} {c : Es} : isBor (.mm a b c) = false := rfl
@[simp] theorem isBor_call {a : Nat} {b : Es} : isBor (.call a b) = false := rfl
@[simp] theorem isBor_meth {a : Nat} {b : E} {c : Es} : isBor (.meth a b c) = false := rfl
@[simp] theorem isBor_make {a : Nat} {b : Es} : isBor (.make a b) = false := rfl
@[simp] theorem isBor_fld {a : Es} {b : Nat} : isBor (.fld a b) = false := rfl
@[simp] theorem isBor_lc {a : T} {b : It} {c : Option E} {d : E} : isBor (.lc a b c d) = false := rfl
@[simp] theorem isBor_told {a : E} : isBor (.told a) = false := rfl
@[simp] theorem isBor_pick {a : List (List Nat)} {b : Es} {c : E} : isBor (.pick a b c) = false := rfl
@[simp] theorem isBor_own {a : Nat} : isBor (.own a) = false := rfl
@[simp] theorem isBor_io {a : Nat} : isBor (.io a) = false := rfl
@[simp] theorem isIo_var {a : Nat} : isIo (.var a) = none := rfl
@[simp] theorem isIo_con {a : D} : isIo (.con a) = none := rfl
@[simp] theorem isIo_glob {a : Nat} : isIo (.glob a) = none := rfl
@[simp] theorem isIo_op {a : Op2} {b : Es} : isIo (.op a b) = none := rfl
@[simp] theorem isIo_cmp {a : Cm} {b : Es} : isIo (.cmp a b) = none := rfl
@[simp] theorem isIo_chain {a : Cm} {b : Cm} {c : Es} {d : E} : isIo (.chain a b c d) = none := rfl
@[simp] theorem isIo_neg {a : E} : isIo (.neg a) = none := rfl
@[simp] theorem isIo_no {a : E} : isIo (.no a) = none := rfl
@[simp] theorem isIo_and {a : E} {b : E} : isIo (.and a b) = none := rfl
@[simp] theorem isIo_or {a : E} {b : E} : isIo (.or a b) = none := rfl
@[simp] theorem isIo_ite {a : E} {b : E} {c : E} : isIo (.ite a b c) = none := rfl
@[simp] theorem isIo_tup {a : Es} : isIo (.tup a) = none := rfl
@[simp] theorem isIo_lst {a : Es} : isIo (.lst a) = none := rfl
@[simp] theorem isIo_idx {a : Es} : isIo (.idx a) = none := rfl
@[simp] theorem isIo_slice {a : E} {b : Option E} {c : Option E} : isIo (.slice a b c) = none := rfl
@[simp] theorem isIo_lm {m : Lm} {o : E} {es : Es} : isIo (.lm m o es) = none := rfl
@[simp] theorem isIo_bf {a : Bf} {b : Es} : isIo (.bf a b) = none := rfl
@[simp] theorem isIo_mm {a : Mm} {b : Nat} {c : Es} : isIo (.mm a b c) = none := rfl
@[simp] theorem isIo_call {a : Nat} {b : Es} : isIo (.call a b) = none := rfl
@[simp] theorem isIo_meth {a : Nat} {b : E} {c : Es} : isIo (.meth a b c) = none := rfl
@[simp] theorem isIo_make {a : Nat} {b : Es} : isIo (.make a b) = none := rfl
@[simp] theorem isIo_fld {a : Es} {b : Nat} : isIo (.fld a b) = none := rfl
@[simp] theorem isIo_lc {a : T} {b : It} {c : Option E} {d : E} : isIo (.lc a b c d) = none := rfl
@[simp] theorem isIo_told {a : E} : isIo (.told a) = none := rfl
@[simp] theorem isIo_pick {a : List (List Nat)} {b : Es} {c : E} : isIo (.pick a b c) = none := rfl
@[simp] theorem isIo_own {a : Nat} : isIo (.own a) = none := rfl
@[simp] theorem isIo_bor {a : Nat} : isIo (.bor a) = none := rfl
@[simp] theorem lentOk_nil {ds : List D} {r : D} : lentOk .nil ds r = true := by rw [lentOk]; all_goals simp
@[simp] theorem lentOk_cons {e : E} {es : Es} {d r : D} {ds : List D} : lentOk (.cons e es) (d :: ds) r = ((!isBor e || !hasK (kindOf d) r) && lentOk es ds r) := by
  cases e <;> simp [lentOk]
@[simp] theorem lentOut_nil {ds : List D} {r : D} : lentOut .nil ds r = true := by rw [lentOut]; all_goals simp
@[simp] theorem lentOut_cons {e : E} {es : Es} {d r : D} {ds : List D} : lentOut (.cons e es) (d :: ds) r = ((!isBor e || !kidK (kindOf d) r) && lentOut es ds r) := by
  cases e <;> simp [lentOut]
@[simp] theorem putBack_n {os : List D} {env : Env} : putBack .nil os env = env := by rw [putBack]
@[simp] theorem putBack_z : ∀ {es : Es} {env : Env}, putBack es [] env = env
  | .nil, env => by rw [putBack]
  | .cons e es, env => by cases e <;> simp [putBack] <;> exact putBack_z
@[simp] theorem putBack_c {e : E} {es : Es} {o : D} {os : List D} {env : Env} : putBack (.cons e es) (o :: os) env = lateK (isIo e) (putBack es (o :: os) env) (fun i => putBack es os (env.put i o)) := by
  cases e <;> simp [putBack, isIo, lateK]
@[simp] theorem callRes_ok {es : Es} {ds : List D} {r : D} {outs : List D} : callRes es ds env (.ok r outs) = if lentOk es ds r && outs.all (lentOut es ds) then .ok r (putBack es outs env) else .err := rfl
@[simp] theorem callRes_exc {es : Es} {ds : List D} {c : Nat} {outs : List D} : callRes es ds env (.exc c outs) = if outs.all (lentOut es ds) then .exc c (putBack es outs env) else .err := rfl
@[simp] theorem items_tup {xs : List D} : itemsD (.tup xs) = some xs := rfl
@[simp] theorem items_lst {xs : List D} : itemsD (.lst xs) = some xs := rfl
@[simp] theorem add_int {i j : Int} : opD .add (.int i) (.int j) = some (.int (i + j)) := rfl
@[simp] theorem sub_int {i j : Int} : opD .sub (.int i) (.int j) = some (.int (i - j)) := rfl
@[simp] theorem add_tup {a b : List D} : opD .add (.tup a) (.tup b) = if okLen (a.length + b.length) then some (.tup (a ++ b)) else none := rfl
@[simp] theorem add_lst {a b : List D} : opD .add (.lst a) (.lst b) = if okLen (a.length + b.length) then some (.lst (a ++ b)) else none := rfl
@[simp] theorem append_lst {a : List D} {v : D} : mmD .append (.lst a) [v] = if okLen (a.length + 1) then some (.non, .lst (a ++ [v])) else none := rfl
@[simp] theorem lt_int {i j : Int} : cmpD .lt (.int i) (.int j) = some (decide (i < j)) := rfl
@[simp] theorem le_int {i j : Int} : cmpD .le (.int i) (.int j) = some (decide (i ≤ j)) := rfl
@[simp] theorem gt_int {i j : Int} : cmpD .gt (.int i) (.int j) = some (decide (j < i)) := rfl
@[simp] theorem ge_int {i j : Int} : cmpD .ge (.int i) (.int j) = some (decide (j ≤ i)) := rfl
@[simp] theorem eq_int {i j : Int} : cmpD .eq (.int i) (.int j) = some (i == j) := by simp [cmpD, eqOk, plain, dep, eqv]
@[simp] theorem ne_int {i j : Int} : cmpD .ne (.int i) (.int j) = some (i != j) := by simp [cmpD, eqOk, plain, dep, eqv, bne]
@[simp] theorem eq_str {a b : List Nat} : cmpD .eq (.str a) (.str b) = some (a == b) := by simp [cmpD, eqOk, plain, dep, eqv]
@[simp] theorem ne_str {a b : List Nat} : cmpD .ne (.str a) (.str b) = some (a != b) := by simp [cmpD, eqOk, plain, dep, eqv, bne]
@[simp] theorem eq_bl {a b : Bool} : cmpD .eq (.bl a) (.bl b) = some (a == b) := by simp [cmpD, eqOk, plain, dep, eqv]
@[simp] theorem ne_bl {a b : Bool} : cmpD .ne (.bl a) (.bl b) = some (a != b) := by simp [cmpD, eqOk, plain, dep, eqv, bne]
@[simp] theorem tuple_lst {l : List D} : bfD .tuple [.lst l] = some (.tup l) := rfl
@[simp] theorem list_tup {l : List D} : bfD .list [.tup l] = some (.lst l) := rfl
@[simp] theorem list_lst {l : List D} : bfD .list [.lst l] = some (.lst l) := rfl
@[simp] theorem len_lst {l : List D} : bfD .len [.lst l] = some (.int l.length) := rfl
@[simp] theorem len_tup {l : List D} : bfD .len [.tup l] = some (.int l.length) := rfl
@[simp] theorem bind_one {i : Nat} {d : D} : bindT (.one i) d env = some (env.put i d) := rfl
theorem lcLoop_okM {γ : Type} (enc : γ → D) {i : Nat} {turn : Env → R (Option D)} {env : Env} (g : γ → Option D) : ∀ (xs : List γ) (o : Option D) (acc : List D),
    (∀ x ∈ xs, turn (List.set env i (some (enc x))) = .ok (g x) (List.set env i (some (enc x)))) → okLen (acc.length + xs.length) = true →
    ∃ o', lcLoop (.one i) turn (xs.map enc) (List.set env i o) acc = .ok (acc ++ xs.filterMap g) (List.set env i o')
  | [], o, acc, _, _ => ⟨o, by simp [lcLoop]⟩
  | x :: xs, o, acc, h, hl => by
    have h1 := h x (by simp)
    have h0 : bindT (.one i) (enc x) (Env.wipe (List.set env i o) (T.one i).slots) = some (List.set env i (some (enc x))) := by
      simp [bindT, T.slots, Env.wipe, Env.put]
    simp only [okLen, decide_eq_true_eq, List.length_cons] at hl
    cases hg : g x with
    | none =>
      obtain ⟨o', ho⟩ := lcLoop_okM enc (turn := turn) g xs (some (enc x)) acc (fun y hy => h y (by simp [hy])) (by simp [okLen]; omega)
      refine ⟨o', ?_⟩
      rw [List.map_cons, lcLoop, h0]
      simp only [h1, hg]
      rw [ho, List.filterMap_cons, hg]
    | some y =>
      obtain ⟨o', ho⟩ := lcLoop_okM enc (turn := turn) g xs (some (enc x)) (acc ++ [y]) (fun y hy => h y (by simp [hy])) (by simp [okLen]; omega)
      refine ⟨o', ?_⟩
      rw [List.map_cons, lcLoop, h0]
      simp only [h1, hg]
      rw [if_pos (by simp [okLen]; omega), ho, List.filterMap_cons, hg]
      simp
/-- a comprehension over coded things -/
theorem ev_lcM {γ : Type} (enc : γ → D) {i : Nat} {it : It} {c : Option E} {e : E} {env0 : Env} {xs : List γ} (g : γ → Option D) (hi : evI tb cf it env = .ok (xs.map enc) env0) (hn : okLen xs.length = true)
    (h : ∀ x ∈ xs, lcTurn tb cf c e (List.set env0 i (some (enc x))) = .ok (g x) (List.set env0 i (some (enc x)))) :
    evE tb cf (.lc (.one i) it c e) env = .ok (.lst (xs.filterMap g)) env0 := by
  rw [evE_lc, hi]
  simp only [R.bind]
  obtain ⟨o', ho⟩ := lcLoop_okM enc (turn := lcTurn tb cf c e) (env := env0) g xs (env0.get i) [] h (by simpa using hn)
  rw [Env.set_get] at ho
  rw [ho]
  simp only [T.slots, Env.back, List.nil_append, List.set_set]
  rw [Env.set_get]
theorem fm_if {γ : Type} (p : γ → Bool) (f : γ → D) : ∀ l : List γ, (l.filterMap fun x => if p x then some (f x) else none) = (l.filter p).map f
  | [] => rfl
  | x :: l => by
    rw [List.filterMap_cons, List.filter_cons, fm_if p f l]
    cases p x <;> simp
theorem y_make {c : Nat} {es : Es} : evE tb cf (.make c es) env = (evEs tb cf es env).bind fun ds env => onSome (tb.init c) fun f => makeRes es ds env (cf.c 1 f (.obj c [] :: ds)) := by
  rw [evE]; congr 1; funext ds env; cases tb.init c <;> rfl
@[simp] theorem makeRes_ok {es : Es} {ds : List D} {o : D} {outs : List D} : makeRes es ds env (.ok .non (o :: outs)) = if lentOk es ds o && outs.all (lentOut es ds) then .ok o (putBack es outs env) else .err := rfl
@[simp] theorem makeRes_exc {es : Es} {ds : List D} {c : Nat} {o : D} {outs : List D} : makeRes es ds env (.exc c (o :: outs)) = if outs.all (lentOut es ds) then .exc c (putBack es outs env) else .err := rfl
/-! statements -/
theorem z_nil : evSs tb cf [] env = .nx env := by rw [evSs]
theorem z_cons {s : S} {ss : List S} : evSs tb cf (s :: ss) env = (evS tb cf s env).seq fun e => evSs tb cf ss e := by
  rw [evSs]; cases evS tb cf s env <;> rfl
theorem z_set {i : Nat} {e : E} : evS tb cf (.set i e) env = (evE tb cf e env).o fun d env => .nx (env.put i d) := by rw [evS]
theorem z_thaw {i : Nat} {e : E} : evS tb cf (.thaw i e) env = (evE tb cf e env).o fun d env => setO true (isNew tb e) env i d .nx := by rw [evS]
def onEnv (x : Option Env) (k : Env → O) : O := match x with
  | some e => k e
  | none => .err
@[simp] theorem onEnv_some {e : Env} {k : Env → O} : onEnv (some e) k = k e := rfl
theorem z_bind {is : List Nat} {e : E} : evS tb cf (.bind is e) env = (evE tb cf e env).o fun d env => onEnv (bindT (.many is) d env) .nx := by
  rw [evS]; rfl
theorem z_par2 {i j : Nat} {fi fj : Bool} {a b : E} : evS tb cf (.par2 i fi a j fj b) env = (evE tb cf a env).o fun x env => (evE tb cf b env).o fun y env => setO fi (isNew tb a) env i x fun env => setO fj (isNew tb b) env j y .nx := by rw [evS]
theorem z_expr {e : E} : evS tb cf (.expr e) env = (evE tb cf e env).o fun _ env => .nx env := by rw [evS]
theorem z_ret {e : E} : evS tb cf (.ret e) env = (evE tb cf e env).o fun d env => .ret d env := by rw [evS]
theorem z_retO {i : Nat} : evS tb cf (.retO i) env = (R.of (env.get i) env).o fun d env => .ret d env := by rw [evS]
theorem z_raise {c : Nat} : evS tb cf (.raise c) env = .exc c env := by rw [evS]
theorem z_pass : evS tb cf .pass env = .nx env := by rw [evS]
theorem z_brk : evS tb cf .brk env = .brk env := by rw [evS]
theorem z_cont : evS tb cf .cont env = .cont env := by rw [evS]
theorem z_ite {c : E} {a b : List S} : evS tb cf (.ite c a b) env = (evE tb cf c env).o fun q env => onBO q (evSs tb cf a env) (evSs tb cf b env) := by
  rw [evS]; congr 1
theorem z_fors {t : T} {it : It} {b : List S} : evS tb cf (.fors t it b) env = (evI tb cf it env).o fun xs env => forL t (evSs tb cf b) xs env := by rw [evS]
theorem z_whil {n : Nat} {c : E} {b : List S} : evS tb cf (.whil n c b) env = whileL (evE tb cf c) (evSs tb cf b) n env := by rw [evS]
end
end Bh
/-! text Su -/
set_option linter.all false
set_option maxRecDepth 100000
/-! Su: more of the evaluator's equations: slices, index, enumerate, op=, places as targets. -/
namespace Bh
section
variable {tb : Tb} {cf : CF} {env : Env} {α β : Type}
def intO : D → Option (Option Int)
  | .int i => some (some i)
  | _ => none
@[simp] theorem intO_int {i : Int} : intO (.int i) = some (some i) := rfl
theorem y_p0 : evP tb cf none env = .ok none env := by rw [evP]
theorem y_p1 {e : E} : evP tb cf (some e) env = (evE tb cf e env).bind fun x env => R.of (intO x) env := by
  rw [evP]; congr 1; funext x e; cases x <;> rfl
theorem y_slice {a : E} {lo hi : Option E} : evE tb cf (.slice a lo hi) env = lateK (lateOf a) ((evE tb cf a env).bind fun d env => (evP tb cf lo env).bind fun l env => (evP tb cf hi env).bind fun h env => R.of (sliceD d l h) env)
    (fun i => (R.of (env.get i) env).bind fun _ env => (evP tb cf lo env).bind fun l env => (evP tb cf hi env).bind fun h env => (R.of (env.get i) env).bind fun d env => R.of (sliceD d l h) env) := by
  rw [evE]; cases lateOf a <;> rfl
theorem y_lm {m : Lm} {o : E} {es : Es} : evE tb cf (.lm m o es) env = lateK (lateOf o) ((evE tb cf o env).bind fun d env => if lmT m d then (evEs tb cf es env).bind fun ds env => R.of (lmD m d ds) env else .err)
    (fun i => isL (env.get i) ((evEs tb cf es env).bind fun ds env => (R.of (env.get i) env).bind fun d env => R.of (lmD m d ds) env)) := by
  rw [evE]
  cases lateOf o with
  | none => rfl
  | some i =>
    simp only [lateK]
    cases env.get i with
    | none => rfl
    | some x => cases x <;> rfl
theorem y_enum {e : E} : evI tb cf (.enum e) env = (evE tb cf e env).bind fun d env => R.of ((itemsD d).map enumD) env := by rw [evI]
def someO (x : Option D) (k : D → O) : O := match x with
  | some d => k d
  | none => .err
@[simp] theorem someO_some {d : D} {k : D → O} : someO (some d) k = k d := rfl
theorem z_augIx {i : Nat} {o : Op2} {k v : E} : evS tb cf (.augIx i o k v) env = someO (env.get i) fun _ => (evE tb cf k env).o fun x env => someO (env.get i) fun d => (R.of (pickAt d x) env).o fun z env => (evE tb cf v env).o fun y env => (R.of (augD o z y) env).o fun u env => setAt i x u env := by
  rw [evS]
  cases env.get i with
  | none => rfl
  | some d =>
    first
      | rfl
      | (simp only [someO] <;> first | rfl | congr 1)
theorem z_setIx {i : Nat} {k v : E} : evS tb cf (.setIx i k v) env = (evE tb cf v env).o fun y env => someO (env.get i) fun _ => (evE tb cf k env).o fun x env => setAt i x y env := by
  rw [evS]
  congr 1
  funext y e
  cases e.get i with
  | none => rfl
  | some d =>
    refine congrArg (R.o (evE tb cf k e)) ?_
    funext x e2
    unfold setAt
    cases e2.get i with
    | none => rfl
    | some d2 => cases d2 <;> first | rfl | (cases x <;> rfl)
theorem setAt_lst {i : Nat} {n : Int} {y : D} {xs : List D} (h : env.get i = some (.lst xs)) : setAt i (.int n) y env = match ixN xs.length n with
    | some j => .nx (env.put i (.lst (xs.set j y)))
    | none => .err := by
  unfold setAt; rw [h] <;> rfl
@[simp] theorem aug_add {i j : Int} : augD .add (.int i) (.int j) = some (.int (i + j)) := rfl
@[simp] theorem pick_lst {xs : List D} {n : Int} : pickAt (.lst xs) (.int n) = if 0 ≤ n then xs[n.toNat]? else none := rfl
def tupO (x : D) (k : List D → O) : O := match x with
  | .tup xs => k xs
  | _ => .err
@[simp] theorem tupO_tup {xs : List D} {k : List D → O} : tupO (.tup xs) k = k xs := rfl
theorem z_bindX {ts : List Tg} {e : E} : evS tb cf (.bindX ts e) env = (evE tb cf e env).o fun d env => tupO d fun xs => if xs.length = ts.length then bindTg tb cf ts xs env else .err := by
  rw [evS]; rfl
def nxO (x : O) (k : Env → O) : O := match x with
  | .nx e => k e
  | _ => .err
@[simp] theorem nxO_nx {e : Env} {k : Env → O} : nxO (.nx e) k = k e := rfl
theorem tg_nil {ds : List D} : bindTg tb cf [] ds env = .nx env := by rw [bindTg] <;> simp
theorem tg_nm {i : Nat} {ts : List Tg} {d : D} {ds : List D} : bindTg tb cf (.nm i :: ts) (d :: ds) env = bindTg tb cf ts ds (env.put i d) := by rw [bindTg]
theorem tg_ix {i : Nat} {k : E} {ts : List Tg} {d : D} {ds : List D} : bindTg tb cf (.ix i k :: ts) (d :: ds) env = someO (env.get i) fun _ => (evE tb cf k env).o fun x env => nxO (setAt i x d env) fun env => bindTg tb cf ts ds env := by
  rw [bindTg]
  cases env.get i with
  | none => rfl
  | some q =>
    first
      | rfl
      | (simp only [someO] <;> first | rfl | congr 1)
def fldSet (tb : Tb) (i f : Nat) (o : Option D) (y : D) (env : Env) : O := match o with
  | some (.obj c fs) => if tb.fld c f && (decide (fs.length < 100) && (fs.lookup f).isNone) then .nx (env.put i (.obj c (fs ++ [(f, y)]))) else .err
  | _ => .err
@[simp] theorem fldSet_obj {i f c : Nat} {fs : List (Nat × D)} {y : D} : fldSet tb i f (some (.obj c fs)) y env = if tb.fld c f && (decide (fs.length < 100) && (fs.lookup f).isNone) then .nx (env.put i (.obj c (fs ++ [(f, y)]))) else .err := rfl
theorem z_setFld {i f : Nat} {e : E} : evS tb cf (.setFld i f e) env = (evE tb cf e env).o fun y env => fldSet tb i f (env.get i) y env := by
  rw [evS]; congr
@[simp] theorem pop_lst {xs : List D} {x : D} : mmD .pop (.lst (xs ++ [x])) [] = some (x, .lst xs) := by simp [mmD, popD]
end
end Bh
/-! text Sv -/
set_option linter.all false
set_option maxRecDepth 100000
/-! Sv: comprehensions with any target. -/
namespace Bh
theorem get_lit {env : Env} {i : Nat} : Env.get env i = (env[i]?).getD none := rfl
@[simp] theorem tuple_tup {l : List D} : bfD .tuple [.tup l] = some (.tup l) := rfl
theorem wipe_at {env : Env} {j : Nat} : ∀ {is : List Nat}, (Env.wipe env is)[j]? = if j ∈ is ∧ j < env.length then some none else env[j]?
  | [] => by simp [Env.wipe]
  | i :: is => by
    have hl : (Env.wipe env is).length = env.length := by
      clear wipe_at
      induction is with
      | nil => rfl
      | cons i is ih => rw [Env.wipe, List.length_set, ih]
    unfold Env.wipe
    by_cases h : j = i
    · subst h
      by_cases hj : j < env.length
      · rw [List.getElem?_set_self (by rw [hl]; exact hj), if_pos ⟨List.mem_cons_self, hj⟩]
      · rw [List.getElem?_eq_none (by rw [List.length_set, hl]; omega), if_neg (fun z => hj z.2), List.getElem?_eq_none (by omega)]
    · rw [List.getElem?_set_ne (Ne.symm h), wipe_at]
      simp [h]
theorem wipe_len {env : Env} {is : List Nat} : (Env.wipe env is).length = env.length := by
  induction is with
  | nil => rfl
  | cons i is ih => rw [Env.wipe, List.length_set, ih]
theorem back_at {env env0 : Env} {j : Nat} : ∀ {is : List Nat}, (Env.back env env0 is)[j]? = if j ∈ is ∧ j < env.length then some (env0.get j) else env[j]?
  | [] => by simp [Env.back]
  | i :: is => by
    have hl : (Env.back env env0 is).length = env.length := by
      clear back_at
      induction is with
      | nil => rfl
      | cons i is ih => rw [Env.back, List.length_set, ih]
    unfold Env.back
    by_cases h : j = i
    · subst h
      by_cases hj : j < env.length
      · rw [List.getElem?_set_self (by rw [hl]; exact hj), if_pos ⟨List.mem_cons_self, hj⟩]
      · rw [List.getElem?_eq_none (by rw [List.length_set, hl]; omega), if_neg (fun z => hj z.2), List.getElem?_eq_none (by omega)]
    · rw [List.getElem?_set_ne (Ne.symm h), back_at]
      simp [h]
/-- what was as it was, off the slots, is as it was again -/
theorem back_wipe {env env0 : Env} {is : List Nat} (h : env.wipe is = env0.wipe is) : env.back env0 is = env0 := by
  have hl : env.length = env0.length := by rw [← wipe_len (is := is), h, wipe_len]
  apply List.ext_getElem?
  intro j
  rw [back_at]
  split
  · rename_i hj
    have hj2 : j < env0.length := by rw [← hl]; exact hj.2
    simp [Env.get, hj2]
  · rename_i hj
    have e := congrArg (fun l => l[j]?) h
    simp only [wipe_at] at e
    by_cases hm : j ∈ is
    · have : ¬ j < env.length := fun z => hj ⟨hm, z⟩
      rw [List.getElem?_eq_none (by omega), List.getElem?_eq_none (by omega)]
    · rw [if_neg (fun z => hm z.1), if_neg (fun z => hm z.1)] at e
      exact e
theorem lcLoop_gen {γ : Type} (enc : γ → D) {t : T} {turn : Env → R (Option D)} {W : Env} (g : γ → Option D) : ∀ (xs : List γ) (env : Env) (acc : List D), env.wipe t.slots = W →
    (∀ x ∈ xs, ∃ e1 e2, bindT t (enc x) W = some e1 ∧ turn e1 = .ok (g x) e2 ∧ e2.wipe t.slots = W) → okLen (acc.length + xs.length) = true →
    ∃ e', lcLoop t turn (xs.map enc) env acc = .ok (acc ++ xs.filterMap g) e' ∧ e'.wipe t.slots = W
  | [], env, acc, hw, _, _ => ⟨env, by simp [lcLoop], hw⟩
  | x :: xs, env, acc, hw, h, hl => by
    obtain ⟨e1, e2, h1, h2, h3⟩ := h x (by simp)
    simp only [okLen, decide_eq_true_eq, List.length_cons] at hl
    cases hg : g x with
    | none =>
      obtain ⟨e', he, hw'⟩ := lcLoop_gen enc (turn := turn) g xs e2 acc h3 (fun y hy => h y (by simp [hy])) (by simp [okLen]; omega)
      refine ⟨e', ?_, hw'⟩
      rw [List.map_cons, lcLoop, hw, h1]
      simp only [h2, hg]
      rw [he, List.filterMap_cons, hg]
    | some y =>
      obtain ⟨e', he, hw'⟩ := lcLoop_gen enc (turn := turn) g xs e2 (acc ++ [y]) h3 (fun y hy => h y (by simp [hy])) (by simp [okLen]; omega)
      refine ⟨e', ?_, hw'⟩
      rw [List.map_cons, lcLoop, hw, h1]
      simp only [h2, hg]
      rw [if_pos (by simp [okLen]; omega), he, List.filterMap_cons, hg]
      simp
/-- a comprehension over coded things, any target -/
theorem ev_lcG {tb : Tb} {cf : CF} {env env0 : Env} {γ : Type} (enc : γ → D) {t : T} {it : It} {c : Option E} {e : E} {xs : List γ} (g : γ → Option D) (hi : evI tb cf it env = .ok (xs.map enc) env0) (hn : okLen xs.length = true)
    (h : ∀ x ∈ xs, ∃ e1 e2, bindT t (enc x) (env0.wipe t.slots) = some e1 ∧ lcTurn tb cf c e e1 = .ok (g x) e2 ∧ e2.wipe t.slots = env0.wipe t.slots) :
    evE tb cf (.lc t it c e) env = .ok (.lst (xs.filterMap g)) env0 := by
  rw [evE_lc, hi]
  simp only [R.bind]
  obtain ⟨e', he, hw⟩ := lcLoop_gen enc (turn := lcTurn tb cf c e) g xs env0 [] rfl h (by simpa using hn)
  rw [he]
  simp only [List.nil_append]
  rw [back_wipe hw]
end Bh
/-! text P1 -/
set_option linter.all false
set_option maxRecDepth 100000
set_option maxHeartbeats 2000000
/-! P1: boards; the making, moves, ends, sums. -/
namespace Bh.K09
structure B where
  ms : List Int
  os : List Int
  a : Int
  b : Int
  f : Bool
def iz (l : List Int) : List D := l.map .int
def bD (B : B) : D := .obj 8 [(0, .tup (iz B.ms)), (1, .tup (iz B.os)), (2, .tup [.int B.a, .int B.b]), (3, .bl B.f)]
def sD (B : B) : D := .tup [.lst (iz B.ms), .lst (iz B.os), .int B.a, .int B.b]
/-- a board of n holes, T seeds -/
structure Ok (B : B) (n : Nat) (t : Int) : Prop where
  h1 : 1 ≤ n
  h2 : n ≤ 4
  m : B.ms.length = n
  o : B.os.length = n
  mp : ∀ x ∈ B.ms, 0 ≤ x
  op : ∀ x ∈ B.os, 0 ≤ x
  ap : 0 ≤ B.a
  bp : 0 ≤ B.b
  sum : B.ms.sum + B.os.sum + B.a + B.b = t
  t : t ≤ 24
theorem ints_len (l : List Int) : (iz l).length = l.length := by simp [iz]
theorem intsD_ints : ∀ l : List Int, intsD (iz l) = some l
  | [] => rfl
  | x :: l => by
    show (intsD (iz l)).map (x :: ·) = _
    rw [intsD_ints l]; rfl
theorem ints_app (l m : List Int) : iz l ++ iz m = iz (l ++ m) := by simp [iz]
theorem foldl_min_pos : ∀ (l : List Int) (x : Int), 0 ≤ x → (∀ y ∈ l, 0 ≤ y) → 0 ≤ l.foldl (fun m y => if y < m then y else m) x
  | [], x, h, _ => h
  | y :: l, x, h, k => by
    rw [List.foldl_cons]
    refine foldl_min_pos l _ ?_ fun z hz => k z (by simp [hz])
    split
    · exact k y (by simp)
    · exact h
theorem min_pos {l : List Int} (h : l ≠ []) (k : ∀ y ∈ l, 0 ≤ y) : ∃ m, bfD .min [.lst (iz l)] = some (.int m) ∧ 0 ≤ m := by
  cases l with
  | nil => exact (h rfl).elim
  | cons x l =>
    refine ⟨l.foldl (fun m y => if y < m then y else m) x, ?_, foldl_min_pos l x (k x (by simp)) fun y hy => k y (by simp [hy])⟩
    show minItems (iz (x :: l)) = _
    unfold minItems
    rw [intsD_ints]
    rfl
theorem sum_tup (l : List Int) : bfD .sum [.tup (iz l)] = some (.int l.sum) := by
  show ((itemsD (.tup (iz l))).bind fun xs => (intsD xs).map fun ns => D.int ns.sum) = _
  simp only [items_tup, Option.bind_some, intsD_ints, Option.map_some]
theorem sum_lst (l : List Int) : bfD .sum [.lst (iz l)] = some (.int l.sum) := by
  show ((itemsD (.lst (iz l))).bind fun xs => (intsD xs).map fun ns => D.int ns.sum) = _
  simp only [items_lst, Option.bind_some, intsD_ints, Option.map_some]
theorem make_ok {x : B} {n : Nat} {t : Int} (h : Ok x n t) (k : Nat) : (lev pg (k + 2)).c 1 0 [.obj 8 [], .lst (iz x.ms), .lst (iz x.os), .tup [.int x.a, .int x.b], .bl x.f] = .ok .non [bD x] := by
  rw [lev_one, lev_call (df := d0) rfl rfl]
  simp only [d0, b0]
  obtain ⟨m, hm, hp⟩ := min_pos (l := x.ms ++ x.os ++ [x.a, x.b]) (by simp) (by
    intro y hy
    simp only [List.mem_append, List.mem_cons, List.not_mem_nil, or_false] at hy
    rcases hy with (hy | hy) | rfl | rfl
    · exact h.mp y hy
    · exact h.op y hy
    · exact h.ap
    · exact h.bp)
  have e1 := h.m
  have e2 := h.o
  have h1 := h.h1
  have h2 := h.h2
  have hn : ((n : Int) == 0) = false := by simp; omega
  have ea : iz x.ms ++ (iz x.os ++ [.int x.a, .int x.b]) = iz (x.ms ++ (x.os ++ [x.a, x.b])) := by simp [iz]
  have hs : n + n ≤ 16777216 := by omega
  have hs2 : n + n + 2 ≤ 16777216 := by omega
  have hm2 : bfD .min [.lst (iz (x.ms ++ (x.os ++ [x.a, x.b])))] = some (.int m) := by rw [← List.append_assoc]; exact hm
  have hq : ¬ m < 0 := by omega
  have hf : ∀ f, f < 4 → pg.tb.fld 8 f = true := by decide
  simp [startE, get_lit, Env.put, outsOf, okLen, setO, isNew, kindOf, z_nil, z_cons, z_set, z_thaw, z_bind, z_par2, z_expr, z_ret, z_retO, z_raise, z_ite, z_fors, z_whil, z_brk, z_cont, z_pass, z_setFld, z_augIx, z_setIx, z_bindX, tg_nil, tg_nm, tg_ix, y_var, y_con, y_glob, y_op, y_cmp, y_idx, y_chain, y_no, y_neg, y_and, y_or, y_ite, y_tup, y_lst, y_bf, y_mm, y_lm, y_call, y_meth, y_make, y_fld, y_nil, y_cons, y_seq, y_c0, y_c1, y_slice, y_p0, y_p1, y_enum, y_rng1, y_rng2, y_lcTurn, ints_len, e1, e2, hn, hs, hs2, ea, hm2, hf, hq, bD]
theorem make_cf {x : B} {n : Nat} {t : Int} (h : Ok x n t) {cf : CF} {k : Nat} (hc : cf = lev pg (k + 2)) {es : Es} {env e2 : Env} (he : evEs pg.tb cf es env = .ok [.lst (iz x.ms), .lst (iz x.os), .tup [.int x.a, .int x.b], .bl x.f] e2) (hl : lentOk es [.lst (iz x.ms), .lst (iz x.os), .tup [.int x.a, .int x.b], .bl x.f] (bD x) = true) :
    evE pg.tb cf (.make 8 es) env = .ok (bD x) e2 := by
  subst hc
  rw [y_make, he]
  have hi : pg.tb.init 8 = some 0 := rfl
  simp only [bind_ok, hi, onSome_some, make_ok h, makeRes_ok, hl, List.all_nil, Bool.and_true, if_true, putBack_z]
/-- the holes that are not empty, from k on -/
def mv (k : Nat) : List Int → List Nat
  | [] => []
  | x :: l => if 0 < x then k :: mv (k + 1) l else mv (k + 1) l
def nats (l : List Nat) : List D := l.map fun (k : Nat) => D.int (k : Int)
theorem enum_ints (l : List Int) : enumD (iz l) = (l.mapIdx fun i x => (i, x)).map fun (q : Nat × Int) => D.tup [.int (q.1 : Nat), .int q.2] := by
  apply List.ext_getElem?
  intro j
  simp only [enumD, iz, List.getElem?_mapIdx, List.getElem?_map, Option.map_map]
  rfl
theorem mv_fm (l : List Int) : ∀ k : Nat, ((l.mapIdx fun i x => (k + i, x)).filterMap fun (q : Nat × Int) => if decide (0 < q.2) then some (D.int (q.1 : Nat)) else none) = nats (mv k l) := by
  induction l with
  | nil => intro k; rfl
  | cons x l ih =>
    intro k
    have e : (l.mapIdx fun i x => (k + (i + 1), x)) = l.mapIdx fun i x => (k + 1 + i, x) := by
      congr 1; funext i x; congr 1; omega
    rw [List.mapIdx_cons, List.filterMap_cons, e, ih (k + 1)]
    rw [show mv k (x :: l) = if 0 < x then k :: mv (k + 1) l else mv (k + 1) l from rfl]
    by_cases h : 0 < x <;> simp [h, nats]
theorem moves_ok {x : B} {n : Nat} {t : Int} (h : Ok x n t) (k : Nat) : (lev pg (k + 1)).c 0 1 [bD x] = .ok (.tup (nats (mv 0 x.ms))) [] := by
  rw [lev_call (df := d1) rfl rfl]
  simp only [d1, b1]
  have e1 := h.m
  have h2 := h.h2
  have hf : ∀ f, f < 4 → pg.tb.fld 8 f = true := by decide
  have e := ev_lcG (tb := pg.tb) (cf := lev pg k) (env := [some (bD x), none, none]) (env0 := [some (bD x), none, none]) (fun (q : Nat × Int) => D.tup [.int (q.1 : Nat), .int q.2]) (t := .many [1, 2]) (it := .enum (.fld (.cons (.var 0) .nil) 0)) (c := some (.cmp .gt (.cons (.var 2) (.cons (.con (.int 0)) .nil)))) (e := .var 1)
    (xs := x.ms.mapIdx fun i x => (i, x)) (fun q => if decide (0 < q.2) then some (D.int (q.1 : Nat)) else none) (by
      simp [startE, get_lit, Env.put, outsOf, okLen, setO, isNew, kindOf, z_nil, z_cons, z_set, z_thaw, z_bind, z_par2, z_expr, z_ret, z_retO, z_raise, z_ite, z_fors, z_whil, z_brk, z_cont, z_pass, z_setFld, z_augIx, z_setIx, z_bindX, tg_nil, tg_nm, tg_ix, y_var, y_con, y_glob, y_op, y_cmp, y_idx, y_chain, y_no, y_neg, y_and, y_or, y_ite, y_tup, y_lst, y_bf, y_mm, y_lm, y_call, y_meth, y_make, y_fld, y_nil, y_cons, y_seq, y_c0, y_c1, y_slice, y_p0, y_p1, y_enum, y_rng1, y_rng2, y_lcTurn, bD, fldK_1, hf]
      exact enum_ints x.ms) (by simp [okLen, e1]; omega) (fun q _ => by
      refine ⟨[some (bD x), some (.int q.1), some (.int q.2)], [some (bD x), some (.int q.1), some (.int q.2)], ?_, ?_, ?_⟩
      · simp [bindT, Env.wipe, T.slots, Env.put]
      · by_cases hq : 0 < q.2 <;> simp [startE, get_lit, Env.put, outsOf, okLen, setO, isNew, kindOf, z_nil, z_cons, z_set, z_thaw, z_bind, z_par2, z_expr, z_ret, z_retO, z_raise, z_ite, z_fors, z_whil, z_brk, z_cont, z_pass, z_setFld, z_augIx, z_setIx, z_bindX, tg_nil, tg_nm, tg_ix, y_var, y_con, y_glob, y_op, y_cmp, y_idx, y_chain, y_no, y_neg, y_and, y_or, y_ite, y_tup, y_lst, y_bf, y_mm, y_lm, y_call, y_meth, y_make, y_fld, y_nil, y_cons, y_seq, y_c0, y_c1, y_slice, y_p0, y_p1, y_enum, y_rng1, y_rng2, y_lcTurn, hq]
      · simp [Env.wipe, T.slots])
  have m := mv_fm x.ms 0
  simp only [Nat.zero_add] at m
  rw [m] at e
  simp only [startE, get_lit, Env.put, outsOf, okLen, setO, isNew, kindOf, z_nil, z_cons, z_set, z_thaw, z_bind, z_par2, z_expr, z_ret, z_retO, z_raise, z_ite, z_fors, z_whil, z_brk, z_cont, z_pass, z_setFld, z_augIx, z_setIx, z_bindX, tg_nil, tg_nm, tg_ix, y_var, y_con, y_glob, y_op, y_cmp, y_idx, y_chain, y_no, y_neg, y_and, y_or, y_ite, y_tup, y_lst, y_bf, y_mm, y_lm, y_call, y_meth, y_make, y_fld, y_nil, y_cons, y_seq, y_c0, y_c1, y_slice, y_p0, y_p1, y_enum, y_rng1, y_rng2, y_lcTurn, bind_ok, late_bf, late_lc, lateK_none, o_ok, seq_ret, endD_ret]
  have hs : (List.map some [bD x] ++ List.replicate (3 - [bD x].length) none) = [some (bD x), none, none] := rfl
  rw [hs, e]
  simp [outsOf]
theorem f0 {x : B} {env : Env} : fldK pg.tb 0 [bD x] env = .ok (.tup (iz x.ms)) env := rfl
theorem f1 {x : B} {env : Env} : fldK pg.tb 1 [bD x] env = .ok (.tup (iz x.os)) env := rfl
theorem f2 {x : B} {env : Env} : fldK pg.tb 2 [bD x] env = .ok (.tup [.int x.a, .int x.b]) env := rfl
theorem f3 {x : B} {env : Env} : fldK pg.tb 3 [bD x] env = .ok (.bl x.f) env := rfl
theorem over_ok {x : B} (k : Nat) : (lev pg (k + 1)).c 0 3 [bD x] = .ok (.bl (x.ms.sum == 0)) [] := by
  rw [lev_call (df := d3) rfl rfl]
  simp only [d3, b3]
  simp [startE, get_lit, Env.put, outsOf, okLen, setO, isNew, kindOf, z_nil, z_cons, z_set, z_thaw, z_bind, z_par2, z_expr, z_ret, z_retO, z_raise, z_ite, z_fors, z_whil, z_brk, z_cont, z_pass, z_setFld, z_augIx, z_setIx, z_bindX, tg_nil, tg_nm, tg_ix, y_var, y_con, y_glob, y_op, y_cmp, y_idx, y_chain, y_no, y_neg, y_and, y_or, y_ite, y_tup, y_lst, y_bf, y_mm, y_lm, y_call, y_meth, y_make, y_fld, y_nil, y_cons, y_seq, y_c0, y_c1, y_slice, y_p0, y_p1, y_enum, y_rng1, y_rng2, y_lcTurn, f0, f1, f2, f3, sum_tup]
theorem key_ok {x : B} (k : Nat) : (lev pg (k + 1)).c 0 10 [bD x] = .ok (.tup [.tup (iz x.ms), .tup (iz x.os), .tup [.int x.a, .int x.b], .bl x.f]) [] := by
  rw [lev_call (df := d10) rfl rfl]
  simp only [d10, b10]
  simp [startE, get_lit, Env.put, outsOf, okLen, setO, isNew, kindOf, z_nil, z_cons, z_set, z_thaw, z_bind, z_par2, z_expr, z_ret, z_retO, z_raise, z_ite, z_fors, z_whil, z_brk, z_cont, z_pass, z_setFld, z_augIx, z_setIx, z_bindX, tg_nil, tg_nm, tg_ix, y_var, y_con, y_glob, y_op, y_cmp, y_idx, y_chain, y_no, y_neg, y_and, y_or, y_ite, y_tup, y_lst, y_bf, y_mm, y_lm, y_call, y_meth, y_make, y_fld, y_nil, y_cons, y_seq, y_c0, y_c1, y_slice, y_p0, y_p1, y_enum, y_rng1, y_rng2, y_lcTurn, f0, f1, f2, f3]
theorem sum_two (a b : Int) : bfD .sum [.tup [.int a, .int b]] = some (.int (a + b)) := by
  have := sum_tup [a, b]
  simpa [iz] using this
theorem seeds_ok {x : B} (k : Nat) : (lev pg (k + 1)).c 0 5 [bD x] = .ok (.int (x.ms.sum + x.os.sum + (x.a + x.b))) [] := by
  rw [lev_call (df := d5) rfl rfl]
  simp only [d5, b5]
  simp [startE, get_lit, Env.put, outsOf, okLen, setO, isNew, kindOf, z_nil, z_cons, z_set, z_thaw, z_bind, z_par2, z_expr, z_ret, z_retO, z_raise, z_ite, z_fors, z_whil, z_brk, z_cont, z_pass, z_setFld, z_augIx, z_setIx, z_bindX, tg_nil, tg_nm, tg_ix, y_var, y_con, y_glob, y_op, y_cmp, y_idx, y_chain, y_no, y_neg, y_and, y_or, y_ite, y_tup, y_lst, y_bf, y_mm, y_lm, y_call, y_meth, y_make, y_fld, y_nil, y_cons, y_seq, y_c0, y_c1, y_slice, y_p0, y_p1, y_enum, y_rng1, y_rng2, y_lcTurn, f0, f1, f2, f3, sum_tup, sum_two]
theorem totals_ok {x : B} (k : Nat) : (lev pg (k + 1)).c 0 4 [bD x] = .ok (if x.f then .tup [.int (x.a + x.ms.sum), .int (x.b + x.os.sum)] else .tup [.int (x.b + x.os.sum), .int (x.a + x.ms.sum)]) [] := by
  rw [lev_call (df := d4) rfl rfl]
  simp only [d4, b4]
  have i0 : ∀ a b : D, idxD (.tup [a, b]) (.int 0) = some a := fun a b => rfl
  have i1 : ∀ a b : D, idxD (.tup [a, b]) (.int 1) = some b := fun a b => rfl
  cases hx : x.f <;> simp [startE, get_lit, Env.put, outsOf, okLen, setO, isNew, kindOf, z_nil, z_cons, z_set, z_thaw, z_bind, z_par2, z_expr, z_ret, z_retO, z_raise, z_ite, z_fors, z_whil, z_brk, z_cont, z_pass, z_setFld, z_augIx, z_setIx, z_bindX, tg_nil, tg_nm, tg_ix, y_var, y_con, y_glob, y_op, y_cmp, y_idx, y_chain, y_no, y_neg, y_and, y_or, y_ite, y_tup, y_lst, y_bf, y_mm, y_lm, y_call, y_meth, y_make, y_fld, y_nil, y_cons, y_seq, y_c0, y_c1, y_slice, y_p0, y_p1, y_enum, y_rng1, y_rng2, y_lcTurn, f0, f1, f2, f3, sum_tup, i0, i1, hx]
end Bh.K09
/-! text P2 -/
set_option linter.all false
set_option maxRecDepth 100000
set_option maxHeartbeats 4000000
/-! P2: sowing, by the ring. -/
namespace Bh.K09
def bump (r : List Int) (i : Nat) : List Int := r.set i (r.getD i 0 + 1)
/-- j seeds from behind h on -/
def sowR (r : List Int) (h : Nat) : Nat → List Int
  | 0 => r
  | j + 1 => bump (sowR r h j) ((h + j + 1) % r.length)
theorem bump_len (r : List Int) (i : Nat) : (bump r i).length = r.length := by simp [bump]
theorem sowR_len (r : List Int) (h : Nat) : ∀ j, (sowR r h j).length = r.length
  | 0 => rfl
  | j + 1 => by rw [sowR, bump_len, sowR_len r h j]
theorem ix_at {r : List Int} {i : Nat} (h : i < r.length) : idxD (.lst (iz r)) (.int (i : Nat)) = some (.int (r.getD i 0)) := by
  show atI (iz r) (i : Int) = _
  have h1 : (i : Int) < ((iz r).length : Nat) := by rw [ints_len]; omega
  unfold atI ixN
  rw [if_pos (by omega), if_pos h1]
  simp [iz, h, List.getD_eq_getElem?_getD]
theorem pk_at {r : List Int} {i : Nat} (h : i < r.length) : pickAt (.lst (iz r)) (.int (i : Nat)) = some (.int (r.getD i 0)) := by
  rw [pick_lst, if_pos (by omega)]
  simp [iz, h, List.getD_eq_getElem?_getD]
theorem st_at {r : List Int} {i s : Nat} {v : Int} {env : Env} (h : i < r.length) (he : env.get s = some (.lst (iz r))) : setAt s (.int (i : Nat)) (.int v) env = .nx (env.put s (.lst (iz (r.set i v)))) := by
  rw [setAt_lst he]
  have h1 : (i : Int) < ((iz r).length : Nat) := by rw [ints_len]; omega
  unfold ixN
  rw [if_pos (by omega), if_pos h1]
  simp [iz, List.map_set]
theorem mod1 {a l : Nat} (h : 0 < l) : opD .mod (.int ((a : Int) + 1)) (.int (l : Int)) = some (.int (((a + 1) % l : Nat) : Int)) := by
  show (if decide (0 < (l : Int)) then some (D.int (((a : Int) + 1) % (l : Int))) else none) = _
  rw [if_pos (by simp; omega)]
  congr 2
theorem mod2 {a b l : Nat} (h : 0 < l) : opD .mod (.int ((a : Int) + (1 + (b : Int)))) (.int (l : Int)) = some (.int (((a + b + 1) % l : Nat) : Int)) := by
  show (if decide (0 < (l : Int)) then some (D.int (((a : Int) + (1 + (b : Int))) % (l : Int))) else none) = _
  rw [if_pos (by simp; omega)]
  have : ((a : Int) + (1 + (b : Int))) = ((a + b + 1 : Nat) : Int) := by omega
  rw [this]
  congr 2
theorem mod3 {a b l : Nat} (h : 0 < l) : opD .mod (.int ((a : Int) + (b : Int))) (.int (l : Int)) = some (.int (((a + b) % l : Nat) : Int)) := by
  show (if decide (0 < (l : Int)) then some (D.int (((a : Int) + (b : Int)) % (l : Int))) else none) = _
  rw [if_pos (by simp; omega)]
  congr 2
def bodyP : List S := [.set 8 (.op .mod (.cons (.op .add (.cons (.var 8) (.cons (.con (.int 1)) .nil))) (.cons (.bf .len (.cons (.own 3) .nil)) .nil))), .augIx 3 .add (.var 8) (.con (.int 1))]
def envP (s : D) (hole size : D) (r : List Int) (k : Option D) (m : D) (p : Nat) : Env := [some s, some hole, some size, some (.lst (iz r)), k, none, none, some m, some (.int (p : Nat)), none, none]
theorem turnP (cf : CF) (s hole size m : D) (r : List Int) (k : Option D) (p : Nat) (h : 0 < r.length) : evSs pg.tb cf bodyP (envP s hole size r k m p) = .nx (envP s hole size (bump r ((p + 1) % r.length)) k m ((p + 1) % r.length)) := by
  have hl : (p + 1) % r.length < r.length := Nat.mod_lt _ h
  have hm := mod1 (a := p) h
  generalize (p + 1) % r.length = q at hl hm ⊢
  unfold bodyP envP
  have hst : ∀ (v : Int) (env : Env), env.get 3 = some (.lst (iz r)) → setAt 3 (.int (q : Int)) (.int v) env = .nx (env.put 3 (.lst (iz (r.set q v)))) := fun v env he => st_at hl he
  simp [startE, get_lit, Env.put, outsOf, okLen, setO, isNew, kindOf, z_nil, z_cons, z_set, z_thaw, z_bind, z_par2, z_expr, z_ret, z_retO, z_raise, z_ite, z_fors, z_whil, z_brk, z_cont, z_pass, z_setFld, z_augIx, z_setIx, z_bindX, tg_nil, tg_nm, tg_ix, y_var, y_con, y_glob, y_op, y_cmp, y_idx, y_chain, y_no, y_neg, y_and, y_or, y_ite, y_tup, y_lst, y_bf, y_mm, y_lm, y_call, y_meth, y_make, y_fld, y_nil, y_cons, y_seq, y_c0, y_c1, y_slice, y_p0, y_p1, y_enum, y_rng1, y_rng2, y_lcTurn, ints_len, hm, pk_at hl, bump, -pick_lst]
  rw [hst _ _ rfl]
  simp [Env.put]
theorem loopP (cf : CF) (s hole size m : D) (r : List Int) (h : Nat) (hr : h < r.length) : ∀ (l : List D) (j : Nat) (k : Option D), ∃ k', forL (.one 4) (evSs pg.tb cf bodyP) l (envP s hole size (sowR r h j) k m ((h + j) % r.length)) = .nx (envP s hole size (sowR r h (j + l.length)) k' m ((h + j + l.length) % r.length))
  | [], j, k => ⟨k, rfl⟩
  | d :: l, j, k => by
    obtain ⟨k', ih⟩ := loopP cf s hole size m r h hr l (j + 1) (some d)
    refine ⟨k', ?_⟩
    rw [forL, bind_one]
    have e0 : (envP s hole size (sowR r h j) k m ((h + j) % r.length)).put 4 d = envP s hole size (sowR r h j) (some d) m ((h + j) % r.length) := rfl
    have hp : 0 < (sowR r h j).length := by rw [sowR_len]; omega
    have t := turnP cf s hole size m (sowR r h j) (some d) ((h + j) % r.length) hp
    rw [sowR_len] at t
    have e1 : ((h + j) % r.length + 1) % r.length = (h + j + 1) % r.length := by rw [Nat.mod_add_mod]
    rw [e1] at t
    simp only [e0, t]
    have e2 : j + (d :: l).length = j + 1 + l.length := by simp; omega
    have e3 : h + j + (d :: l).length = h + (j + 1) + l.length := by simp; omega
    rw [e2, e3]
    exact ih
def bodyL : List S := [.setIx 9 (.op .mod (.cons (.op .add (.cons (.var 1) (.cons (.var 3) .nil))) (.cons (.bf .len (.cons (.own 9) .nil)) .nil))) (.op .add (.cons (.idx (.cons (.own 9) (.cons (.op .mod (.cons (.op .add (.cons (.var 1) (.cons (.var 3) .nil))) (.cons (.bf .len (.cons (.own 9) .nil)) .nil))) .nil))) (.cons (.con (.int 1)) .nil)))]
def envL (st hole size mine others stored theirs : D) (r : List Int) (k last : Option D) (m : D) : Env := [some st, some hole, some size, k, last, some mine, some others, some stored, some theirs, some (.lst (iz r)), some m]
theorem turnL (cf : CF) (st size mine others stored theirs m : D) (h j : Nat) (r : List Int) (hp : 0 < r.length) : evSs pg.tb cf bodyL (envL st (.int (h : Nat)) size mine others stored theirs r (some (.int (1 + (j : Int)))) none m) = .nx (envL st (.int (h : Nat)) size mine others stored theirs (bump r ((h + j + 1) % r.length)) (some (.int (1 + (j : Int)))) none m) := by
  have hl : (h + j + 1) % r.length < r.length := Nat.mod_lt _ hp
  have hm := mod2 (a := h) (b := j) hp
  generalize (h + j + 1) % r.length = q at hl hm ⊢
  unfold bodyL envL
  have hst : ∀ (v : Int) (env : Env), env.get 9 = some (.lst (iz r)) → setAt 9 (.int (q : Int)) (.int v) env = .nx (env.put 9 (.lst (iz (r.set q v)))) := fun v env he => st_at hl he
  simp [startE, get_lit, Env.put, outsOf, okLen, setO, isNew, kindOf, z_nil, z_cons, z_set, z_thaw, z_bind, z_par2, z_expr, z_ret, z_retO, z_raise, z_ite, z_fors, z_whil, z_brk, z_cont, z_pass, z_setFld, z_augIx, z_setIx, z_bindX, tg_nil, tg_nm, tg_ix, y_var, y_con, y_glob, y_op, y_cmp, y_idx, y_chain, y_no, y_neg, y_and, y_or, y_ite, y_tup, y_lst, y_bf, y_mm, y_lm, y_call, y_meth, y_make, y_fld, y_nil, y_cons, y_seq, y_c0, y_c1, y_slice, y_p0, y_p1, y_enum, y_rng1, y_rng2, y_lcTurn, ints_len, hm, ix_at hl, bump]
  rw [hst _ _ rfl]
  simp [Env.put]
theorem loopL' (cf : CF) (st size mine others stored theirs m : D) (h : Nat) (r : List Int) (hr : h < r.length) : ∀ (n j : Nat) (k : Option D), ∃ k', forL (.one 3) (evSs pg.tb cf bodyL) ((List.range' j n).map fun (i : Nat) => D.int (1 + (i : Int))) (envL st (.int (h : Nat)) size mine others stored theirs (sowR r h j) k none m) = .nx (envL st (.int (h : Nat)) size mine others stored theirs (sowR r h (j + n)) k' none m)
  | 0, j, k => ⟨k, rfl⟩
  | n + 1, j, k => by
    obtain ⟨k', ih⟩ := loopL' cf st size mine others stored theirs m h r hr n (j + 1) (some (.int (1 + (j : Int))))
    refine ⟨k', ?_⟩
    rw [List.range'_succ, List.map_cons, forL, bind_one]
    have e0 : (envL st (.int (h : Nat)) size mine others stored theirs (sowR r h j) k none m).put 3 (.int (1 + (j : Int))) = envL st (.int (h : Nat)) size mine others stored theirs (sowR r h j) (some (.int (1 + (j : Int)))) none m := rfl
    have hp : 0 < (sowR r h j).length := by rw [sowR_len]; omega
    have t := turnL cf st size mine others stored theirs m h j (sowR r h j) hp
    rw [sowR_len] at t
    simp only [e0, t]
    have e2 : j + (n + 1) = j + 1 + n := by omega
    rw [e2]
    exact ih
/-- what is taken -/
def capt (n last : Nat) (r : List Int) : List Int := if last < n ∧ r.getD last 0 = 1 ∧ 0 < r.getD (2 * n - last) 0 then ((r.set n (r.getD n 0 + (r.getD (2 * n - last) 0 + 1))).set (2 * n - last) 0).set last 0 else r
theorem capt_len (n last : Nat) (r : List Int) : (capt n last r).length = r.length := by
  unfold capt; split <;> simp
def ring (x : B) : List Int := x.ms ++ [x.a] ++ x.os
/-- the ring behind the turn -/
def fin (n : Nat) (x : B) (h : Nat) : List Int := capt n ((h + (x.ms.getD h 0).toNat) % (2 * n + 1)) (sowR ((ring x).set h 0) h (x.ms.getD h 0).toNat)
def sow (n : Nat) (x : B) (h : Nat) : B × Bool := if (h + (x.ms.getD h 0).toNat) % (2 * n + 1) = n then (⟨(fin n x h).take n, (fin n x h).drop (n + 1), (fin n x h).getD n 0, x.b, x.f⟩, true) else (⟨(fin n x h).drop (n + 1), (fin n x h).take n, x.b, (fin n x h).getD n 0, !x.f⟩, false)
theorem cut_lo {r : List Int} {n : Nat} (h : n ≤ r.length) : sliceD (.lst (iz r)) none (some (n : Int)) = some (.lst (iz (r.take n))) := by
  show some (D.lst (cut (iz r) none (some (n : Int)))) = _
  unfold cut sIx
  simp only [ints_len]
  rw [if_neg (by omega)]
  simp [iz, List.map_take, Nat.min_eq_left h]
theorem cut_hi {r : List Int} {n : Nat} (h : n < r.length) : sliceD (.lst (iz r)) (some ((n : Int) + 1)) none = some (.lst (iz (r.drop (n + 1)))) := by
  show some (D.lst (cut (iz r) (some ((n : Int) + 1)) none)) = _
  unfold cut sIx
  simp only [ints_len]
  rw [if_neg (by omega)]
  have e : ((n : Int) + 1).toNat = n + 1 := by omega
  rw [e, Nat.min_eq_left (by omega), List.take_of_length_le (by simp [ints_len])]
  simp [iz, List.map_drop]
end Bh.K09
/-! text P3 -/
set_option linter.all false
set_option maxRecDepth 100000
set_option maxHeartbeats 2000000
/-! P3: seeds are not lost. -/
namespace Bh.K09
theorem set_sum : ∀ {r : List Int} {i : Nat} {v : Int}, i < r.length → (r.set i v).sum = r.sum - r.getD i 0 + v
  | [], i, v, h => by simp at h
  | x :: r, 0, v, h => by simp [List.set_cons_zero, List.getD_eq_getElem?_getD]; omega
  | x :: r, i + 1, v, h => by
    have ih := set_sum (r := r) (i := i) (v := v) (by simpa using h)
    simp only [List.set_cons_succ, List.sum_cons, ih, List.getD_cons_succ]
    omega
theorem pos_set {r : List Int} {i : Nat} {v : Int} (h : ∀ y ∈ r, 0 ≤ y) (hv : 0 ≤ v) : ∀ y ∈ r.set i v, 0 ≤ y := fun y hy => by
  rcases List.mem_or_eq_of_mem_set hy with z | z
  · exact h y z
  · omega
theorem getD_pos {r : List Int} (h : ∀ y ∈ r, 0 ≤ y) (i : Nat) : 0 ≤ r.getD i 0 := by
  rw [List.getD_eq_getElem?_getD]
  cases e : r[i]? with
  | none => simp
  | some y => exact h y (List.mem_of_getElem? e)
theorem getD_set {r : List Int} {i j : Nat} {v : Int} (h : i ≠ j) : (r.set i v).getD j 0 = r.getD j 0 := by
  simp [List.getD_eq_getElem?_getD, List.getElem?_set_ne h]
theorem getD_set_self {r : List Int} {i : Nat} {v : Int} (h : i < r.length) : (r.set i v).getD i 0 = v := by
  simp [List.getD_eq_getElem?_getD, h]
theorem bump_sum {r : List Int} {i : Nat} (h : i < r.length) : (bump r i).sum = r.sum + 1 := by
  unfold bump; rw [set_sum h]; omega
theorem bump_pos {r : List Int} {i : Nat} (h : ∀ y ∈ r, 0 ≤ y) : ∀ y ∈ bump r i, 0 ≤ y := by
  have := getD_pos h i
  exact pos_set h (by omega)
theorem sowR_sum {r : List Int} {h : Nat} (hr : 0 < r.length) : ∀ j : Nat, (sowR r h j).sum = r.sum + j
  | 0 => by simp [sowR]
  | j + 1 => by
    rw [sowR, bump_sum (by rw [sowR_len]; exact Nat.mod_lt _ hr), sowR_sum hr j]
    push_cast; omega
theorem sowR_pos {r : List Int} {h : Nat} (hp : ∀ y ∈ r, 0 ≤ y) : ∀ j : Nat, ∀ y ∈ sowR r h j, 0 ≤ y
  | 0 => hp
  | j + 1 => bump_pos (sowR_pos hp j)
theorem capt_sum {n last : Nat} {r : List Int} (hl : r.length = 2 * n + 1) : (capt n last r).sum = r.sum := by
  unfold capt
  split
  · rename_i h
    obtain ⟨h1, h2, h3⟩ := h
    rw [set_sum (by simp; omega), set_sum (by simp; omega), set_sum (by omega), getD_set (by omega), getD_set (by omega), getD_set (by omega), h2]
    omega
  · rfl
theorem capt_pos {n last : Nat} {r : List Int} (hp : ∀ y ∈ r, 0 ≤ y) : ∀ y ∈ capt n last r, 0 ≤ y := by
  unfold capt
  split
  · have h1 := getD_pos hp n
    have h2 := getD_pos hp (2 * n - last)
    exact pos_set (pos_set (pos_set hp (by omega)) (by omega)) (by omega)
  · exact hp
theorem sum_pos : ∀ {l : List Int}, (∀ y ∈ l, 0 ≤ y) → 0 ≤ l.sum
  | [], _ => by simp
  | x :: l, h => by
    have h1 := h x (by simp)
    have h2 := sum_pos (l := l) fun y hy => h y (by simp [hy])
    rw [List.sum_cons]; omega
theorem sum_ge : ∀ {l : List Int}, (∀ y ∈ l, 0 ≤ y) → ∀ i : Nat, l.getD i 0 ≤ l.sum
  | [], _, i => by simp
  | x :: l, h, 0 => by
    have h2 := sum_pos (l := l) fun y hy => h y (by simp [hy])
    simp [List.getD_eq_getElem?_getD]; omega
  | x :: l, h, i + 1 => by
    have h1 := h x (by simp)
    have h2 := sum_ge (l := l) (fun y hy => h y (by simp [hy])) i
    rw [List.getD_cons_succ, List.sum_cons]; omega
theorem mem_mv : ∀ (l : List Int) (k h : Nat), h ∈ mv k l ↔ k ≤ h ∧ h - k < l.length ∧ 0 < l.getD (h - k) 0
  | [], k, h => by simp [mv]
  | x :: l, k, h => by
    rw [show mv k (x :: l) = if 0 < x then k :: mv (k + 1) l else mv (k + 1) l from rfl]
    have ih := mem_mv l (k + 1) h
    by_cases e : h = k
    · subst e
      by_cases hx : 0 < x
      · simp [hx]
      · simp only [hx, if_false, ih]
        constructor
        · rintro ⟨a, _⟩; omega
        · rintro ⟨_, _, c⟩
          simp at c
          omega
    · have e2 : ∀ (hk : k + 1 ≤ h), h - k = (h - (k + 1)) + 1 := fun _ => by omega
      by_cases hx : 0 < x
      · simp only [hx, if_true, List.mem_cons, e, false_or, ih]
        constructor
        · rintro ⟨a, b, c⟩
          rw [e2 a]
          refine ⟨by omega, by simpa using b, by simpa [List.getD_cons_succ] using c⟩
        · rintro ⟨a, b, c⟩
          have a' : k + 1 ≤ h := by omega
          rw [e2 a'] at b c
          exact ⟨a', by simpa using b, by simpa [List.getD_cons_succ] using c⟩
      · simp only [hx, if_false, ih]
        constructor
        · rintro ⟨a, b, c⟩
          rw [e2 a]
          refine ⟨by omega, by simpa using b, by simpa [List.getD_cons_succ] using c⟩
        · rintro ⟨a, b, c⟩
          have a' : k + 1 ≤ h := by omega
          rw [e2 a'] at b c
          exact ⟨a', by simpa using b, by simpa [List.getD_cons_succ] using c⟩
theorem parts_sum {r : List Int} {n : Nat} (h : n < r.length) : (r.take n).sum + r.getD n 0 + (r.drop (n + 1)).sum = r.sum := by
  have e : r = r.take n ++ r[n] :: r.drop (n + 1) := by rw [← List.drop_eq_getElem_cons h, List.take_append_drop]
  have e2 := congrArg List.sum e
  rw [List.sum_append, List.sum_cons] at e2
  have e3 : r.getD n 0 = r[n] := by simp [List.getD_eq_getElem?_getD, h]
  rw [e3]; omega
section
variable {x : B} {n : Nat} {t : Int}
theorem ring_len (h : Ok x n t) : (ring x).length = 2 * n + 1 := by
  have := h.m; have := h.o
  simp [ring]; omega
theorem ring_pos (h : Ok x n t) : ∀ y ∈ ring x, 0 ≤ y := by
  intro y hy
  simp only [ring, List.mem_append, List.mem_cons, List.not_mem_nil, or_false] at hy
  rcases hy with (hy | rfl) | hy
  · exact h.mp y hy
  · exact h.ap
  · exact h.op y hy
theorem ring_at (h : Ok x n t) {i : Nat} (hi : i < n) : (ring x).getD i 0 = x.ms.getD i 0 := by
  have := h.m
  simp [ring, List.getD_eq_getElem?_getD, List.getElem?_append, show i < x.ms.length by omega]
theorem fin_len (h : Ok x n t) (i : Nat) : (fin n x i).length = 2 * n + 1 := by
  unfold fin
  rw [capt_len, sowR_len, List.length_set, ring_len h]
theorem fin_pos (h : Ok x n t) (i : Nat) : ∀ y ∈ fin n x i, 0 ≤ y := capt_pos (sowR_pos (pos_set (ring_pos h) (by omega)) _)
theorem fin_sum (h : Ok x n t) {i : Nat} (hi : i < n) : (fin n x i).sum = (ring x).sum := by
  have hl := ring_len h
  have hp := getD_pos h.mp i
  unfold fin
  rw [capt_sum (by rw [sowR_len, List.length_set, hl]), sowR_sum (by rw [List.length_set, hl]; omega), set_sum (by omega), ring_at h hi]
  omega
theorem sow_ok' (h : Ok x n t) {i : Nat} (hi : i < n) : Ok (sow n x i).1 n t := by
  have hl := fin_len h i
  have hp := fin_pos h i
  have hs := fin_sum h hi
  have hr : (ring x).sum = x.ms.sum + x.a + x.os.sum := by simp [ring]; omega
  have ps := parts_sum (r := fin n x i) (n := n) (by omega)
  have h0 := h.sum
  unfold sow
  split
  · exact ⟨h.h1, h.h2, by simp [hl]; omega, by simp [hl]; omega, fun y hy => hp y (List.mem_of_mem_take hy), fun y hy => hp y (List.mem_of_mem_drop hy), getD_pos hp n, h.bp, by show _ = _; dsimp only; omega, h.t⟩
  · exact ⟨h.h1, h.h2, by simp [hl]; omega, by simp [hl]; omega, fun y hy => hp y (List.mem_of_mem_drop hy), fun y hy => hp y (List.mem_of_mem_take hy), h.bp, getD_pos hp n, by show _ = _; dsimp only; omega, h.t⟩
end
end Bh.K09
/-! text P4a -/
set_option linter.all false
set_option maxRecDepth 100000
set_option maxHeartbeats 8000000
/-! P4: the law's turn. -/
namespace Bh.K09
theorem range'_cast (m : Nat) : rangeD 1 ((m : Int) + 1) = (List.range' 0 m).map fun (i : Nat) => D.int (1 + (i : Int)) := by
  unfold rangeD
  have : ((m : Int) + 1 - 1).toNat = m := by omega
  rw [this, List.range_eq_range']
theorem mul2 {i : Int} : opD .mul (.int 2) (.int i) = some (.int (2 * i)) := rfl
theorem setL {a0 a1 a2 a5 a6 a7 a8 a10 : D} {k l : Option D} {r : List Int} {i : Nat} {v : Int} (h : i < r.length) : setAt 9 (.int (i : Nat)) (.int v) [some a0, some a1, some a2, k, l, some a5, some a6, some a7, some a8, some (.lst (iz r)), some a10] = .nx [some a0, some a1, some a2, k, l, some a5, some a6, some a7, some a8, some (.lst (iz (r.set i v))), some a10] := st_at h rfl
def captS : S := match b18[6]? with
  | some s => s
  | none => .pass
theorem capt18 (cf : CF) (st hole mine others stored theirs m : D) (n q : Nat) (r : List Int) (k : Option D) (hl : r.length = 2 * n + 1) (hlt : q < 2 * n + 1) :
    evS pg.tb cf captS [some st, some hole, some (.int (n : Nat)), k, some (.int (q : Nat)), some mine, some others, some stored, some theirs, some (.lst (iz r)), some m] = .nx [some st, some hole, some (.int (n : Nat)), k, some (.int (q : Nat)), some mine, some others, some stored, some theirs, some (.lst (iz (capt n q r))), some m] := by
  have hq := ix_at (r := r) (i := q) (by omega)
  have hn := ix_at (r := r) (i := n) (by omega)
  simp only [captS, b18, List.getElem?_cons_succ, List.getElem?_cons_zero]
  by_cases h1 : q < n
  · have hd1 : decide ((q : Int) < (n : Int)) = true := by simp; omega
    obtain ⟨c, hc⟩ : ∃ c : Nat, c = 2 * n - q := ⟨_, rfl⟩
    have hc1 : 2 * (n : Int) - (q : Int) = (c : Int) := by omega
    have hx := ix_at (r := r) (i := c) (by omega)
    by_cases h2 : r.getD q 0 = 1
    · by_cases h3 : 0 < r.getD c 0
      · have ec : capt n q r = ((r.set n (r.getD n 0 + 1 + r.getD c 0)).set q 0).set c 0 := by
          unfold capt
          rw [← hc, if_pos ⟨h1, h2, h3⟩, List.set_comm _ _ (show c ≠ q by omega)]
          congr 3; omega
        rw [ec]
        rw [h2] at hq
        generalize r.getD n 0 = vn at hn ⊢
        generalize r.getD c 0 = vc at hx h3 ⊢
        simp [startE, get_lit, Env.put, outsOf, okLen, setO, isNew, kindOf, z_nil, z_cons, z_set, z_thaw, z_bind, z_par2, z_expr, z_ret, z_retO, z_raise, z_ite, z_fors, z_whil, z_brk, z_cont, z_pass, z_setFld, z_augIx, z_setIx, z_bindX, tg_nil, tg_nm, tg_ix, y_var, y_con, y_glob, y_op, y_cmp, y_idx, y_chain, y_no, y_neg, y_and, y_or, y_ite, y_tup, y_lst, y_bf, y_mm, y_lm, y_call, y_meth, y_make, y_fld, y_nil, y_cons, y_seq, y_c0, y_c1, y_slice, y_p0, y_p1, y_enum, y_rng1, y_rng2, y_lcTurn, mul2, hc1, hq, hn, hx, h1, h3, setL, hl, show n < 2 * n + 1 by omega, show c < 2 * n + 1 by omega, hlt]
      · have ec : capt n q r = r := by
          unfold capt
          rw [← hc, if_neg (fun z => h3 z.2.2)]
        rw [ec]
        rw [h2] at hq
        generalize r.getD c 0 = vc at hx h3 ⊢
        simp [startE, get_lit, Env.put, outsOf, okLen, setO, isNew, kindOf, z_nil, z_cons, z_set, z_thaw, z_bind, z_par2, z_expr, z_ret, z_retO, z_raise, z_ite, z_fors, z_whil, z_brk, z_cont, z_pass, z_setFld, z_augIx, z_setIx, z_bindX, tg_nil, tg_nm, tg_ix, y_var, y_con, y_glob, y_op, y_cmp, y_idx, y_chain, y_no, y_neg, y_and, y_or, y_ite, y_tup, y_lst, y_bf, y_mm, y_lm, y_call, y_meth, y_make, y_fld, y_nil, y_cons, y_seq, y_c0, y_c1, y_slice, y_p0, y_p1, y_enum, y_rng1, y_rng2, y_lcTurn, mul2, hc1, hq, hx, h1, h3]
    · have ec : capt n q r = r := by
        unfold capt
        rw [if_neg (fun z => h2 z.2.1)]
      rw [ec]
      generalize r.getD q 0 = vq at hq h2 ⊢
      generalize r.getD c 0 = vc at hx ⊢
      have h2b : (vq == 1) = false := by simpa using h2
      simp [startE, get_lit, Env.put, outsOf, okLen, setO, isNew, kindOf, z_nil, z_cons, z_set, z_thaw, z_bind, z_par2, z_expr, z_ret, z_retO, z_raise, z_ite, z_fors, z_whil, z_brk, z_cont, z_pass, z_setFld, z_augIx, z_setIx, z_bindX, tg_nil, tg_nm, tg_ix, y_var, y_con, y_glob, y_op, y_cmp, y_idx, y_chain, y_no, y_neg, y_and, y_or, y_ite, y_tup, y_lst, y_bf, y_mm, y_lm, y_call, y_meth, y_make, y_fld, y_nil, y_cons, y_seq, y_c0, y_c1, y_slice, y_p0, y_p1, y_enum, y_rng1, y_rng2, y_lcTurn, mul2, hc1, hq, hx, h1, h2b]
  · have ec : capt n q r = r := by
      unfold capt
      rw [if_neg (fun z => h1 z.1)]
    rw [ec]
    simp [startE, get_lit, Env.put, outsOf, okLen, setO, isNew, kindOf, z_nil, z_cons, z_set, z_thaw, z_bind, z_par2, z_expr, z_ret, z_retO, z_raise, z_ite, z_fors, z_whil, z_brk, z_cont, z_pass, z_setFld, z_augIx, z_setIx, z_bindX, tg_nil, tg_nm, tg_ix, y_var, y_con, y_glob, y_op, y_cmp, y_idx, y_chain, y_no, y_neg, y_and, y_or, y_ite, y_tup, y_lst, y_bf, y_mm, y_lm, y_call, y_meth, y_make, y_fld, y_nil, y_cons, y_seq, y_c0, y_c1, y_slice, y_p0, y_p1, y_enum, y_rng1, y_rng2, y_lcTurn, h1]
def endS : List S := b18.drop 7
theorem end18 (cf : CF) (st hole mine others stored m : D) (n q : Nat) (b : Int) (r : List Int) (k : Option D) (hl : r.length = 2 * n + 1) :
    evSs pg.tb cf endS [some st, some hole, some (.int (n : Nat)), k, some (.int (q : Nat)), some mine, some others, some stored, some (.int b), some (.lst (iz r)), some m] =
      .ret (if q = n then .tup [.tup [.lst (iz (r.take n)), .lst (iz (r.drop (n + 1))), .int (r.getD n 0), .int b], .bl true] else .tup [.tup [.lst (iz (r.drop (n + 1))), .lst (iz (r.take n)), .int b, .int (r.getD n 0)], .bl false])
        [some st, some hole, some (.int (n : Nat)), k, some (.int (q : Nat)), some mine, some others, some stored, some (.int b), some (.lst (iz r)), some m] := by
  have hn := ix_at (r := r) (i := n) (by omega)
  have c1 := cut_lo (r := r) (n := n) (by omega)
  have c2 := cut_hi (r := r) (n := n) (by omega)
  generalize r.getD n 0 = vn at hn ⊢
  simp only [endS, b18, List.drop]
  by_cases h : q = n
  · subst h
    simp [startE, get_lit, Env.put, outsOf, okLen, setO, isNew, kindOf, z_nil, z_cons, z_set, z_thaw, z_bind, z_par2, z_expr, z_ret, z_retO, z_raise, z_ite, z_fors, z_whil, z_brk, z_cont, z_pass, z_setFld, z_augIx, z_setIx, z_bindX, tg_nil, tg_nm, tg_ix, y_var, y_con, y_glob, y_op, y_cmp, y_idx, y_chain, y_no, y_neg, y_and, y_or, y_ite, y_tup, y_lst, y_bf, y_mm, y_lm, y_call, y_meth, y_make, y_fld, y_nil, y_cons, y_seq, y_c0, y_c1, y_slice, y_p0, y_p1, y_enum, y_rng1, y_rng2, y_lcTurn, hn, c1, c2]
  · have h2 : ((q : Int) == (n : Int)) = false := by simp; omega
    simp [startE, get_lit, Env.put, outsOf, okLen, setO, isNew, kindOf, z_nil, z_cons, z_set, z_thaw, z_bind, z_par2, z_expr, z_ret, z_retO, z_raise, z_ite, z_fors, z_whil, z_brk, z_cont, z_pass, z_setFld, z_augIx, z_setIx, z_bindX, tg_nil, tg_nm, tg_ix, y_var, y_con, y_glob, y_op, y_cmp, y_idx, y_chain, y_no, y_neg, y_and, y_or, y_ite, y_tup, y_lst, y_bf, y_mm, y_lm, y_call, y_meth, y_make, y_fld, y_nil, y_cons, y_seq, y_c0, y_c1, y_slice, y_p0, y_p1, y_enum, y_rng1, y_rng2, y_lcTurn, hn, c1, c2, h, h2]
theorem z_app {tb : Tb} {cf : CF} : ∀ (a b : List S) (env : Env), evSs tb cf (a ++ b) env = (evSs tb cf a env).seq fun e => evSs tb cf b e
  | [], b, env => by rw [z_nil]; rfl
  | s :: a, b, env => by
    rw [List.cons_append, z_cons, z_cons]
    cases evS tb cf s env with
    | nx e => exact z_app a b e
    | _ => rfl
def pre18 : List S := b18.take 4
def loopS18 : S := .fors (.one 3) (.rng2 (.cons (.con (.int 1)) (.cons (.op .add (.cons (.var 10) (.cons (.con (.int 1)) .nil))) .nil))) bodyL
def lastS18 : S := .set 4 (.op .mod (.cons (.op .add (.cons (.var 1) (.cons (.var 10) .nil))) (.cons (.bf .len (.cons (.own 9) .nil)) .nil)))
theorem b18_eq : b18 = pre18 ++ (loopS18 :: lastS18 :: captS :: endS) := rfl
theorem setL0 {a0 a1 a2 a5 a6 a7 a8 a10 : D} {k l : Option D} {r : List Int} {i : Nat} {v : Int} (h : i < r.length) {env : Env} (he : env = [some a0, some a1, some a2, k, l, some a5, some a6, some a7, some a8, some (.lst (iz r)), some a10]) : setAt 9 (.int (i : Nat)) (.int v) env = .nx [some a0, some a1, some a2, k, l, some a5, some a6, some a7, some a8, some (.lst (iz (r.set i v))), some a10] := by subst he; exact setL h
section
variable {x : B} {n : Nat} {t : Int}
theorem many_le (h : Ok x n t) (i : Nat) : x.ms.getD i 0 ≤ 24 := by
  have h1 := sum_ge h.mp i
  have h2 : 0 ≤ x.os.sum := sum_pos h.op
  have := h.sum; have := h.t; have := h.ap; have := h.bp
  omega
theorem pre18_ok (h : Ok x n t) (cf : CF) {i : Nat} (hi : i < n) : evSs pg.tb cf pre18 [some (sD x), some (.int (i : Nat)), none, none, none, none, none, none, none, none, none] = .nx (envL (sD x) (.int (i : Nat)) (.int (n : Nat)) (.lst (iz x.ms)) (.lst (iz x.os)) (.int x.a) (.int x.b) ((ring x).set i 0) none none (.int (x.ms.getD i 0))) := by
  have e1 := h.m
  have e2 := h.o
  have h2 := h.h2
  have hx := ix_at (r := x.ms) (i := i) (by omega)
  have hr := ring_len h
  have er : iz x.ms ++ (D.int x.a :: iz x.os) = iz (ring x) := by simp [iz, ring]
  simp only [pre18, b18, List.take, envL]
  generalize x.ms.getD i 0 = vm at hx ⊢
  simp [startE, get_lit, Env.put, outsOf, okLen, setO, isNew, kindOf, z_nil, z_cons, z_set, z_thaw, z_bind, z_par2, z_expr, z_ret, z_retO, z_raise, z_ite, z_fors, z_whil, z_brk, z_cont, z_pass, z_setFld, z_augIx, z_setIx, z_bindX, tg_nil, tg_nm, tg_ix, y_var, y_con, y_glob, y_op, y_cmp, y_idx, y_chain, y_no, y_neg, y_and, y_or, y_ite, y_tup, y_lst, y_bf, y_mm, y_lm, y_call, y_meth, y_make, y_fld, y_nil, y_cons, y_seq, y_c0, y_c1, y_slice, y_p0, y_p1, y_enum, y_rng1, y_rng2, y_lcTurn, sD, bindT, hx, ints_len, e1, e2, er, show n + 1 ≤ 16777216 by omega, show n + 1 + n ≤ 16777216 by omega, setL, hr, show i < 2 * n + 1 by omega]
end
end Bh.K09
/-! text P4c -/
set_option linter.all false
set_option maxRecDepth 100000
namespace Bh.K09
abbrev envM (x : B) (i n m : Nat) (r : List Int) (k last : Option D) : Env := envL (sD x) (.int (i : Nat)) (.int (n : Nat)) (.lst (iz x.ms)) (.lst (iz x.os)) (.int x.a) (.int x.b) r k last (.int (m : Nat))
theorem arg18 (cf : CF) (a : Int) (env : Env) (h : env.get 10 = some (.int a)) : evEs pg.tb cf (.cons (.con (.int 1)) (.cons (.op .add (.cons (.var 10) (.cons (.con (.int 1)) .nil))) .nil)) env = .ok [.int 1, .int (a + 1)] env := by
  simp only [y_cons, y_nil, y_con, y_op, y_var, late_con, late_op, late_var, lateK_none, bind_ok, h, of_some, two2_2, add_int]
theorem iter18 (cf : CF) (a : Int) (env : Env) (l : List D) (h : env.get 10 = some (.int a)) (hrng : rngD (.int 1) (.int (a + 1)) = some l) : evI pg.tb cf (.rng2 (.cons (.con (.int 1)) (.cons (.op .add (.cons (.var 10) (.cons (.con (.int 1)) .nil))) .nil))) env = .ok l env := by
  rw [y_rng2, arg18 cf a env h, bind_ok, two2_2, hrng, of_some]
theorem rng18 {m : Nat} (h : m ≤ 24) : rngOk 1 ((m : Int) + 1) = true := by
  have e : (2 : Int) ^ 62 = 4611686018427387904 := rfl
  unfold rngOk
  rw [e]
  simp only [Bool.and_eq_true, decide_eq_true_eq]
  omega
theorem hrng18 {m : Nat} (h : m ≤ 24) : rngD (.int 1) (.int ((m : Int) + 1)) = some (rangeD 1 ((m : Int) + 1)) := by rw [rngD_int, if_pos (rng18 h)]
theorem loop18 (cf : CF) (x : B) (i n m : Nat) (r : List Int) (l : List D) (hrng : rngD (.int 1) (.int ((m : Int) + 1)) = some l) (hl : l = (List.range' 0 m).map fun (i : Nat) => D.int (1 + (i : Int))) (hr : i < r.length) : ∃ k', evS pg.tb cf loopS18 (envM x i n m r none none) = .nx (envM x i n m (sowR r i m) k' none) := by
  obtain ⟨k', hk⟩ := loopL' cf (sD x) (.int (n : Nat)) (.lst (iz x.ms)) (.lst (iz x.os)) (.int x.a) (.int x.b) (.int (m : Nat)) i r hr m 0 none
  rw [← hl] at hk
  refine ⟨k', ?_⟩
  rw [loopS18, z_fors, iter18 cf (m : Int) (envM x i n m r none none) l rfl hrng, o_ok]
  rw [Nat.zero_add] at hk
  exact hk
theorem last18 (cf : CF) (x : B) (i n m : Nat) (r : List Int) (k : Option D) (hl : r.length = 2 * n + 1) : evS pg.tb cf lastS18 (envM x i n m r k none) = .nx (envM x i n m r k (some (.int (((i + m) % (2 * n + 1) : Nat) : Int)))) := by
  have hq := mod3 (a := i) (b := m) (l := 2 * n + 1) (by omega)
  generalize (i + m) % (2 * n + 1) = q at hq ⊢
  have hl2 : ((iz r).length : Int) = ((2 * n + 1 : Nat) : Int) := by rw [ints_len, hl]
  simp only [lastS18, z_set, y_op, y_bf, y_cons, y_nil, y_var, late_op, late_bf, late_var, late_own, lateK_none, lateK_some, bind_ok, o_ok, get_lit, envL, List.getElem?_cons_succ, List.getElem?_cons_zero, Option.getD_some, of_some, two2_2, add_int, len_lst, hl2, hq, Env.put, List.set_cons_succ, List.set_cons_zero]
section
variable {x : B} {n : Nat} {t : Int}
theorem body18 (h : Ok x n t) (cf : CF) {i : Nat} (hi : i < n) : ∃ e, evSs pg.tb cf b18 [some (sD x), some (.int (i : Nat)), none, none, none, none, none, none, none, none, none] = .ret (.tup [sD (sow n x i).1, .bl (sow n x i).2]) e := by
  have hp := getD_pos h.mp i
  have hm := many_le h i
  obtain ⟨m, em⟩ : ∃ m : Nat, x.ms.getD i 0 = (m : Int) := ⟨(x.ms.getD i 0).toNat, by omega⟩
  have em2 : (x.ms.getD i 0).toNat = m := by omega
  have hr : ((ring x).set i 0).length = 2 * n + 1 := by rw [List.length_set, ring_len h]
  have hlt : (i + m) % (2 * n + 1) < 2 * n + 1 := Nat.mod_lt _ (by omega)
  have hpre := pre18_ok h cf hi
  rw [em] at hpre
  unfold sow fin
  rw [em2]
  generalize (ring x).set i 0 = r at *
  obtain ⟨k', hk⟩ := loop18 cf x i n m r _ (hrng18 (by omega)) (range'_cast m) (by omega)
  have hl : (sowR r i m).length = 2 * n + 1 := by rw [sowR_len, hr]
  have hq := last18 cf x i n m (sowR r i m) k' hl
  generalize sowR r i m = r2 at *
  generalize (i + m) % (2 * n + 1) = q at *
  have hc := capt18 cf (sD x) (.int (i : Nat)) (.lst (iz x.ms)) (.lst (iz x.os)) (.int x.a) (.int x.b) (.int (m : Nat)) n q r2 k' hl hlt
  have he := end18 cf (sD x) (.int (i : Nat)) (.lst (iz x.ms)) (.lst (iz x.os)) (.int x.a) (.int (m : Nat)) n q x.b (capt n q r2) k' (by rw [capt_len, hl])
  generalize capt n q r2 = r3 at *
  refine ⟨[some (sD x), some (.int (i : Nat)), some (.int (n : Nat)), k', some (.int (q : Nat)), some (.lst (iz x.ms)), some (.lst (iz x.os)), some (.int x.a), some (.int x.b), some (.lst (iz r3)), some (.int (m : Nat))], ?_⟩
  rw [b18_eq, z_app, hpre, seq_nx, z_cons, hk, seq_nx, z_cons, hq, seq_nx, z_cons]
  refine Eq.trans (congrArg (fun o => O.seq o _) hc) ?_
  rw [seq_nx, he]
  refine congrArg (fun d => O.ret d _) ?_
  split <;> rfl
theorem lsow_ok (h : Ok x n t) (k : Nat) {i : Nat} (hi : i < n) : (lev pg (k + 1)).c 0 18 [sD x, .int (i : Nat)] = .ok (.tup [sD (sow n x i).1, .bl (sow n x i).2]) [] := by
  obtain ⟨e, he⟩ := body18 h (lev pg k) hi
  rw [lev_call (df := d18) rfl rfl]
  show endD d18 (evSs pg.tb (lev pg k) b18 [some (sD x), some (.int (i : Nat)), none, none, none, none, none, none, none, none, none]) = _
  rw [he]
  rfl
end
end Bh.K09
/-! text P6 -/
set_option linter.all false
set_option maxRecDepth 100000
set_option maxHeartbeats 8000000
/-! P6: the board's turn. -/
namespace Bh.K09
theorem meth_ok (cf : CF) (x : B) {m f : Nat} {o : E} {es : Es} {env env1 env2 : Env} {ds : List D} {r : D} (hl : lateOf o = none) (ho : evE pg.tb cf o env = .ok (bD x) env1) (hm : pg.tb.meth 8 m = some f) (he : evEs pg.tb cf es env1 = .ok ds env2) (hc : cf.c 0 f (bD x :: ds) = .ok r []) (hb : lentOk (.cons o es) (bD x :: ds) r = true) :
    evE pg.tb cf (.meth m o es) env = .ok r env2 := by
  rw [y_meth, hl, lateK_none, ho, bind_ok]
  show onSome (pg.tb.meth 8 m) (fun f => (evEs pg.tb cf es env1).bind fun ds env => callRes (.cons o es) (bD x :: ds) env (cf.c 0 f (bD x :: ds))) = _
  rw [hm, onSome_some, he, bind_ok, hc, callRes_ok, hb]
  simp
theorem plains_nats : ∀ l : List Nat, plains (nats l) = true
  | [] => rfl
  | x :: l => by show (true && plains (nats l)) = true; rw [plains_nats l]; rfl
theorem notin_nats (h : Nat) (l : List Nat) : cmpD .notin (.int (h : Nat)) (.tup (nats l)) = some (!l.contains h) := by
  show (inD (.int (h : Nat)) (.tup (nats l))).map (!·) = _
  have e : inD (.int (h : Nat)) (.tup (nats l)) = some (l.contains h) := by
    show (if plain (.int (h : Nat)) && plains (nats l) && decide (dep (.int (h : Nat)) ≤ 100) then some ((nats l).any fun x => eqv x (.int (h : Nat))) else none) = _
    rw [plains_nats]
    simp only [plain, dep, Bool.and_self, Bool.true_and, Nat.zero_le, decide_true, if_true]
    congr 1
    unfold nats
    rw [List.any_map]
    induction l with
    | nil => rfl
    | cons y l ih =>
      rw [List.any_cons, ih, List.contains_cons]
      congr 1
      simp only [Function.comp, eqv]
      by_cases hy : y = h
      · subst hy; simp
      · have h1 : ((y : Int) == (h : Int)) = false := by simp; omega
        have h2 : (h == y) = false := by simp; omega
        rw [h1, h2]
  rw [e]; rfl
def captP : S := match b2[6]? with
  | some s => s
  | none => .pass
def endP : List S := b2.drop 7
def preP : List S := b2.take 5
def loopPS : S := .fors (.one 4) (.rng1 (.var 7)) bodyP
theorem b2_eq : b2 = preP ++ (loopPS :: captP :: endP) := rfl
theorem setP {a0 a1 a2 a7 a8 : D} {k l g c d : Option D} {r : List Int} {i : Nat} {v : Int} (h : i < r.length) : setAt 3 (.int (i : Nat)) (.int v) [some a0, some a1, some a2, some (.lst (iz r)), k, l, g, some a7, some a8, c, d] = .nx [some a0, some a1, some a2, some (.lst (iz (r.set i v))), k, l, g, some a7, some a8, c, d] := st_at h rfl
theorem captP_ok (cf : CF) (s hole m : D) (n q : Nat) (r : List Int) (k : Option D) (hl : r.length = 2 * n + 1) (hlt : q < 2 * n + 1) :
    evS pg.tb cf captP [some s, some hole, some (.int (n : Nat)), some (.lst (iz r)), k, none, none, some m, some (.int (q : Nat)), none, none] = .nx [some s, some hole, some (.int (n : Nat)), some (.lst (iz (capt n q r))), k, none, none, some m, some (.int (q : Nat)), none, none] := by
  have hq := ix_at (r := r) (i := q) (by omega)
  have hn := pk_at (r := r) (i := n) (by omega)
  simp only [captP, b2, List.getElem?_cons_succ, List.getElem?_cons_zero]
  by_cases h1 : q < n
  · obtain ⟨c, hc⟩ : ∃ c : Nat, c = 2 * n - q := ⟨_, rfl⟩
    have hc1 : 2 * (n : Int) - (q : Int) = (c : Int) := by omega
    have hx := ix_at (r := r) (i := c) (by omega)
    by_cases h2 : r.getD q 0 = 1
    · by_cases h3 : 0 < r.getD c 0
      · have ec : capt n q r = ((r.set n (r.getD n 0 + (r.getD c 0 + 1))).set c 0).set q 0 := by
          unfold capt
          rw [← hc, if_pos ⟨h1, h2, h3⟩]
        rw [ec]
        rw [h2] at hq
        generalize r.getD n 0 = vn at hn ⊢
        generalize r.getD c 0 = vc at hx h3 ⊢
        simp [startE, get_lit, Env.put, outsOf, okLen, setO, isNew, kindOf, z_nil, z_cons, z_set, z_thaw, z_bind, z_par2, z_expr, z_ret, z_retO, z_raise, z_ite, z_fors, z_whil, z_brk, z_cont, z_pass, z_setFld, z_augIx, z_setIx, z_bindX, tg_nil, tg_nm, tg_ix, y_var, y_con, y_glob, y_op, y_cmp, y_idx, y_chain, y_no, y_neg, y_and, y_or, y_ite, y_tup, y_lst, y_bf, y_mm, y_lm, y_call, y_meth, y_make, y_fld, y_nil, y_cons, y_seq, y_c0, y_c1, y_slice, y_p0, y_p1, y_enum, y_rng1, y_rng2, y_lcTurn, mul2, hc1, hq, hn, hx, h1, h3, setP, hl, show n < 2 * n + 1 by omega, show c < 2 * n + 1 by omega, hlt, -pick_lst]
      · have ec : capt n q r = r := by
          unfold capt
          rw [← hc, if_neg (fun z => h3 z.2.2)]
        rw [ec]
        rw [h2] at hq
        generalize r.getD c 0 = vc at hx h3 ⊢
        simp [startE, get_lit, Env.put, outsOf, okLen, setO, isNew, kindOf, z_nil, z_cons, z_set, z_thaw, z_bind, z_par2, z_expr, z_ret, z_retO, z_raise, z_ite, z_fors, z_whil, z_brk, z_cont, z_pass, z_setFld, z_augIx, z_setIx, z_bindX, tg_nil, tg_nm, tg_ix, y_var, y_con, y_glob, y_op, y_cmp, y_idx, y_chain, y_no, y_neg, y_and, y_or, y_ite, y_tup, y_lst, y_bf, y_mm, y_lm, y_call, y_meth, y_make, y_fld, y_nil, y_cons, y_seq, y_c0, y_c1, y_slice, y_p0, y_p1, y_enum, y_rng1, y_rng2, y_lcTurn, mul2, hc1, hq, hx, h1, h3]
    · have ec : capt n q r = r := by
        unfold capt
        rw [if_neg (fun z => h2 z.2.1)]
      rw [ec]
      generalize r.getD q 0 = vq at hq h2 ⊢
      generalize r.getD c 0 = vc at hx ⊢
      have h2b : (vq == 1) = false := by simpa using h2
      simp [startE, get_lit, Env.put, outsOf, okLen, setO, isNew, kindOf, z_nil, z_cons, z_set, z_thaw, z_bind, z_par2, z_expr, z_ret, z_retO, z_raise, z_ite, z_fors, z_whil, z_brk, z_cont, z_pass, z_setFld, z_augIx, z_setIx, z_bindX, tg_nil, tg_nm, tg_ix, y_var, y_con, y_glob, y_op, y_cmp, y_idx, y_chain, y_no, y_neg, y_and, y_or, y_ite, y_tup, y_lst, y_bf, y_mm, y_lm, y_call, y_meth, y_make, y_fld, y_nil, y_cons, y_seq, y_c0, y_c1, y_slice, y_p0, y_p1, y_enum, y_rng1, y_rng2, y_lcTurn, mul2, hc1, hq, hx, h1, h2b]
  · have ec : capt n q r = r := by
      unfold capt
      rw [if_neg (fun z => h1 z.1)]
    rw [ec]
    simp [startE, get_lit, Env.put, outsOf, okLen, setO, isNew, kindOf, z_nil, z_cons, z_set, z_thaw, z_bind, z_par2, z_expr, z_ret, z_retO, z_raise, z_ite, z_fors, z_whil, z_brk, z_cont, z_pass, z_setFld, z_augIx, z_setIx, z_bindX, tg_nil, tg_nm, tg_ix, y_var, y_con, y_glob, y_op, y_cmp, y_idx, y_chain, y_no, y_neg, y_and, y_or, y_ite, y_tup, y_lst, y_bf, y_mm, y_lm, y_call, y_meth, y_make, y_fld, y_nil, y_cons, y_seq, y_c0, y_c1, y_slice, y_p0, y_p1, y_enum, y_rng1, y_rng2, y_lcTurn, h1]
theorem endP_ok (cf : CF) (x y : B) (hole m : D) (n q : Nat) (r : List Int) (k : Option D) (hl : r.length = 2 * n + 1) (hy : y = if q = n then ⟨r.take n, r.drop (n + 1), r.getD n 0, x.b, x.f⟩ else ⟨r.drop (n + 1), r.take n, x.b, r.getD n 0, !x.f⟩)
    (hmk : ∀ {es : Es} {env e2 : Env}, evEs pg.tb cf es env = .ok [.lst (iz y.ms), .lst (iz y.os), .tup [.int y.a, .int y.b], .bl y.f] e2 → lentOk es [.lst (iz y.ms), .lst (iz y.os), .tup [.int y.a, .int y.b], .bl y.f] (bD y) = true → evE pg.tb cf (.make 8 es) env = .ok (bD y) e2) :
    ∃ e, evSs pg.tb cf endP [some (bD x), some hole, some (.int (n : Nat)), some (.lst (iz r)), k, none, none, some m, some (.int (q : Nat)), none, none] = .ret (.tup [bD y, .bl (decide (q = n))]) e := by
  have hn := ix_at (r := r) (i := n) (by omega)
  have c1 := cut_lo (r := r) (n := n) (by omega)
  have c2 := cut_hi (r := r) (n := n) (by omega)
  have i0 : ∀ a b : D, idxD (.tup [a, b]) (.int 0) = some a := fun a b => rfl
  have i1 : ∀ a b : D, idxD (.tup [a, b]) (.int 1) = some b := fun a b => rfl
  generalize r.getD n 0 = vn at hn hy
  simp only [endP, b2, List.drop]
  by_cases h : q = n
  · subst h
    rw [if_pos rfl] at hy
    have mk := @hmk (.cons (.var 9) (.cons (.var 10) (.cons (.var 6) (.cons (.fld (.cons (.var 0) .nil) 3) .nil)))) [some (bD x), some hole, some (.int (q : Nat)), some (.lst (iz r)), k, some (.bl true), some (.tup [.int vn, .int x.b]), some m, some (.int (q : Nat)), some (.lst (iz (r.take q))), some (.lst (iz (r.drop (q + 1))))] [some (bD x), some hole, some (.int (q : Nat)), some (.lst (iz r)), k, some (.bl true), some (.tup [.int vn, .int x.b]), some m, some (.int (q : Nat)), some (.lst (iz (r.take q))), some (.lst (iz (r.drop (q + 1))))] (by subst hy; simp [startE, get_lit, Env.put, outsOf, okLen, setO, isNew, kindOf, z_nil, z_cons, z_set, z_thaw, z_bind, z_par2, z_expr, z_ret, z_retO, z_raise, z_ite, z_fors, z_whil, z_brk, z_cont, z_pass, z_setFld, z_augIx, z_setIx, z_bindX, tg_nil, tg_nm, tg_ix, y_var, y_con, y_glob, y_op, y_cmp, y_idx, y_chain, y_no, y_neg, y_and, y_or, y_ite, y_tup, y_lst, y_bf, y_mm, y_lm, y_call, y_meth, y_make, y_fld, y_nil, y_cons, y_seq, y_c0, y_c1, y_slice, y_p0, y_p1, y_enum, y_rng1, y_rng2, y_lcTurn, f3]) (by simp)
    refine ⟨[some (bD x), some hole, some (.int (q : Nat)), some (.lst (iz r)), k, some (.bl true), some (.tup [.int vn, .int x.b]), some m, some (.int (q : Nat)), some (.lst (iz (r.take q))), some (.lst (iz (r.drop (q + 1))))], ?_⟩
    simp [get_lit, Env.put, okLen, setO, z_nil, z_cons, z_set, z_par2, z_ite, z_ret, y_var, y_con, y_cmp, y_idx, y_tup, y_cons, y_nil, y_slice, y_p0, y_p1, y_op, y_fld, hn, c1, c2, i0, i1, f2, mk]
  · rw [if_neg h] at hy
    have h2 : ((q : Int) == (n : Int)) = false := by simp; omega
    have mk := @hmk (.cons (.var 10) (.cons (.var 9) (.cons (.tup (.cons (.idx (.cons (.var 6) (.cons (.con (.int 1)) .nil))) (.cons (.idx (.cons (.var 6) (.cons (.con (.int 0)) .nil))) .nil))) (.cons (.no (.fld (.cons (.var 0) .nil) 3)) .nil)))) [some (bD x), some hole, some (.int (n : Nat)), some (.lst (iz r)), k, some (.bl false), some (.tup [.int vn, .int x.b]), some m, some (.int (q : Nat)), some (.lst (iz (r.take n))), some (.lst (iz (r.drop (n + 1))))] [some (bD x), some hole, some (.int (n : Nat)), some (.lst (iz r)), k, some (.bl false), some (.tup [.int vn, .int x.b]), some m, some (.int (q : Nat)), some (.lst (iz (r.take n))), some (.lst (iz (r.drop (n + 1))))] (by subst hy; simp [startE, get_lit, Env.put, outsOf, okLen, setO, isNew, kindOf, z_nil, z_cons, z_set, z_thaw, z_bind, z_par2, z_expr, z_ret, z_retO, z_raise, z_ite, z_fors, z_whil, z_brk, z_cont, z_pass, z_setFld, z_augIx, z_setIx, z_bindX, tg_nil, tg_nm, tg_ix, y_var, y_con, y_glob, y_op, y_cmp, y_idx, y_chain, y_no, y_neg, y_and, y_or, y_ite, y_tup, y_lst, y_bf, y_mm, y_lm, y_call, y_meth, y_make, y_fld, y_nil, y_cons, y_seq, y_c0, y_c1, y_slice, y_p0, y_p1, y_enum, y_rng1, y_rng2, y_lcTurn, f3, i0, i1]) (by simp)
    refine ⟨[some (bD x), some hole, some (.int (n : Nat)), some (.lst (iz r)), k, some (.bl false), some (.tup [.int vn, .int x.b]), some m, some (.int (q : Nat)), some (.lst (iz (r.take n))), some (.lst (iz (r.drop (n + 1))))], ?_⟩
    simp [get_lit, Env.put, okLen, setO, z_nil, z_cons, z_set, z_par2, z_ite, z_ret, y_var, y_con, y_cmp, y_idx, y_tup, y_cons, y_nil, y_slice, y_p0, y_p1, y_op, y_fld, hn, c1, c2, i0, i1, f2, mk, h, h2]
section
variable {x : B} {n : Nat} {t : Int}
theorem preP_ok (h : Ok x n t) (cf : CF) {i : Nat} (hi : i ∈ mv 0 x.ms) (hmv : cf.c 0 1 [bD x] = .ok (.tup (nats (mv 0 x.ms))) []) : evSs pg.tb cf preP [some (bD x), some (.int (i : Nat)), none, none, none, none, none, none, none, none, none] = .nx (envP (bD x) (.int (i : Nat)) (.int (n : Nat)) ((ring x).set i 0) none (.int (x.ms.getD i 0)) i) := by
  have e1 := h.m
  have e2 := h.o
  have h2 := h.h2
  have hin := (mem_mv x.ms 0 i).mp hi
  simp only [Nat.sub_zero] at hin
  have hx := ix_at (r := ring x) (i := i) (by rw [ring_len h]; omega)
  rw [ring_at h (by omega)] at hx
  have hr := ring_len h
  have er : iz x.ms ++ (D.int x.a :: iz x.os) = iz (ring x) := by simp [iz, ring]
  have i0 : ∀ a b : D, idxD (.tup [a, b]) (.int 0) = some a := fun a b => rfl
  have hm := meth_ok cf x (m := 0) (f := 1) (o := .var 0) (es := .nil) (env := [some (bD x), some (.int (i : Nat)), none, none, none, none, none, none, none, none, none]) (env1 := [some (bD x), some (.int (i : Nat)), none, none, none, none, none, none, none, none, none]) (env2 := [some (bD x), some (.int (i : Nat)), none, none, none, none, none, none, none, none, none]) rfl (by rw [y_var]; rfl) rfl y_nil hmv (by simp)
  have hc : (mv 0 x.ms).contains i = true := by simpa using hi
  have hnot := notin_nats i (mv 0 x.ms)
  rw [hc] at hnot
  simp only [preP, b2, List.take, envP]
  generalize x.ms.getD i 0 = vm at hx ⊢
  simp [get_lit, Env.put, okLen, setO, isNew, kindOf, z_nil, z_cons, z_set, z_thaw, z_par2, z_ite, z_raise, z_setIx, y_var, y_con, y_cmp, y_idx, y_lst, y_cons, y_nil, y_op, y_bf, y_fld, f0, f1, f2, i0, hm, hnot, hx, ints_len, e1, e2, er, show n + 1 ≤ 16777216 by omega, show n + 1 + n ≤ 16777216 by omega, setP, hr, show i < 2 * n + 1 by omega]
theorem rng2 {m : Nat} (h : m ≤ 24) : rngD (.int 0) (.int (m : Int)) = some (rangeD 0 (m : Int)) := by
  have e : (2 : Int) ^ 62 = 4611686018427387904 := rfl
  have : rngOk 0 (m : Int) = true := by
    unfold rngOk
    rw [e]
    simp only [Bool.and_eq_true, decide_eq_true_eq]
    omega
  rw [rngD_int, if_pos this]
theorem iter2 (cf : CF) (a : Int) (env : Env) (l : List D) (h : env.get 7 = some (.int a)) (hrng : rngD (.int 0) (.int a) = some l) : evI pg.tb cf (.rng1 (.var 7)) env = .ok l env := by
  rw [y_rng1, y_var, h, of_some, bind_ok, hrng, of_some]
theorem loop2 (cf : CF) (s hole size : D) (i m : Nat) (r : List Int) (l : List D) (hrng : rngD (.int 0) (.int (m : Int)) = some l) (hl : l.length = m) (hr : i < r.length) : ∃ k', evS pg.tb cf loopPS (envP s hole size r none (.int (m : Nat)) i) = .nx (envP s hole size (sowR r i m) k' (.int (m : Nat)) ((i + m) % r.length)) := by
  obtain ⟨k', hk⟩ := loopP cf s hole size (.int (m : Nat)) r i hr l 0 none
  refine ⟨k', ?_⟩
  rw [loopPS, z_fors, iter2 cf (m : Int) (envP s hole size r none (.int (m : Nat)) i) l rfl hrng, o_ok]
  rw [Nat.zero_add, Nat.add_zero, Nat.mod_eq_of_lt hr, hl] at hk
  exact hk
theorem body2 (h : Ok x n t) (cf : CF) {i : Nat} (hi : i ∈ mv 0 x.ms) (hmv : cf.c 0 1 [bD x] = .ok (.tup (nats (mv 0 x.ms))) []) (k : Nat) (hcf : cf = lev pg (k + 2)) : ∃ e, evSs pg.tb cf b2 [some (bD x), some (.int (i : Nat)), none, none, none, none, none, none, none, none, none] = .ret (.tup [bD (sow n x i).1, .bl (sow n x i).2]) e := by
  have hin := (mem_mv x.ms 0 i).mp hi
  simp only [Nat.sub_zero] at hin
  have e1 := h.m
  have hi2 : i < n := by omega
  have hp := getD_pos h.mp i
  have hm := many_le h i
  obtain ⟨m, em⟩ : ∃ m : Nat, x.ms.getD i 0 = (m : Int) := ⟨(x.ms.getD i 0).toNat, by omega⟩
  have em2 : (x.ms.getD i 0).toNat = m := by omega
  have hok := sow_ok' h hi2
  have hr : ((ring x).set i 0).length = 2 * n + 1 := by rw [List.length_set, ring_len h]
  have hlt : (i + m) % (2 * n + 1) < 2 * n + 1 := Nat.mod_lt _ (by omega)
  have hpre := preP_ok h cf hi hmv
  rw [em] at hpre
  have hsow : sow n x i = (if (i + m) % (2 * n + 1) = n then (⟨(capt n ((i + m) % (2 * n + 1)) (sowR ((ring x).set i 0) i m)).take n, (capt n ((i + m) % (2 * n + 1)) (sowR ((ring x).set i 0) i m)).drop (n + 1), (capt n ((i + m) % (2 * n + 1)) (sowR ((ring x).set i 0) i m)).getD n 0, x.b, x.f⟩, true) else (⟨(capt n ((i + m) % (2 * n + 1)) (sowR ((ring x).set i 0) i m)).drop (n + 1), (capt n ((i + m) % (2 * n + 1)) (sowR ((ring x).set i 0) i m)).take n, x.b, (capt n ((i + m) % (2 * n + 1)) (sowR ((ring x).set i 0) i m)).getD n 0, !x.f⟩, false)) := by
    unfold sow fin
    rw [em2]
  generalize (ring x).set i 0 = r at *
  obtain ⟨k', hk⟩ := loop2 cf (bD x) (.int (i : Nat)) (.int (n : Nat)) i m r _ (rng2 (by omega)) (by simp [rangeD]) (by omega)
  rw [hr] at hk
  have hl : (sowR r i m).length = 2 * n + 1 := by rw [sowR_len, hr]
  generalize sowR r i m = r2 at *
  generalize (i + m) % (2 * n + 1) = q at *
  have hc := captP_ok cf (bD x) (.int (i : Nat)) (.int (m : Nat)) n q r2 k' hl hlt
  have hl3 : (capt n q r2).length = 2 * n + 1 := by rw [capt_len, hl]
  generalize capt n q r2 = r3 at *
  obtain ⟨e, he⟩ := endP_ok cf x (sow n x i).1 (.int (i : Nat)) (.int (m : Nat)) n q r3 k' hl3 (by rw [hsow]; split <;> rfl) (fun h1 h2 => make_cf hok hcf h1 h2)
  have hag : (sow n x i).2 = decide (q = n) := by
    rw [hsow]
    by_cases z : q = n <;> simp [z]
  rw [hag]
  refine ⟨e, ?_⟩
  rw [b2_eq, z_app, hpre, seq_nx, z_cons, hk, seq_nx, z_cons]
  refine Eq.trans (congrArg (fun o => O.seq o _) hc) ?_
  rw [seq_nx, he]
theorem sow_ok (h : Ok x n t) (k : Nat) {i : Nat} (hi : i ∈ mv 0 x.ms) : (lev pg (k + 3)).c 0 2 [bD x, .int (i : Nat)] = .ok (.tup [bD (sow n x i).1, .bl (sow n x i).2]) [] := by
  obtain ⟨e, he⟩ := body2 h (lev pg (k + 2)) hi (moves_ok h (k + 1)) k rfl
  rw [lev_call (df := d2) rfl rfl]
  show endD d2 (evSs pg.tb (lev pg (k + 2)) b2 [some (bD x), some (.int (i : Nat)), none, none, none, none, none, none, none, none, none]) = _
  rw [he]
  rfl
end
end Bh.K09
/-! text P7 -/
set_option linter.all false
set_option maxRecDepth 100000
set_option maxHeartbeats 8000000
/-! P7: leads to a depth. -/
namespace Bh.K09
def sgn (ag : Bool) (v : Int) : Int := if ag then v else 0 - v
def maxL : List Int → Int
  | [] => 0
  | v :: vs => vs.foldl (fun m y => if y > m then y else m) v
def lookI (n : Nat) : Nat → B → Int
  | 0, x => if x.ms.sum = 0 then x.a - x.b - x.os.sum else x.a - x.b
  | d + 1, x => if x.ms.sum = 0 then x.a - x.b - x.os.sum else maxL ((mv 0 x.ms).map fun i => sgn (sow n x i).2 (lookI n d (sow n x i).1))
def valI (n d : Nat) (x : B) : List Int := (mv 0 x.ms).map fun i => sgn (sow n x i).2 (lookI n d (sow n x i).1)
theorem mulp {v : Int} : opD .mul (.int v) (.int 1) = some (.int v) := by
  show (if small64 v || small64 1 then some (D.int (v * 1)) else none) = _
  rw [show small64 1 = true from rfl, Bool.or_true, if_pos rfl, Int.mul_one]
theorem muln {v : Int} : opD .mul (.int v) (.int (-1)) = some (.int (0 - v)) := by
  show (if small64 v || small64 (-1) then some (D.int (v * (-1))) else none) = _
  rw [show small64 (-1) = true from rfl, Bool.or_true, if_pos rfl]
  congr 2; omega
def body20 : List S := [.bind [5, 6] (.call 18 (.cons (.var 0) (.cons (.var 3) .nil))), .expr (.mm .append 2 (.cons (.op .mul (.cons (.call 19 (.cons (.var 5) (.cons (.op .sub (.cons (.var 1) (.cons (.con (.int 1)) .nil))) .nil))) (.cons (.ite (.var 6) (.con (.int 1)) (.op .sub (.cons (.con (.int 0)) (.cons (.con (.int 1)) .nil)))) .nil))) .nil))]
theorem iz_snoc (l : List Int) (v : Int) : iz l ++ [D.int v] = iz (l ++ [v]) := by simp [iz]
theorem turn20 (cf : CF) (s y : D) (D0 v i : Int) (ag : Bool) (acc : List Int) (k a b : Option D) (h1 : cf.c 0 18 [s, .int i] = .ok (.tup [y, .bl ag]) []) (h2 : cf.c 0 19 [y, .int (D0 - 1)] = .ok (.int v) []) (hl : acc.length + 1 ≤ 16777216) :
    evSs pg.tb cf body20 [some s, some (.int D0), some (.lst (iz acc)), some (.int i), k, a, b] = .nx [some s, some (.int D0), some (.lst (iz (acc ++ [sgn ag v]))), some (.int i), k, some y, some (.bl ag)] := by
  unfold body20
  cases ag <;> simp [startE, get_lit, Env.put, outsOf, okLen, setO, isNew, kindOf, z_nil, z_cons, z_set, z_thaw, z_bind, z_par2, z_expr, z_ret, z_retO, z_raise, z_ite, z_fors, z_whil, z_brk, z_cont, z_pass, z_setFld, z_augIx, z_setIx, z_bindX, tg_nil, tg_nm, tg_ix, y_var, y_con, y_glob, y_op, y_cmp, y_idx, y_chain, y_no, y_neg, y_and, y_or, y_ite, y_tup, y_lst, y_bf, y_mm, y_lm, y_call, y_meth, y_make, y_fld, y_nil, y_cons, y_seq, y_c0, y_c1, y_slice, y_p0, y_p1, y_enum, y_rng1, y_rng2, y_lcTurn, h1, h2, bindT, mulp, muln, ints_len, hl, iz_snoc, sgn]
theorem loop20 (cf : CF) (x : B) (n : Nat) (D0 : Int) (w : B → Int) (h1 : ∀ i ∈ mv 0 x.ms, cf.c 0 18 [sD x, .int (i : Nat)] = .ok (.tup [sD (sow n x i).1, .bl (sow n x i).2]) []) (h2 : ∀ i ∈ mv 0 x.ms, cf.c 0 19 [sD (sow n x i).1, .int (D0 - 1)] = .ok (.int (w (sow n x i).1)) []) : ∀ (l : List Nat) (acc : List Int) (h k a b : Option D), (∀ i ∈ l, i ∈ mv 0 x.ms) → acc.length + l.length ≤ 100 →
    ∃ h' a' b', forL (.one 3) (evSs pg.tb cf body20) (nats l) [some (sD x), some (.int D0), some (.lst (iz acc)), h, k, a, b] = .nx [some (sD x), some (.int D0), some (.lst (iz (acc ++ l.map fun i => sgn (sow n x i).2 (w (sow n x i).1)))), h', k, a', b']
  | [], acc, h, k, a, b, _, _ => ⟨h, a, b, by simp [nats, forL]⟩
  | i :: l, acc, h, k, a, b, hm, hl => by
    have hi := hm i (by simp)
    simp only [List.length_cons] at hl
    obtain ⟨h', a', b', ih⟩ := loop20 cf x n D0 w h1 h2 l (acc ++ [sgn (sow n x i).2 (w (sow n x i).1)]) (some (.int (i : Nat))) k (some (sD (sow n x i).1)) (some (.bl (sow n x i).2)) (fun j hj => hm j (by simp [hj])) (by simp; omega)
    refine ⟨h', a', b', ?_⟩
    have t := turn20 cf (sD x) (sD (sow n x i).1) D0 (w (sow n x i).1) (i : Nat) (sow n x i).2 acc k a b (h1 i hi) (h2 i hi) (by omega)
    show forL (.one 3) _ (D.int (i : Nat) :: nats l) _ = _
    rw [forL, bind_one]
    have e0 : Env.put [some (sD x), some (.int D0), some (.lst (iz acc)), h, k, a, b] 3 (.int (i : Nat)) = [some (sD x), some (.int D0), some (.lst (iz acc)), some (.int (i : Nat)), k, a, b] := rfl
    simp only [e0, t, ih, List.map_cons, List.append_assoc, List.singleton_append]
end Bh.K09
/-! text P8 -/
set_option linter.all false
set_option maxRecDepth 100000
set_option maxHeartbeats 8000000
/-! P8: the law's moves, values, looks. -/
namespace Bh.K09
theorem fmc {α β : Type} {f g : α → Option β} : ∀ {l : List α}, (∀ x ∈ l, f x = g x) → l.filterMap f = l.filterMap g
  | [], _ => rfl
  | x :: l, h => by
    rw [List.filterMap_cons, List.filterMap_cons, h x (by simp), fmc fun y hy => h y (by simp [hy])]
theorem mv_range' : ∀ (l : List Int) (k : Nat), (List.range' k l.length).filterMap (fun j => if decide (0 < l.getD (j - k) 0) then some (D.int (j : Nat)) else none) = nats (mv k l)
  | [], k => rfl
  | x :: l, k => by
    rw [List.length_cons, List.range'_succ, List.filterMap_cons]
    have ih := mv_range' l (k + 1)
    have e : (List.range' (k + 1) l.length).filterMap (fun j => if decide (0 < (x :: l).getD (j - k) 0) then some (D.int (j : Nat)) else none) = nats (mv (k + 1) l) := by
      rw [← ih]
      refine fmc fun j hj => ?_
      have hk : k + 1 ≤ j := by
        have := List.mem_range'.mp hj
        obtain ⟨i, _, rfl⟩ := this; omega
      have : j - k = (j - (k + 1)) + 1 := by omega
      rw [this, List.getD_cons_succ]
    rw [e, Nat.sub_self]
    rw [show mv k (x :: l) = if 0 < x then k :: mv (k + 1) l else mv (k + 1) l from rfl]
    by_cases h : 0 < x <;> simp [h, nats]
theorem rngN {m : Nat} (h : m ≤ 1000) : rngD (.int 0) (.int (m : Int)) = some ((List.range' 0 m).map fun (i : Nat) => D.int (i : Int)) := by
  have e : (2 : Int) ^ 62 = 4611686018427387904 := rfl
  have h2 : rngOk 0 (m : Int) = true := by
    unfold rngOk
    rw [e]
    simp only [Bool.and_eq_true, decide_eq_true_eq]
    omega
  rw [rngD_int, if_pos h2]
  unfold rangeD
  rw [Int.sub_zero, Int.toNat_natCast, List.range_eq_range']
  simp only [Int.zero_add]
/-- [k for k in range(n) if ..[k] > 0] -/
theorem lc_mv (cf : CF) {j : Nat} {e1 e2 : E} {env : Env} {ms : List Int} (hj : j < env.length) (hn : ms.length ≤ 1000) (h1 : evE pg.tb cf e1 env = .ok (.int (ms.length : Nat)) env) (hl : lateOf e2 = none)
    (h2 : ∀ k : Nat, k < ms.length → evE pg.tb cf e2 (List.set env j (some (.int (k : Nat)))) = .ok (.int (ms.getD k 0)) (List.set env j (some (.int (k : Nat))))) :
    evE pg.tb cf (.lc (.one j) (.rng1 e1) (some (.cmp .gt (.cons e2 (.cons (.con (.int 0)) .nil)))) (.var j)) env = .ok (.lst (nats (mv 0 ms))) env := by
  have e := ev_lcM (tb := pg.tb) (cf := cf) (env := env) (env0 := env) (fun (i : Nat) => D.int (i : Int)) (i := j) (it := .rng1 e1) (c := some (.cmp .gt (.cons e2 (.cons (.con (.int 0)) .nil)))) (e := .var j) (xs := List.range' 0 ms.length)
    (fun k => if decide (0 < ms.getD (k - 0) 0) then some (D.int (k : Nat)) else none) (by rw [y_rng1, h1, bind_ok, rngN hn, of_some]) (by simp [okLen]; omega) (fun k hk => by
      have hk2 : k < ms.length := by
        have := List.mem_range'.mp hk
        obtain ⟨i, hi, rfl⟩ := this; omega
      have hg : Env.get (List.set env j (some (D.int (k : Nat)))) j = some (.int (k : Nat)) := by simp [Env.get, hj]
      have h3 := h2 k hk2
      generalize List.set env j (some (D.int (k : Nat))) = en at *
      simp only [y_lcTurn, y_c1, y_cmp, y_cons, y_nil, y_con, hl, lateK_none, h3, bind_ok, late_con, two2_2, Nat.sub_zero, cmpB_some gt_int, of_some, onB_bl]
      cases hd : decide (0 < ms.getD k 0) <;> simp [y_var, hg])
  rw [e, mv_range']
end Bh.K09
/-! text P9 -/
set_option linter.all false
set_option maxRecDepth 100000
set_option maxHeartbeats 8000000
/-! P9: the law's looks and values. -/
namespace Bh.K09
theorem mv_ne : ∀ {l : List Int} (k : Nat), (∀ y ∈ l, 0 ≤ y) → l.sum ≠ 0 → mv k l ≠ []
  | [], k, _, h => by simp at h
  | x :: l, k, hp, h => by
    rw [show mv k (x :: l) = if 0 < x then k :: mv (k + 1) l else mv (k + 1) l from rfl]
    split
    · simp
    · rename_i hx
      have := hp x (by simp)
      have : x = 0 := by omega
      subst this
      exact mv_ne (k + 1) (fun y hy => hp y (by simp [hy])) (by simpa using h)
theorem mv_len : ∀ (l : List Int) (k : Nat), (mv k l).length ≤ l.length
  | [], k => by simp [mv]
  | x :: l, k => by
    rw [show mv k (x :: l) = if 0 < x then k :: mv (k + 1) l else mv (k + 1) l from rfl]
    have := mv_len l (k + 1)
    split <;> simp <;> omega
theorem max_lst {l : List Int} (h : l ≠ []) : bfD .max [.lst (iz l)] = some (.int (maxL l)) := by
  cases l with
  | nil => exact (h rfl).elim
  | cons v vs =>
    show (intsD (iz (v :: vs))).bind (fun ns => (maxI ns).map D.int) = _
    rw [intsD_ints]
    rfl
section
variable {x : B} {n : Nat} {t : Int}
theorem lc20 (h : Ok x n t) (cf : CF) (D0 : D) : evE pg.tb cf (.lc (.one 4) (.rng1 (.bf .len (.cons (.idx (.cons (.var 0) (.cons (.con (.int 0)) .nil))) .nil))) (some (.cmp .gt (.cons (.idx (.cons (.idx (.cons (.var 0) (.cons (.con (.int 0)) .nil))) (.cons (.var 4) .nil))) (.cons (.con (.int 0)) .nil)))) (.var 4)) [some (sD x), some D0, some (.lst []), none, none, none, none] = .ok (.lst (nats (mv 0 x.ms))) [some (sD x), some D0, some (.lst []), none, none, none, none] := by
  have e1 := h.m
  have h2 := h.h2
  have i0 : idxD (sD x) (.int 0) = some (.lst (iz x.ms)) := rfl
  refine lc_mv cf (by simp) (by omega) ?_ rfl fun k hk => ?_
  · simp [startE, get_lit, Env.put, outsOf, okLen, setO, isNew, kindOf, z_nil, z_cons, z_set, z_thaw, z_bind, z_par2, z_expr, z_ret, z_retO, z_raise, z_ite, z_fors, z_whil, z_brk, z_cont, z_pass, z_setFld, z_augIx, z_setIx, z_bindX, tg_nil, tg_nm, tg_ix, y_var, y_con, y_glob, y_op, y_cmp, y_idx, y_chain, y_no, y_neg, y_and, y_or, y_ite, y_tup, y_lst, y_bf, y_mm, y_lm, y_call, y_meth, y_make, y_fld, y_nil, y_cons, y_seq, y_c0, y_c1, y_slice, y_p0, y_p1, y_enum, y_rng1, y_rng2, y_lcTurn, i0, ints_len]
  · have hx := ix_at (r := x.ms) (i := k) hk
    generalize x.ms.getD k 0 = v at hx ⊢
    simp [startE, get_lit, Env.put, outsOf, okLen, setO, isNew, kindOf, z_nil, z_cons, z_set, z_thaw, z_bind, z_par2, z_expr, z_ret, z_retO, z_raise, z_ite, z_fors, z_whil, z_brk, z_cont, z_pass, z_setFld, z_augIx, z_setIx, z_bindX, tg_nil, tg_nm, tg_ix, y_var, y_con, y_glob, y_op, y_cmp, y_idx, y_chain, y_no, y_neg, y_and, y_or, y_ite, y_tup, y_lst, y_bf, y_mm, y_lm, y_call, y_meth, y_make, y_fld, y_nil, y_cons, y_seq, y_c0, y_c1, y_slice, y_p0, y_p1, y_enum, y_rng1, y_rng2, y_lcTurn, i0, hx]
theorem body20_ok (h : Ok x n t) (cf : CF) (D0 : Int) (w : B → Int) (h1 : ∀ i ∈ mv 0 x.ms, cf.c 0 18 [sD x, .int (i : Nat)] = .ok (.tup [sD (sow n x i).1, .bl (sow n x i).2]) []) (h2 : ∀ i ∈ mv 0 x.ms, cf.c 0 19 [sD (sow n x i).1, .int (D0 - 1)] = .ok (.int (w (sow n x i).1)) []) :
    ∃ e, evSs pg.tb cf b20 [some (sD x), some (.int D0), none, none, none, none, none] = .ret (.lst (iz ((mv 0 x.ms).map fun i => sgn (sow n x i).2 (w (sow n x i).1)))) e := by
  have e1 := h.m
  have h4 := h.h2
  have ml := mv_len x.ms 0
  obtain ⟨h', a', b', hl⟩ := loop20 cf x n D0 w h1 h2 (mv 0 x.ms) [] none none none none (fun _ z => z) (by simp; omega)
  rw [List.nil_append] at hl
  have hc := lc20 h cf (.int D0)
  rw [show b20 = .thaw 2 (.lst .nil) :: .fors (.one 3) (.seq (.lc (.one 4) (.rng1 (.bf .len (.cons (.idx (.cons (.var 0) (.cons (.con (.int 0)) .nil))) .nil))) (some (.cmp .gt (.cons (.idx (.cons (.idx (.cons (.var 0) (.cons (.con (.int 0)) .nil))) (.cons (.var 4) .nil))) (.cons (.con (.int 0)) .nil)))) (.var 4))) body20 :: .retO 2 :: [] from rfl]
  refine ⟨[some (sD x), some (.int D0), some (.lst (iz ((mv 0 x.ms).map fun i => sgn (sow n x i).2 (w (sow n x i).1)))), h', none, a', b'], ?_⟩
  rw [z_cons]
  have e0 : evS pg.tb cf (.thaw 2 (.lst .nil)) [some (sD x), some (.int D0), none, none, none, none, none] = .nx [some (sD x), some (.int D0), some (.lst []), none, none, none, none] := by simp [startE, get_lit, Env.put, outsOf, okLen, setO, isNew, kindOf, z_nil, z_cons, z_set, z_thaw, z_bind, z_par2, z_expr, z_ret, z_retO, z_raise, z_ite, z_fors, z_whil, z_brk, z_cont, z_pass, z_setFld, z_augIx, z_setIx, z_bindX, tg_nil, tg_nm, tg_ix, y_var, y_con, y_glob, y_op, y_cmp, y_idx, y_chain, y_no, y_neg, y_and, y_or, y_ite, y_tup, y_lst, y_bf, y_mm, y_lm, y_call, y_meth, y_make, y_fld, y_nil, y_cons, y_seq, y_c0, y_c1, y_slice, y_p0, y_p1, y_enum, y_rng1, y_rng2, y_lcTurn]
  rw [e0, seq_nx, z_cons, z_fors, y_seq, hc, bind_ok, items_lst, of_some, o_ok]
  refine Eq.trans (congrArg (fun o => O.seq o _) hl) ?_
  rw [seq_nx, z_cons, z_retO]
  rfl
theorem body19_ok (h : Ok x n t) (cf : CF) (d : Nat) (h2 : ∀ d', d = d' + 1 → cf.c 0 20 [sD x, .int (d : Nat)] = .ok (.lst (iz (valI n d' x))) []) :
    ∃ e, evSs pg.tb cf b19 [some (sD x), some (.int (d : Nat)), none, none, none, none] = .ret (.int (lookI n d x)) e := by
  have hs1 := sum_lst x.ms
  have hs2 := sum_lst x.os
  have hE : ∀ (g : Int), g = lookI n d x → ∃ e, O.ret (.int g) [some (sD x), some (.int (d : Nat)), some (.lst (iz x.ms)), some (.lst (iz x.os)), some (.int x.a), some (.int x.b)] = O.ret (.int (lookI n d x)) e := fun g hg => by subst hg; exact ⟨_, rfl⟩
  simp only [b19]
  by_cases h0 : x.ms.sum = 0
  · have h0b : (x.ms.sum == 0) = true := by simpa using h0
    have := hE (x.a - x.b - x.os.sum) (by cases d <;> simp [lookI, h0])
    simp [startE, get_lit, Env.put, outsOf, okLen, setO, isNew, kindOf, z_nil, z_cons, z_set, z_thaw, z_bind, z_par2, z_expr, z_ret, z_retO, z_raise, z_ite, z_fors, z_whil, z_brk, z_cont, z_pass, z_setFld, z_augIx, z_setIx, z_bindX, tg_nil, tg_nm, tg_ix, y_var, y_con, y_glob, y_op, y_cmp, y_idx, y_chain, y_no, y_neg, y_and, y_or, y_ite, y_tup, y_lst, y_bf, y_mm, y_lm, y_call, y_meth, y_make, y_fld, y_nil, y_cons, y_seq, y_c0, y_c1, y_slice, y_p0, y_p1, y_enum, y_rng1, y_rng2, y_lcTurn, sD, bindT, hs1, hs2, h0b]
    simpa [sD] using this
  · have h0b : (x.ms.sum == 0) = false := by simpa using h0
    cases d with
    | zero =>
      have := hE (x.a - x.b) (by simp [lookI, h0])
      simp [startE, get_lit, Env.put, outsOf, okLen, setO, isNew, kindOf, z_nil, z_cons, z_set, z_thaw, z_bind, z_par2, z_expr, z_ret, z_retO, z_raise, z_ite, z_fors, z_whil, z_brk, z_cont, z_pass, z_setFld, z_augIx, z_setIx, z_bindX, tg_nil, tg_nm, tg_ix, y_var, y_con, y_glob, y_op, y_cmp, y_idx, y_chain, y_no, y_neg, y_and, y_or, y_ite, y_tup, y_lst, y_bf, y_mm, y_lm, y_call, y_meth, y_make, y_fld, y_nil, y_cons, y_seq, y_c0, y_c1, y_slice, y_p0, y_p1, y_enum, y_rng1, y_rng2, y_lcTurn, sD, bindT, hs1, hs2, h0b]
      simpa [sD] using this
    | succ d' =>
      have hc := h2 d' rfl
      have hne : valI n d' x ≠ [] := by
        unfold valI
        simp only [ne_eq, List.map_eq_nil_iff]
        exact mv_ne 0 h.mp h0
      have hm := max_lst hne
      have := hE (maxL (valI n d' x)) (by simp [lookI, h0, valI])
      have hd : (((d' + 1 : Nat) : Int) == 0) = false := by simp; omega
      generalize valI n d' x = vl at *
      generalize ((d' + 1 : Nat) : Int) = di at *
      have hb : bindT (.many [2, 3, 4, 5]) (sD x) [some (sD x), some (.int di), none, none, none, none] = some [some (sD x), some (.int di), some (.lst (iz x.ms)), some (.lst (iz x.os)), some (.int x.a), some (.int x.b)] := rfl
      simp [startE, get_lit, Env.put, outsOf, okLen, setO, isNew, kindOf, z_nil, z_cons, z_set, z_thaw, z_bind, z_par2, z_expr, z_ret, z_retO, z_raise, z_ite, z_fors, z_whil, z_brk, z_cont, z_pass, z_setFld, z_augIx, z_setIx, z_bindX, tg_nil, tg_nm, tg_ix, y_var, y_con, y_glob, y_op, y_cmp, y_idx, y_chain, y_no, y_neg, y_and, y_or, y_ite, y_tup, y_lst, y_bf, y_mm, y_lm, y_call, y_meth, y_make, y_fld, y_nil, y_cons, y_seq, y_c0, y_c1, y_slice, y_p0, y_p1, y_enum, y_rng1, y_rng2, y_lcTurn, hb, hs1, hs2, h0b, hd, hc, hm]
      simpa using this
end
end Bh.K09
/-! text P10 -/
set_option linter.all false
set_option maxRecDepth 100000
set_option maxHeartbeats 4000000
/-! P10: the law's looks and values, by depth. -/
namespace Bh.K09
section
variable {n : Nat} {t : Int}
theorem call19 {x : B} (h : Ok x n t) (k d : Nat) (h2 : ∀ d', d = d' + 1 → (lev pg k).c 0 20 [sD x, .int (d : Nat)] = .ok (.lst (iz (valI n d' x))) []) : (lev pg (k + 1)).c 0 19 [sD x, .int (d : Nat)] = .ok (.int (lookI n d x)) [] := by
  obtain ⟨e, he⟩ := body19_ok h (lev pg k) d h2
  rw [lev_call (df := d19) rfl rfl]
  show endD d19 (evSs pg.tb (lev pg k) b19 [some (sD x), some (.int (d : Nat)), none, none, none, none]) = _
  rw [he]
  rfl
theorem call20 {x : B} (h : Ok x n t) (k d : Nat) (h2 : ∀ y, Ok y n t → (lev pg (k + 1)).c 0 19 [sD y, .int (d : Nat)] = .ok (.int (lookI n d y)) []) : (lev pg (k + 2)).c 0 20 [sD x, .int ((d + 1 : Nat) : Int)] = .ok (.lst (iz (valI n d x))) [] := by
  have e1 := h.m
  have hlt : ∀ i ∈ mv 0 x.ms, i < n := fun i hi => by
    have := ((mem_mv x.ms 0 i).mp hi).2.1
    omega
  have hd : (((d + 1 : Nat) : Int) - 1) = (d : Nat) := by omega
  obtain ⟨e, he⟩ := body20_ok h (lev pg (k + 1)) ((d + 1 : Nat) : Int) (lookI n d) (fun i hi => lsow_ok h k (hlt i hi)) (fun i hi => by rw [hd]; exact h2 _ (sow_ok' h (hlt i hi)))
  rw [lev_call (df := d20) rfl rfl]
  show endD d20 (evSs pg.tb (lev pg (k + 1)) b20 [some (sD x), some (.int ((d + 1 : Nat) : Int)), none, none, none, none, none]) = _
  rw [he]
  rfl
theorem llook_ok : ∀ (d k : Nat) {x : B}, Ok x n t → (lev pg (k + 2 * d + 1)).c 0 19 [sD x, .int (d : Nat)] = .ok (.int (lookI n d x)) []
  | 0, k, x, h => call19 h (k + 2 * 0) 0 fun d' z => by omega
  | d + 1, k, x, h => call19 h (k + 2 * (d + 1)) (d + 1) fun d' z => by
    have hz : d' = d := by omega
    subst hz
    exact call20 h (k + 2 * d') d' fun y hy => llook_ok d' k hy
theorem lval_ok (d k : Nat) {x : B} (h : Ok x n t) : (lev pg (k + 2 * d + 2)).c 0 20 [sD x, .int ((d + 1 : Nat) : Int)] = .ok (.lst (iz (valI n d x))) [] := call20 h (k + 2 * d) d fun y hy => llook_ok d k hy
end
end Bh.K09
/-! text P11 -/
set_option linter.all false
set_option maxRecDepth 100000
set_option maxHeartbeats 4000000
/-! P11: the board's look, its loop. -/
namespace Bh.K09
def bo : Option Int → D
  | none => .non
  | some v => .int v
def nb (o : Option Int) (v : Int) : Option Int := match o with
  | none => some v
  | some m => some (if v > m then v else m)
theorem nb_fold : ∀ (l : List Int) (m : Int), l.foldl nb (some m) = some (l.foldl (fun m y => if y > m then y else m) m)
  | [], m => rfl
  | v :: l, m => by rw [List.foldl_cons, List.foldl_cons]; exact nb_fold l _
theorem nb_max {l : List Int} (h : l ≠ []) : l.foldl nb none = some (maxL l) := by
  cases l with
  | nil => exact (h rfl).elim
  | cons v l => rw [List.foldl_cons]; exact nb_fold l v
def body6 : List S := [.bind [5, 6] (.meth 1 (.var 0) (.cons (.var 3) .nil)), .set 4 (.meth 5 (.var 5) (.cons (.op .sub (.cons (.var 1) (.cons (.con (.int 1)) .nil))) .nil)), .set 4 (.ite (.var 6) (.var 4) (.op .sub (.cons (.con (.int 0)) (.cons (.var 4) .nil)))), .set 2 (.ite (.or (.cmp .is (.cons (.var 2) (.cons (.con .non) .nil))) (.cmp .gt (.cons (.var 4) (.cons (.var 2) .nil)))) (.var 4) (.var 2))]
theorem turn6 (cf : CF) (x y : B) (D0 v i : Int) (ag : Bool) (o : Option Int) (w a b : Option D) (h1 : cf.c 0 2 [bD x, .int i] = .ok (.tup [bD y, .bl ag]) []) (h2 : cf.c 0 6 [bD y, .int (D0 - 1)] = .ok (.int v) []) :
    evSs pg.tb cf body6 [some (bD x), some (.int D0), some (bo o), some (.int i), w, a, b] = .nx [some (bD x), some (.int D0), some (bo (nb o (sgn ag v))), some (.int i), some (.int (sgn ag v)), some (bD y), some (.bl ag)] := by
  have m1 := meth_ok cf x (m := 1) (f := 2) (o := .var 0) (es := .cons (.var 3) .nil) (env := [some (bD x), some (.int D0), some (bo o), some (.int i), w, a, b]) (env1 := [some (bD x), some (.int D0), some (bo o), some (.int i), w, a, b]) (env2 := [some (bD x), some (.int D0), some (bo o), some (.int i), w, a, b]) rfl (by rw [y_var]; rfl) rfl (by simp [y_cons, y_nil, y_var, get_lit]) h1 (by simp)
  have m2 := meth_ok cf y (m := 5) (f := 6) (o := .var 5) (es := .cons (.op .sub (.cons (.var 1) (.cons (.con (.int 1)) .nil))) .nil) (env := [some (bD x), some (.int D0), some (bo o), some (.int i), w, some (bD y), some (.bl ag)]) (env1 := [some (bD x), some (.int D0), some (bo o), some (.int i), w, some (bD y), some (.bl ag)]) (env2 := [some (bD x), some (.int D0), some (bo o), some (.int i), w, some (bD y), some (.bl ag)]) rfl (by rw [y_var]; rfl) rfl (by simp [y_cons, y_nil, y_var, y_con, y_op, get_lit]) h2 (by simp)
  have i1 : cmpB .is (.non) (.non) = some (.bl true) := rfl
  have i2 : ∀ q : Int, cmpB .is (.int q) (.non) = some (.bl false) := fun _ => rfl
  unfold body6
  cases o with
  | none =>
    simp only [bo] at m1 m2
    cases ag <;> simp [get_lit, Env.put, bindT, z_cons, z_nil, z_bind, z_set, y_ite, y_or, y_var, y_con, y_cmp, y_op, y_cons, y_nil, m1, m2, i1, bo, nb, sgn]
  | some q =>
    simp only [bo] at m1 m2
    cases ag
    · by_cases hq : q < -v <;> simp [get_lit, Env.put, bindT, z_cons, z_nil, z_bind, z_set, y_ite, y_or, y_var, y_con, y_cmp, y_op, y_cons, y_nil, m1, m2, i2, bo, nb, sgn, hq]
    · by_cases hq : q < v <;> simp [get_lit, Env.put, bindT, z_cons, z_nil, z_bind, z_set, y_ite, y_or, y_var, y_con, y_cmp, y_op, y_cons, y_nil, m1, m2, i2, bo, nb, sgn, hq]
end Bh.K09
/-! text P12 -/
set_option linter.all false
set_option maxRecDepth 100000
set_option maxHeartbeats 4000000
/-! P12: the board's look. -/
namespace Bh.K09
theorem loop6 (cf : CF) (x : B) (n : Nat) (D0 : Int) (w : B → Int) (h1 : ∀ i ∈ mv 0 x.ms, cf.c 0 2 [bD x, .int (i : Nat)] = .ok (.tup [bD (sow n x i).1, .bl (sow n x i).2]) []) (h2 : ∀ i ∈ mv 0 x.ms, cf.c 0 6 [bD (sow n x i).1, .int (D0 - 1)] = .ok (.int (w (sow n x i).1)) []) : ∀ (l : List Nat) (o : Option Int) (h k a b : Option D), (∀ i ∈ l, i ∈ mv 0 x.ms) →
    ∃ h' k' a' b', forL (.one 3) (evSs pg.tb cf body6) (nats l) [some (bD x), some (.int D0), some (bo o), h, k, a, b] = .nx [some (bD x), some (.int D0), some (bo ((l.map fun i => sgn (sow n x i).2 (w (sow n x i).1)).foldl nb o)), h', k', a', b']
  | [], o, h, k, a, b, _ => ⟨h, k, a, b, by simp [nats, forL]⟩
  | i :: l, o, h, k, a, b, hm => by
    have hi := hm i (by simp)
    obtain ⟨h', k', a', b', ih⟩ := loop6 cf x n D0 w h1 h2 l (nb o (sgn (sow n x i).2 (w (sow n x i).1))) (some (.int (i : Nat))) (some (.int (sgn (sow n x i).2 (w (sow n x i).1)))) (some (bD (sow n x i).1)) (some (.bl (sow n x i).2)) (fun j hj => hm j (by simp [hj]))
    refine ⟨h', k', a', b', ?_⟩
    have t := turn6 cf x (sow n x i).1 D0 (w (sow n x i).1) (i : Nat) (sow n x i).2 o k a b (h1 i hi) (h2 i hi)
    show forL (.one 3) _ (D.int (i : Nat) :: nats l) _ = _
    rw [forL, bind_one]
    have e0 : Env.put [some (bD x), some (.int D0), some (bo o), h, k, a, b] 3 (.int (i : Nat)) = [some (bD x), some (.int D0), some (bo o), some (.int (i : Nat)), k, a, b] := rfl
    simp only [e0, t, ih, List.map_cons, List.foldl_cons]
theorem b6_eq : b6 = b6.take 3 ++ (.fors (.one 3) (.seq (.meth 0 (.var 0) .nil)) body6 :: .ret (.var 2) :: []) := rfl
section
variable {x : B} {n : Nat} {t : Int}
theorem body6_ok (h : Ok x n t) (cf : CF) (d : Nat) (ho : cf.c 0 3 [bD x] = .ok (.bl (x.ms.sum == 0)) []) (hmv : cf.c 0 1 [bD x] = .ok (.tup (nats (mv 0 x.ms))) []) (h1 : ∀ i ∈ mv 0 x.ms, cf.c 0 2 [bD x, .int (i : Nat)] = .ok (.tup [bD (sow n x i).1, .bl (sow n x i).2]) [])
    (h2 : ∀ d', d = d' + 1 → ∀ i ∈ mv 0 x.ms, cf.c 0 6 [bD (sow n x i).1, .int ((d : Nat) - 1 : Int)] = .ok (.int (lookI n d' (sow n x i).1)) []) :
    ∃ e, evSs pg.tb cf b6 [some (bD x), some (.int (d : Nat)), none, none, none, none, none] = .ret (.int (lookI n d x)) e := by
  have m0 := meth_ok cf x (m := 2) (f := 3) (o := .var 0) (es := .nil) (env := [some (bD x), some (.int (d : Nat)), none, none, none, none, none]) (env1 := [some (bD x), some (.int (d : Nat)), none, none, none, none, none]) (env2 := [some (bD x), some (.int (d : Nat)), none, none, none, none, none]) rfl (by rw [y_var]; rfl) rfl y_nil ho (by simp)
  have m1 := meth_ok cf x (m := 0) (f := 1) (o := .var 0) (es := .nil) (env := [some (bD x), some (.int (d : Nat)), some .non, none, none, none, none]) (env1 := [some (bD x), some (.int (d : Nat)), some .non, none, none, none, none]) (env2 := [some (bD x), some (.int (d : Nat)), some .non, none, none, none, none]) rfl (by rw [y_var]; rfl) rfl y_nil hmv (by simp)
  have i0 : ∀ a b : D, idxD (.tup [a, b]) (.int 0) = some a := fun a b => rfl
  have i1 : ∀ a b : D, idxD (.tup [a, b]) (.int 1) = some b := fun a b => rfl
  have hs2 := sum_tup x.os
  rw [b6_eq, z_app]
  simp only [b6, List.take]
  by_cases h0 : x.ms.sum = 0
  · have h0b : (x.ms.sum == 0) = true := by simpa using h0
    rw [h0b] at m0
    refine ⟨[some (bD x), some (.int (d : Nat)), none, none, none, none, none], ?_⟩
    have hg : lookI n d x = x.a - x.b - x.os.sum := by cases d <;> simp [lookI, h0]
    rw [hg]
    simp [startE, get_lit, Env.put, outsOf, okLen, setO, isNew, kindOf, z_nil, z_cons, z_set, z_thaw, z_bind, z_par2, z_expr, z_ret, z_retO, z_raise, z_ite, z_fors, z_whil, z_brk, z_cont, z_pass, z_setFld, z_augIx, z_setIx, z_bindX, tg_nil, tg_nm, tg_ix, y_var, y_con, y_glob, y_op, y_cmp, y_idx, y_chain, y_no, y_neg, y_and, y_or, y_ite, y_tup, y_lst, y_bf, y_mm, y_lm, y_call, y_meth, y_make, y_fld, y_nil, y_cons, y_seq, y_c0, y_c1, y_slice, y_p0, y_p1, y_enum, y_rng1, y_rng2, y_lcTurn, m0, f1, f2, i0, i1, hs2]
  · have h0b : (x.ms.sum == 0) = false := by simpa using h0
    rw [h0b] at m0
    cases d with
    | zero =>
      refine ⟨[some (bD x), some (.int 0), none, none, none, none, none], ?_⟩
      have hg : lookI n 0 x = x.a - x.b := by simp [lookI, h0]
      rw [hg]
      have m0 : evE pg.tb cf (.meth 2 (.var 0) .nil) [some (bD x), some (.int 0), none, none, none, none, none] = .ok (.bl false) [some (bD x), some (.int 0), none, none, none, none, none] := m0
      show (evSs pg.tb cf _ [some (bD x), some (.int 0), none, none, none, none, none]).seq _ = _
      simp [startE, get_lit, Env.put, outsOf, okLen, setO, isNew, kindOf, z_nil, z_cons, z_set, z_thaw, z_bind, z_par2, z_expr, z_ret, z_retO, z_raise, z_ite, z_fors, z_whil, z_brk, z_cont, z_pass, z_setFld, z_augIx, z_setIx, z_bindX, tg_nil, tg_nm, tg_ix, y_var, y_con, y_glob, y_op, y_cmp, y_idx, y_chain, y_no, y_neg, y_and, y_or, y_ite, y_tup, y_lst, y_bf, y_mm, y_lm, y_call, y_meth, y_make, y_fld, y_nil, y_cons, y_seq, y_c0, y_c1, y_slice, y_p0, y_p1, y_enum, y_rng1, y_rng2, y_lcTurn, m0, f2, i0, i1]
    | succ d' =>
      have hne : (mv 0 x.ms).map (fun i => sgn (sow n x i).2 (lookI n d' (sow n x i).1)) ≠ [] := by
        simp only [ne_eq, List.map_eq_nil_iff]
        exact mv_ne 0 h.mp h0
      obtain ⟨h', k', a', b', hl⟩ := loop6 cf x n ((d' + 1 : Nat) : Int) (lookI n d') h1 (h2 d' rfl) (mv 0 x.ms) none none none none none fun _ z => z
      rw [nb_max hne] at hl
      have hg : lookI n (d' + 1) x = maxL ((mv 0 x.ms).map fun i => sgn (sow n x i).2 (lookI n d' (sow n x i).1)) := by simp [lookI, h0]
      rw [hg]
      generalize maxL ((mv 0 x.ms).map fun i => sgn (sow n x i).2 (lookI n d' (sow n x i).1)) = vm at *
      have hd : (((d' + 1 : Nat) : Int) == 0) = false := by simp; omega
      generalize ((d' + 1 : Nat) : Int) = di at *
      refine ⟨[some (bD x), some (.int di), some (.int vm), h', k', a', b'], ?_⟩
      have e0 : evSs pg.tb cf [.ite (.meth 2 (.var 0) (.nil)) [.ret (.op .sub (.cons (.op .sub (.cons (.idx (.cons (.fld (.cons (.var 0) .nil) 2) (.cons (.con (.int 0)) .nil))) (.cons (.idx (.cons (.fld (.cons (.var 0) .nil) 2) (.cons (.con (.int 1)) .nil))) .nil))) (.cons (.bf .sum (.cons (.fld (.cons (.var 0) .nil) 1) .nil)) .nil)))] [], .ite (.cmp .eq (.cons (.var 1) (.cons (.con (.int 0)) .nil))) [.ret (.op .sub (.cons (.idx (.cons (.fld (.cons (.var 0) .nil) 2) (.cons (.con (.int 0)) .nil))) (.cons (.idx (.cons (.fld (.cons (.var 0) .nil) 2) (.cons (.con (.int 1)) .nil))) .nil)))] [], .set 2 (.con .non)] [some (bD x), some (.int di), none, none, none, none, none] = .nx [some (bD x), some (.int di), some .non, none, none, none, none] := by
        simp [startE, get_lit, Env.put, outsOf, okLen, setO, isNew, kindOf, z_nil, z_cons, z_set, z_thaw, z_bind, z_par2, z_expr, z_ret, z_retO, z_raise, z_ite, z_fors, z_whil, z_brk, z_cont, z_pass, z_setFld, z_augIx, z_setIx, z_bindX, tg_nil, tg_nm, tg_ix, y_var, y_con, y_glob, y_op, y_cmp, y_idx, y_chain, y_no, y_neg, y_and, y_or, y_ite, y_tup, y_lst, y_bf, y_mm, y_lm, y_call, y_meth, y_make, y_fld, y_nil, y_cons, y_seq, y_c0, y_c1, y_slice, y_p0, y_p1, y_enum, y_rng1, y_rng2, y_lcTurn, m0, hd]
      rw [e0, seq_nx, z_cons, z_fors, y_seq, m1, bind_ok, items_tup, of_some, o_ok]
      refine Eq.trans (congrArg (fun o => O.seq o _) hl) ?_
      rw [seq_nx, z_cons, z_ret, y_var]
      rfl
end
end Bh.K09
/-! text P13 -/
set_option linter.all false
set_option maxRecDepth 100000
set_option maxHeartbeats 4000000
/-! P13: the board's look, by depth. -/
namespace Bh.K09
section
variable {n : Nat} {t : Int}
theorem call6 {x : B} (h : Ok x n t) (k d : Nat) (h2 : ∀ d', d = d' + 1 → ∀ y, Ok y n t → (lev pg (k + 3)).c 0 6 [bD y, .int (d' : Nat)] = .ok (.int (lookI n d' y)) []) : (lev pg (k + 4)).c 0 6 [bD x, .int (d : Nat)] = .ok (.int (lookI n d x)) [] := by
  have e1 := h.m
  have hlt : ∀ i ∈ mv 0 x.ms, i < n := fun i hi => by
    have := ((mem_mv x.ms 0 i).mp hi).2.1
    omega
  obtain ⟨e, he⟩ := body6_ok h (lev pg (k + 3)) d (over_ok (k + 2)) (moves_ok h (k + 2)) (fun i hi => sow_ok h k hi) (fun d' z i hi => by
    have hd : ((d : Nat) - 1 : Int) = (d' : Nat) := by omega
    rw [hd]
    exact h2 d' z _ (sow_ok' h (hlt i hi)))
  rw [lev_call (df := d6) rfl rfl]
  show endD d6 (evSs pg.tb (lev pg (k + 3)) b6 [some (bD x), some (.int (d : Nat)), none, none, none, none, none]) = _
  rw [he]
  rfl
theorem look_ok : ∀ (d k : Nat) {x : B}, Ok x n t → (lev pg (k + d + 4)).c 0 6 [bD x, .int (d : Nat)] = .ok (.int (lookI n d x)) []
  | 0, k, x, h => call6 h (k + 0) 0 fun d' z => by omega
  | d + 1, k, x, h => call6 h (k + (d + 1)) (d + 1) fun d' z y hy => by
    have hz : d' = d := by omega
    subst hz
    exact look_ok d' k hy
end
end Bh.K09
/-! text P14 -/
set_option linter.all false
set_option maxRecDepth 100000
set_option maxHeartbeats 4000000
/-! P14: holes to the store; new boards. -/
namespace Bh.K09
section
variable {x : B} {n : Nat} {t : Int}
theorem body8_ok (cf : CF) (hmv : cf.c 0 1 [bD x] = .ok (.tup (nats (mv 0 x.ms))) []) (hl : (mv 0 x.ms).length ≤ 100) (h1 : ∀ i ∈ mv 0 x.ms, cf.c 0 2 [bD x, .int (i : Nat)] = .ok (.tup [bD (sow n x i).1, .bl (sow n x i).2]) []) :
    evSs pg.tb cf b8 [some (bD x), none] = .ret (.tup (nats ((mv 0 x.ms).filter fun i => (sow n x i).2))) [some (bD x), none] := by
  have m1 := meth_ok cf x (m := 0) (f := 1) (o := .var 0) (es := .nil) (env := [some (bD x), none]) (env1 := [some (bD x), none]) (env2 := [some (bD x), none]) rfl (by rw [y_var]; rfl) rfl y_nil hmv (by simp)
  have i1 : ∀ a b : D, idxD (.tup [a, b]) (.int 1) = some b := fun a b => rfl
  have e := ev_lcM (tb := pg.tb) (cf := cf) (env := [some (bD x), none]) (env0 := [some (bD x), none]) (fun (i : Nat) => D.int (i : Int)) (i := 1) (it := .seq (.meth 0 (.var 0) .nil)) (c := some (.idx (.cons (.meth 1 (.var 0) (.cons (.var 1) .nil)) (.cons (.con (.int 1)) .nil)))) (e := .var 1) (xs := mv 0 x.ms)
    (fun i => if (sow n x i).2 then some (D.int (i : Nat)) else none) (by rw [y_seq, m1, bind_ok, items_tup, of_some]; rfl) (by simp [okLen]; omega) (fun i hi => by
      have m2 := meth_ok cf x (m := 1) (f := 2) (o := .var 0) (es := .cons (.var 1) .nil) (env := [some (bD x), some (.int (i : Nat))]) (env1 := [some (bD x), some (.int (i : Nat))]) (env2 := [some (bD x), some (.int (i : Nat))]) rfl (by rw [y_var]; rfl) rfl (by simp [y_cons, y_nil, y_var, get_lit]) (h1 i hi) (by simp)
      show lcTurn pg.tb cf _ _ [some (bD x), some (.int (i : Nat))] = .ok _ [some (bD x), some (.int (i : Nat))]
      cases hs : (sow n x i).2 <;> rw [hs] at m2 <;> simp [y_lcTurn, y_c1, y_idx, y_cons, y_nil, y_con, y_var, get_lit, m2, i1])
  rw [fm_if (fun i => (sow n x i).2) (fun (i : Nat) => D.int (i : Int))] at e
  simp only [b8, z_cons, z_nil, z_ret, y_bf, y_cons, y_nil, late_bf, late_lc, lateK_none, e, bind_ok, tuple_lst, of_some, o_ok, seq_ret]
  rfl
theorem to_store_ok (h : Ok x n t) (k : Nat) : (lev pg (k + 4)).c 0 8 [bD x] = .ok (.tup (nats ((mv 0 x.ms).filter fun i => (sow n x i).2))) [] := by
  have e1 := h.m
  have e2 := h.h2
  have ml := mv_len x.ms 0
  rw [lev_call (df := d8) rfl rfl]
  show endD d8 (evSs pg.tb (lev pg (k + 3)) b8 [some (bD x), none]) = _
  rw [body8_ok (n := n) (lev pg (k + 3)) (moves_ok h (k + 2)) (by omega) (fun i hi => sow_ok h k hi)]
  rfl
end
end Bh.K09
/-! text P15 -/
set_option linter.all false
set_option maxRecDepth 100000
set_option maxHeartbeats 4000000
/-! P15: new boards, boards sown on. -/
namespace Bh.K09
def newB (n : Nat) (s : Int) : B := ⟨List.replicate n s, List.replicate n s, 0, 0, true⟩
theorem newB_ok {n : Nat} {s : Int} (h1 : 1 ≤ n) (h2 : n ≤ 4) (h3 : 0 ≤ s) (h4 : s ≤ 3) : Ok (newB n s) n (2 * n * s) := by
  have e : ∀ m : Nat, (List.replicate m s).sum = m * s := fun m => by
    induction m with
    | zero => simp
    | succ m ih => rw [List.replicate_succ, List.sum_cons, ih]; push_cast; rw [Int.add_mul]; omega
  refine ⟨h1, h2, by simp [newB], by simp [newB], fun x hx => ?_, fun x hx => ?_, Int.le_refl _, Int.le_refl _, ?_, ?_⟩
  · have := (List.mem_replicate.mp hx).2; omega
  · have := (List.mem_replicate.mp hx).2; omega
  · show (List.replicate n s).sum + (List.replicate n s).sum + 0 + 0 = _
    rw [e]
    rw [Int.mul_assoc]; omega
  · have hn : n = 1 ∨ n = 2 ∨ n = 3 ∨ n = 4 := by omega
    rcases hn with rfl | rfl | rfl | rfl <;> (push_cast; omega)
/-- turns, one behind another -/
def sownB (n : Nat) (x : B) : List Nat → B
  | [] => x
  | i :: l => sownB n (sow n x i).1 l
/-- each turn is let -/
def letB (n : Nat) (x : B) : List Nat → Prop
  | [] => True
  | i :: l => i ∈ mv 0 x.ms ∧ letB n (sow n x i).1 l
theorem turn12 (cf : CF) (x y : B) (hs : D) (i : Int) (ag : Bool) (h1 : cf.c 0 2 [bD x, .int i] = .ok (.tup [bD y, .bl ag]) []) : evSs pg.tb cf [.set 0 (.idx (.cons (.meth 1 (.var 0) (.cons (.var 2) .nil)) (.cons (.con (.int 0)) .nil)))] [some (bD x), some hs, some (.int i)] = .nx [some (bD y), some hs, some (.int i)] := by
  have m1 := meth_ok cf x (m := 1) (f := 2) (o := .var 0) (es := .cons (.var 2) .nil) (env := [some (bD x), some hs, some (.int i)]) (env1 := [some (bD x), some hs, some (.int i)]) (env2 := [some (bD x), some hs, some (.int i)]) rfl (by rw [y_var]; rfl) rfl (by simp [y_cons, y_nil, y_var, get_lit]) h1 (by simp)
  have i0 : ∀ a b : D, idxD (.tup [a, b]) (.int 0) = some a := fun a b => rfl
  simp [z_cons, z_nil, z_set, y_idx, y_cons, y_nil, y_con, m1, i0, Env.put]
end Bh.K09
/-! text P16 -/
set_option linter.all false
set_option maxRecDepth 100000
set_option maxHeartbeats 4000000
/-! P16: sown. -/
namespace Bh.K09
section
variable {n : Nat} {t : Int}
theorem sownB_ok : ∀ (l : List Nat) {x : B}, Ok x n t → letB n x l → Ok (sownB n x l) n t
  | [], x, h, _ => h
  | i :: l, x, h, ⟨hi, hl⟩ => by
    have e1 := h.m
    have := ((mem_mv x.ms 0 i).mp hi).2.1
    exact sownB_ok l (sow_ok' h (by omega)) hl
theorem loop12 (k : Nat) (hs : D) : ∀ (l : List Nat) (x : B) (o : Option D), Ok x n t → letB n x l →
    ∃ o', forL (.one 2) (evSs pg.tb (lev pg (k + 3)) [.set 0 (.idx (.cons (.meth 1 (.var 0) (.cons (.var 2) .nil)) (.cons (.con (.int 0)) .nil)))]) (nats l) [some (bD x), some hs, o] = .nx [some (bD (sownB n x l)), some hs, o']
  | [], x, o, _, _ => ⟨o, by simp [nats, forL, sownB]⟩
  | i :: l, x, o, h, ⟨hi, hl⟩ => by
    have e1 := h.m
    have hlt := ((mem_mv x.ms 0 i).mp hi).2.1
    have t1 := turn12 (lev pg (k + 3)) x (sow n x i).1 hs (i : Nat) (sow n x i).2 (sow_ok h k hi)
    obtain ⟨o', ih⟩ := loop12 k hs l (sow n x i).1 (some (.int (i : Nat))) (sow_ok' h (by omega)) hl
    refine ⟨o', ?_⟩
    show forL (.one 2) _ (D.int (i : Nat) :: nats l) _ = _
    rw [forL, bind_one]
    have e0 : Env.put [some (bD x), some hs, o] 2 (.int (i : Nat)) = [some (bD x), some hs, some (.int (i : Nat))] := rfl
    simp only [e0]
    rw [t1]
    exact ih
theorem sown_ok {x : B} (h : Ok x n t) {l : List Nat} (hl : letB n x l) (k : Nat) (hs : D) (hh : itemsD hs = some (nats l)) : (lev pg (k + 4)).c 0 12 [bD x, hs] = .ok (bD (sownB n x l)) [] := by
  obtain ⟨o', e⟩ := loop12 k hs l x none h hl
  rw [lev_call (df := d12) rfl rfl]
  have e2 : evSs pg.tb (lev pg (k + 3)) b12 [some (bD x), some hs, none] = .ret (bD (sownB n x l)) [some (bD (sownB n x l)), some hs, o'] := by
    generalize lev pg (k + 3) = cf at e ⊢
    rw [show b12 = .fors (.one 2) (.seq (.var 1)) [.set 0 (.idx (.cons (.meth 1 (.var 0) (.cons (.var 2) .nil)) (.cons (.con (.int 0)) .nil)))] :: .ret (.var 0) :: [] from rfl]
    have e3 : evI pg.tb cf (.seq (.var 1)) [some (bD x), some hs, none] = .ok (nats l) [some (bD x), some hs, none] := by
      simp [y_seq, y_var, get_lit, hh]
    rw [z_cons, z_fors, e3, o_ok, e, seq_nx, z_cons, z_ret, y_var]
    rfl
  show endD d12 (evSs pg.tb (lev pg (k + 3)) b12 [some (bD x), some hs, none]) = _
  rw [e2]
  rfl
end
end Bh.K09
/-! text P17 -/
set_option linter.all false
set_option maxRecDepth 100000
set_option maxHeartbeats 4000000
/-! P17: the best turn, its loop. -/
namespace Bh.K09
def body7 : List S := [.bind [5, 6] (.meth 1 (.var 0) (.cons (.var 3) .nil)), .set 4 (.meth 5 (.var 5) (.cons (.op .sub (.cons (.var 1) (.cons (.con (.int 1)) .nil))) .nil)), .expr (.mm .append 2 (.cons (.ite (.var 6) (.var 4) (.op .sub (.cons (.con (.int 0)) (.cons (.var 4) .nil)))) .nil))]
theorem turn7 (cf : CF) (x y : B) (D0 v i : Int) (ag : Bool) (acc : List Int) (w a b : Option D) (h1 : cf.c 0 2 [bD x, .int i] = .ok (.tup [bD y, .bl ag]) []) (h2 : cf.c 0 6 [bD y, .int (D0 - 1)] = .ok (.int v) []) (hl : acc.length + 1 ≤ 16777216) :
    evSs pg.tb cf body7 [some (bD x), some (.int D0), some (.lst (iz acc)), some (.int i), w, a, b] = .nx [some (bD x), some (.int D0), some (.lst (iz (acc ++ [sgn ag v]))), some (.int i), some (.int v), some (bD y), some (.bl ag)] := by
  have m1 := meth_ok cf x (m := 1) (f := 2) (o := .var 0) (es := .cons (.var 3) .nil) (env := [some (bD x), some (.int D0), some (.lst (iz acc)), some (.int i), w, a, b]) (env1 := [some (bD x), some (.int D0), some (.lst (iz acc)), some (.int i), w, a, b]) (env2 := [some (bD x), some (.int D0), some (.lst (iz acc)), some (.int i), w, a, b]) rfl (by rw [y_var]; rfl) rfl (by simp [y_cons, y_nil, y_var, get_lit]) h1 (by simp)
  have m2 := meth_ok cf y (m := 5) (f := 6) (o := .var 5) (es := .cons (.op .sub (.cons (.var 1) (.cons (.con (.int 1)) .nil))) .nil) (env := [some (bD x), some (.int D0), some (.lst (iz acc)), some (.int i), w, some (bD y), some (.bl ag)]) (env1 := [some (bD x), some (.int D0), some (.lst (iz acc)), some (.int i), w, some (bD y), some (.bl ag)]) (env2 := [some (bD x), some (.int D0), some (.lst (iz acc)), some (.int i), w, some (bD y), some (.bl ag)]) rfl (by rw [y_var]; rfl) rfl (by simp [y_cons, y_nil, y_var, y_con, y_op, get_lit]) h2 (by simp)
  have s0 : (0 : Int) - v = -v := by omega
  unfold body7
  cases ag <;> simp [get_lit, Env.put, bindT, okLen, z_cons, z_nil, z_bind, z_set, z_expr, y_ite, y_mm, y_var, y_con, y_op, y_cons, y_nil, m1, m2, ints_len, hl, iz_snoc, sgn, s0]
theorem loop7 (cf : CF) (x : B) (n : Nat) (D0 : Int) (w : B → Int) (h1 : ∀ i ∈ mv 0 x.ms, cf.c 0 2 [bD x, .int (i : Nat)] = .ok (.tup [bD (sow n x i).1, .bl (sow n x i).2]) []) (h2 : ∀ i ∈ mv 0 x.ms, cf.c 0 6 [bD (sow n x i).1, .int (D0 - 1)] = .ok (.int (w (sow n x i).1)) []) : ∀ (l : List Nat) (acc : List Int) (h k a b : Option D), (∀ i ∈ l, i ∈ mv 0 x.ms) → acc.length + l.length ≤ 100 →
    ∃ h' k' a' b', forL (.one 3) (evSs pg.tb cf body7) (nats l) [some (bD x), some (.int D0), some (.lst (iz acc)), h, k, a, b] = .nx [some (bD x), some (.int D0), some (.lst (iz (acc ++ l.map fun i => sgn (sow n x i).2 (w (sow n x i).1)))), h', k', a', b']
  | [], acc, h, k, a, b, _, _ => ⟨h, k, a, b, by simp [nats, forL]⟩
  | i :: l, acc, h, k, a, b, hm, hl => by
    have hi := hm i (by simp)
    simp only [List.length_cons] at hl
    obtain ⟨h', k', a', b', ih⟩ := loop7 cf x n D0 w h1 h2 l (acc ++ [sgn (sow n x i).2 (w (sow n x i).1)]) (some (.int (i : Nat))) (some (.int (w (sow n x i).1))) (some (bD (sow n x i).1)) (some (.bl (sow n x i).2)) (fun j hj => hm j (by simp [hj])) (by simp; omega)
    refine ⟨h', k', a', b', ?_⟩
    have t := turn7 cf x (sow n x i).1 D0 (w (sow n x i).1) (i : Nat) (sow n x i).2 acc k a b (h1 i hi) (h2 i hi) (by omega)
    show forL (.one 3) _ (D.int (i : Nat) :: nats l) _ = _
    rw [forL, bind_one]
    have e0 : Env.put [some (bD x), some (.int D0), some (.lst (iz acc)), h, k, a, b] 3 (.int (i : Nat)) = [some (bD x), some (.int D0), some (.lst (iz acc)), some (.int (i : Nat)), k, a, b] := rfl
    simp only [e0, t, ih, List.map_cons, List.append_assoc, List.singleton_append]
end Bh.K09
/-! text P18 -/
set_option linter.all false
set_option maxRecDepth 100000
set_option maxHeartbeats 4000000
/-! P18: the best turn. -/
namespace Bh.K09
theorem max_fold : ∀ (l : List Int) (m : Int), l.foldl (fun m y => if y > m then y else m) m = m ∨ l.foldl (fun m y => if y > m then y else m) m ∈ l
  | [], m => .inl rfl
  | v :: l, m => by
    rw [List.foldl_cons]
    rcases max_fold l (if v > m then v else m) with h | h
    · by_cases hv : v > m
      · right; rw [h, if_pos hv]; simp
      · left; rw [h, if_neg hv]
    · right; exact List.mem_cons_of_mem _ h
theorem max_mem {l : List Int} (h : l ≠ []) : maxL l ∈ l := by
  cases l with
  | nil => exact (h rfl).elim
  | cons v l =>
    rcases max_fold l v with e | e
    · show l.foldl _ v ∈ _
      rw [e]; simp
    · exact List.mem_cons_of_mem _ e
def ixI (vs : List Int) : Nat := vs.findIdx fun v => v == maxL vs
theorem ixI_lt {vs : List Int} (h : vs ≠ []) : ixI vs < vs.length := by
  unfold ixI
  rw [List.findIdx_lt_length]
  exact ⟨maxL vs, max_mem h, by simp⟩
theorem plains_iz : ∀ l : List Int, plains (iz l) = true
  | [] => rfl
  | x :: l => by show (true && plains (iz l)) = true; rw [plains_iz l]; rfl
theorem idx_max {vs : List Int} (h : vs ≠ []) : idxOf (.int (maxL vs)) (iz vs) = some (.int (ixI vs : Nat)) := by
  unfold idxOf
  have hp : plain (.int (maxL vs)) = true := rfl
  have hd : dep (.int (maxL vs)) = 0 := rfl
  rw [hp, plains_iz, hd]
  simp only [Bool.and_self, Bool.true_and, Nat.zero_le, decide_true, if_true]
  have e : (iz vs).findIdx? (fun x => eqv x (.int (maxL vs))) = some (ixI vs) := by
    unfold iz
    rw [List.findIdx?_map]
    have e2 : ((fun x => eqv x (.int (maxL vs))) ∘ D.int) = fun v : Int => v == maxL vs := rfl
    rw [e2, List.findIdx?_eq_some_iff_findIdx_eq]
    exact ⟨ixI_lt h, rfl⟩
  rw [e]; rfl
/-- the first hole of the best lead -/
def bestI (n d : Nat) (x : B) : Nat := (mv 0 x.ms).getD (ixI (valI n d x)) 0
theorem val_len (n d : Nat) (x : B) : (valI n d x).length = (mv 0 x.ms).length := by simp [valI]
theorem nats_at {l : List Nat} {j : Nat} (h : j < l.length) : idxD (.tup (nats l)) (.int (j : Nat)) = some (.int (l.getD j 0 : Nat)) := by
  show atI (nats l) (j : Int) = _
  have h1 : (j : Int) < ((nats l).length : Nat) := by simp [nats]; omega
  unfold atI ixN
  rw [if_pos (by omega), if_pos h1]
  simp [nats, h, List.getD_eq_getElem?_getD]
theorem nats_at' {l : List Nat} {j : Nat} (h : j < l.length) : idxD (.lst (nats l)) (.int (j : Nat)) = some (.int (l.getD j 0 : Nat)) := nats_at h
theorem val_ne {n d : Nat} {x : B} (hp : ∀ y ∈ x.ms, 0 ≤ y) (h0 : x.ms.sum ≠ 0) : valI n d x ≠ [] := by
  unfold valI
  simp only [ne_eq, List.map_eq_nil_iff]
  exact mv_ne 0 hp h0
theorem bestI_mem {n d : Nat} {x : B} (hp : ∀ y ∈ x.ms, 0 ≤ y) (h0 : x.ms.sum ≠ 0) : bestI n d x ∈ mv 0 x.ms := by
  have := ixI_lt (val_ne (n := n) (d := d) hp h0)
  rw [val_len] at this
  unfold bestI
  rw [List.getD_eq_getElem?_getD, List.getElem?_eq_getElem this]
  simp
theorem b7_eq : b7 = b7.take 3 ++ (.fors (.one 3) (.seq (.meth 0 (.var 0) .nil)) body7 :: .ret (.idx (.cons (.meth 0 (.var 0) (.nil)) (.cons (.lm .index (.own 2) (.cons (.bf .max (.cons (.own 2) .nil)) .nil)) .nil))) :: []) := rfl
section
variable {x : B} {n : Nat} {t : Int}
theorem body7_ok (h : Ok x n t) (h0 : x.ms.sum ≠ 0) (cf : CF) (d : Nat) (ho : cf.c 0 3 [bD x] = .ok (.bl (x.ms.sum == 0)) []) (hmv : cf.c 0 1 [bD x] = .ok (.tup (nats (mv 0 x.ms))) []) (h1 : ∀ i ∈ mv 0 x.ms, cf.c 0 2 [bD x, .int (i : Nat)] = .ok (.tup [bD (sow n x i).1, .bl (sow n x i).2]) [])
    (h2 : ∀ i ∈ mv 0 x.ms, cf.c 0 6 [bD (sow n x i).1, .int (((d + 1 : Nat) : Int) - 1)] = .ok (.int (lookI n d (sow n x i).1)) []) :
    ∃ e, evSs pg.tb cf b7 [some (bD x), some (.int (d + 1 : Nat)), none, none, none, none, none] = .ret (.int (bestI n d x : Nat)) e := by
  have m0 := meth_ok cf x (m := 2) (f := 3) (o := .var 0) (es := .nil) (env := [some (bD x), some (.int (d + 1 : Nat)), none, none, none, none, none]) (env1 := [some (bD x), some (.int (d + 1 : Nat)), none, none, none, none, none]) (env2 := [some (bD x), some (.int (d + 1 : Nat)), none, none, none, none, none]) rfl (by rw [y_var]; rfl) rfl y_nil ho (by simp)
  have m1 := meth_ok cf x (m := 0) (f := 1) (o := .var 0) (es := .nil) (env := [some (bD x), some (.int (d + 1 : Nat)), some (.lst []), none, none, none, none]) (env1 := [some (bD x), some (.int (d + 1 : Nat)), some (.lst []), none, none, none, none]) (env2 := [some (bD x), some (.int (d + 1 : Nat)), some (.lst []), none, none, none, none]) rfl (by rw [y_var]; rfl) rfl y_nil hmv (by simp)
  have h0b : (x.ms.sum == 0) = false := by simpa using h0
  rw [h0b] at m0
  have hne := val_ne (n := n) (d := d) h.mp h0
  have ml := mv_len x.ms 0
  have e1 := h.m
  have e2 := h.h2
  obtain ⟨h', k', a', b', hl⟩ := loop7 cf x n ((d + 1 : Nat) : Int) (lookI n d) h1 h2 (mv 0 x.ms) [] none none none none (fun _ z => z) (by simp; omega)
  rw [List.nil_append] at hl
  have hlt : ixI (valI n d x) < (mv 0 x.ms).length := by
    have := ixI_lt hne
    rwa [val_len] at this
  have hidx := nats_at hlt
  have hmx := max_lst hne
  have hix := idx_max hne
  have hd : decide (((d + 1 : Nat) : Int) < 1) = false := by simp; omega
  have m2 := fun e => meth_ok cf x (m := 0) (f := 1) (o := .var 0) (es := .nil) (env := [some (bD x), some (.int (d + 1 : Nat)), some (.lst (iz (valI n d x))), h', k', a', b']) (env1 := [some (bD x), some (.int (d + 1 : Nat)), some (.lst (iz (valI n d x))), h', k', a', b']) (env2 := [some (bD x), some (.int (d + 1 : Nat)), some (.lst (iz (valI n d x))), h', k', a', b']) rfl (by rw [y_var]; rfl) rfl y_nil hmv e
  have m2 := m2 (by simp)
  have hbe : (mv 0 x.ms).getD (ixI (valI n d x)) 0 = bestI n d x := rfl
  rw [hbe] at hidx
  have hvl : (mv 0 x.ms).map (fun i => sgn (sow n x i).2 (lookI n d (sow n x i).1)) = valI n d x := rfl
  rw [hvl] at hl
  generalize valI n d x = vl at *
  generalize bestI n d x = bi at *
  generalize ixI vl = jx at *
  generalize maxL vl = mx at *
  generalize ((d + 1 : Nat) : Int) = di at *
  refine ⟨[some (bD x), some (.int di), some (.lst (iz vl)), h', k', a', b'], ?_⟩
  rw [b7_eq, z_app]
  have e0 : evSs pg.tb cf (b7.take 3) [some (bD x), some (.int di), none, none, none, none, none] = .nx [some (bD x), some (.int di), some (.lst []), none, none, none, none] := by
    simp only [b7, List.take]
    simp [startE, get_lit, Env.put, outsOf, okLen, setO, isNew, kindOf, z_nil, z_cons, z_set, z_thaw, z_bind, z_par2, z_expr, z_ret, z_retO, z_raise, z_ite, z_fors, z_whil, z_brk, z_cont, z_pass, z_setFld, z_augIx, z_setIx, z_bindX, tg_nil, tg_nm, tg_ix, y_var, y_con, y_glob, y_op, y_cmp, y_idx, y_chain, y_no, y_neg, y_and, y_or, y_ite, y_tup, y_lst, y_bf, y_mm, y_lm, y_call, y_meth, y_make, y_fld, y_nil, y_cons, y_seq, y_c0, y_c1, y_slice, y_p0, y_p1, y_enum, y_rng1, y_rng2, y_lcTurn, m0, hd]
  rw [e0, seq_nx, z_cons, z_fors, y_seq, m1, bind_ok, items_tup, of_some, o_ok]
  refine Eq.trans (congrArg (fun o => O.seq o _) hl) ?_
  have hlm : lmD .index (.lst (iz vl)) [.int mx] = some (.int (jx : Nat)) := hix
  rw [seq_nx]
  simp [z_cons, z_ret, y_idx, y_cons, y_nil, y_lm, y_bf, get_lit, m2, hmx, hlm, hidx]
theorem best_ok (h : Ok x n t) (h0 : x.ms.sum ≠ 0) (k d : Nat) : (lev pg (k + d + 5)).c 0 7 [bD x, .int (d + 1 : Nat)] = .ok (.int (bestI n d x : Nat)) [] := by
  have e1 := h.m
  have hlt : ∀ i ∈ mv 0 x.ms, i < n := fun i hi => by
    have := ((mem_mv x.ms 0 i).mp hi).2.1
    omega
  obtain ⟨e, he⟩ := body7_ok h h0 (lev pg (k + d + 4)) d (over_ok (k + d + 3)) (moves_ok h (k + d + 3)) (fun i hi => sow_ok h (k + d + 1) hi) (fun i hi => by
    have hd : (((d + 1 : Nat) : Int) - 1) = (d : Nat) := by omega
    rw [hd]
    exact look_ok d k (sow_ok' h (hlt i hi)))
  rw [lev_call (df := d7) rfl rfl]
  show endD d7 (evSs pg.tb (lev pg (k + d + 4)) b7 [some (bD x), some (.int (d + 1 : Nat)), none, none, none, none, none]) = _
  rw [he]
  rfl
theorem best_over (h0 : x.ms.sum = 0) (k : Nat) (v : Int) : (lev pg (k + 2)).c 0 7 [bD x, .int v] = .exc 2 [] := by
  rw [lev_call (df := d7) rfl rfl]
  have ho := over_ok (x := x) k
  have h0b : (x.ms.sum == 0) = true := by simpa using h0
  rw [h0b] at ho
  generalize lev pg (k + 1) = cf at ho
  have m0 := meth_ok cf x (m := 2) (f := 3) (o := .var 0) (es := .nil) (env := [some (bD x), some (.int v), none, none, none, none, none]) (env1 := [some (bD x), some (.int v), none, none, none, none, none]) (env2 := [some (bD x), some (.int v), none, none, none, none, none]) rfl (by rw [y_var]; rfl) rfl y_nil ho (by simp)
  show endD d7 (evSs pg.tb cf b7 [some (bD x), some (.int v), none, none, none, none, none]) = _
  rw [b7_eq, z_app]
  simp only [b7, List.take]
  simp [startE, get_lit, Env.put, outsOf, okLen, setO, isNew, kindOf, z_nil, z_cons, z_set, z_thaw, z_bind, z_par2, z_expr, z_ret, z_retO, z_raise, z_ite, z_fors, z_whil, z_brk, z_cont, z_pass, z_setFld, z_augIx, z_setIx, z_bindX, tg_nil, tg_nm, tg_ix, y_var, y_con, y_glob, y_op, y_cmp, y_idx, y_chain, y_no, y_neg, y_and, y_or, y_ite, y_tup, y_lst, y_bf, y_mm, y_lm, y_call, y_meth, y_make, y_fld, y_nil, y_cons, y_seq, y_c0, y_c1, y_slice, y_p0, y_p1, y_enum, y_rng1, y_rng2, y_lcTurn, m0]
  rfl
theorem best_zero (h0 : x.ms.sum ≠ 0) (k : Nat) : (lev pg (k + 2)).c 0 7 [bD x, .int 0] = .exc 3 [] := by
  rw [lev_call (df := d7) rfl rfl]
  have ho := over_ok (x := x) k
  have h0b : (x.ms.sum == 0) = false := by simpa using h0
  rw [h0b] at ho
  generalize lev pg (k + 1) = cf at ho
  have m0 := meth_ok cf x (m := 2) (f := 3) (o := .var 0) (es := .nil) (env := [some (bD x), some (.int 0), none, none, none, none, none]) (env1 := [some (bD x), some (.int 0), none, none, none, none, none]) (env2 := [some (bD x), some (.int 0), none, none, none, none, none]) rfl (by rw [y_var]; rfl) rfl y_nil ho (by simp)
  show endD d7 (evSs pg.tb cf b7 [some (bD x), some (.int 0), none, none, none, none, none]) = _
  rw [b7_eq, z_app]
  simp only [b7, List.take]
  simp [startE, get_lit, Env.put, outsOf, okLen, setO, isNew, kindOf, z_nil, z_cons, z_set, z_thaw, z_bind, z_par2, z_expr, z_ret, z_retO, z_raise, z_ite, z_fors, z_whil, z_brk, z_cont, z_pass, z_setFld, z_augIx, z_setIx, z_bindX, tg_nil, tg_nm, tg_ix, y_var, y_con, y_glob, y_op, y_cmp, y_idx, y_chain, y_no, y_neg, y_and, y_or, y_ite, y_tup, y_lst, y_bf, y_mm, y_lm, y_call, y_meth, y_make, y_fld, y_nil, y_cons, y_seq, y_c0, y_c1, y_slice, y_p0, y_p1, y_enum, y_rng1, y_rng2, y_lcTurn, m0]
  rfl
/-- a hole that may not be sown -/
theorem sow_no (h : Ok x n t) (k i : Nat) (hi : i ∉ mv 0 x.ms) : (lev pg (k + 2)).c 0 2 [bD x, .int (i : Nat)] = .exc 2 [] := by
  rw [lev_call (df := d2) rfl rfl]
  have hmv := moves_ok h k
  generalize lev pg (k + 1) = cf at hmv
  have hm := meth_ok cf x (m := 0) (f := 1) (o := .var 0) (es := .nil) (env := [some (bD x), some (.int (i : Nat)), none, none, none, none, none, none, none, none, none]) (env1 := [some (bD x), some (.int (i : Nat)), none, none, none, none, none, none, none, none, none]) (env2 := [some (bD x), some (.int (i : Nat)), none, none, none, none, none, none, none, none, none]) rfl (by rw [y_var]; rfl) rfl y_nil hmv (by simp)
  have hc : (mv 0 x.ms).contains i = false := by simpa using hi
  have hnot := notin_nats i (mv 0 x.ms)
  rw [hc] at hnot
  show endD d2 (evSs pg.tb cf b2 [some (bD x), some (.int (i : Nat)), none, none, none, none, none, none, none, none, none]) = _
  rw [b2_eq, z_app]
  simp only [preP, b2, List.take]
  simp [get_lit, z_nil, z_cons, z_ite, z_raise, y_var, y_cmp, y_cons, y_nil, hm, hnot]
  rfl
end
end Bh.K09
/-! text P19 -/
set_option linter.all false
set_option maxRecDepth 100000
set_option maxHeartbeats 4000000
/-! P19: how far a turn that goes again goes. -/
namespace Bh.K09
theorem bump_at {r : List Int} {i p : Nat} (hi : i < r.length) : (bump r i).getD p 0 = r.getD p 0 + if i = p then 1 else 0 := by
  unfold bump
  by_cases h : i = p
  · subst h; rw [getD_set_self hi]; simp
  · rw [getD_set h]; simp [h]
theorem sowR_mono {r : List Int} {h p : Nat} (hl : 0 < r.length) : ∀ j, r.getD p 0 ≤ (sowR r h j).getD p 0
  | 0 => Int.le_refl _
  | j + 1 => by
    have ih := sowR_mono (h := h) (p := p) hl j
    rw [sowR, bump_at (by rw [sowR_len]; exact Nat.mod_lt _ hl)]
    split <;> omega
theorem sowR_mono2 {r : List Int} {h p : Nat} (hl : 0 < r.length) (j : Nat) : ∀ m, (sowR r h j).getD p 0 ≤ (sowR r h (j + m)).getD p 0
  | 0 => Int.le_refl _
  | m + 1 => by
    have ih := sowR_mono2 (h := h) (p := p) hl j m
    rw [← Nat.add_assoc, sowR, bump_at (by rw [sowR_len]; exact Nat.mod_lt _ hl)]
    split <;> omega
theorem sowR_keep {r : List Int} {h : Nat} (hl : h < r.length) : ∀ j, j < r.length → (sowR r h j).getD h 0 = r.getD h 0
  | 0, _ => rfl
  | j + 1, hj => by
    have ih := sowR_keep hl j (by omega)
    rw [sowR, bump_at (by rw [sowR_len]; exact Nat.mod_lt _ (by omega)), ih]
    have : ¬ (h + j + 1) % r.length = h := by
      intro z
      by_cases c : h + j + 1 < r.length
      · rw [Nat.mod_eq_of_lt c] at z; omega
      · rw [Nat.mod_eq_sub_mod (by omega), Nat.mod_eq_of_lt (by omega)] at z; omega
    rw [if_neg this]; omega
theorem sowR_all {r : List Int} {h p j : Nat} (hl : h < r.length) (hp : p < r.length) (hj : r.length ≤ j) : r.getD p 0 + 1 ≤ (sowR r h j).getD p 0 := by
  obtain ⟨q, hq, e⟩ : ∃ q, q < r.length ∧ (h + q + 1) % r.length = p := by
    by_cases c : h < p
    · exact ⟨p - h - 1, by omega, by rw [Nat.mod_eq_of_lt (by omega)]; omega⟩
    · exact ⟨p + r.length - h - 1, by omega, by
        rw [Nat.mod_eq_sub_mod (by omega), Nat.mod_eq_of_lt (by omega)]; omega⟩
  have h1 := sowR_mono (h := h) (p := p) (r := r) (by omega) q
  have h2 : (sowR r h (q + 1)).getD p 0 = (sowR r h q).getD p 0 + 1 := by
    rw [sowR, bump_at (by rw [sowR_len]; exact Nat.mod_lt _ (by omega)), e]; simp
  have h3 := sowR_mono2 (h := h) (p := p) (r := r) (by omega) (q + 1) (j - (q + 1))
  have e3 : q + 1 + (j - (q + 1)) = j := by omega
  rw [e3] at h3
  omega
theorem sum_pt : ∀ {a b : List Int} {e : Int}, a.length = b.length → (∀ p, p < a.length → a.getD p 0 + e ≤ b.getD p 0) → a.sum + a.length * e ≤ b.sum
  | [], [], e, _, _ => by simp
  | [], _ :: _, _, h, _ => by simp at h
  | _ :: _, [], _, h, _ => by simp at h
  | x :: a, y :: b, e, hl, h => by
    have h0 := h 0 (by simp)
    have ih := sum_pt (a := a) (b := b) (e := e) (by simpa using hl) fun p hp => by
      have := h (p + 1) (by simpa using hp)
      simpa [List.getD_cons_succ] using this
    simp [List.getD_eq_getElem?_getD] at h0
    rw [List.sum_cons, List.sum_cons, List.length_cons]
    push_cast
    rw [Int.add_mul]
    omega
theorem mv_lt : ∀ {l : List Int} {k i : Nat}, i < l.length → l.getD i 0 ≤ 0 → (mv k l).length < l.length
  | [], k, i, h, _ => by simp at h
  | x :: l, k, 0, _, h => by
    rw [show mv k (x :: l) = if 0 < x then k :: mv (k + 1) l else mv (k + 1) l from rfl]
    simp [List.getD_eq_getElem?_getD] at h
    have := mv_len l (k + 1)
    rw [if_neg (by omega)]
    simp; omega
  | x :: l, k, i + 1, hl, h => by
    rw [show mv k (x :: l) = if 0 < x then k :: mv (k + 1) l else mv (k + 1) l from rfl]
    have ih := mv_lt (l := l) (k := k + 1) (i := i) (by simpa using hl) (by simpa [List.getD_cons_succ] using h)
    split <;> simp <;> omega
section
variable {x : B} {n : Nat} {t : Int}
theorem ring_hi (h : Ok x n t) (p : Nat) : (ring x).getD (n + 1 + p) 0 = x.os.getD p 0 := by
  have := h.m
  simp only [ring, List.getD_eq_getElem?_getD]
  rw [List.getElem?_append_right (by simp; omega)]
  congr 2
  simp; omega
theorem ring_n (h : Ok x n t) : (ring x).getD n 0 = x.a := by
  have := h.m
  simp only [ring, List.getD_eq_getElem?_getD, List.append_assoc]
  rw [List.getElem?_append_right (by omega)]
  simp [h.m]
theorem kid_ok (h : Ok x n t) {i : Nat} (hi : i ∈ mv 0 x.ms) (ha : (sow n x i).2 = true) : ((mv 0 (sow n x i).1.ms).length ≤ 3 ∧ (sow n x i).1.ms.sum ≤ x.ms.sum) ∨ (sow n x i).1.ms.sum + 5 ≤ x.ms.sum := by
  have hin := (mem_mv x.ms 0 i).mp hi
  simp only [Nat.sub_zero] at hin
  have e1 := h.m
  have e2 := h.h2
  have e3 := h.o
  have hi2 : i < n := by omega
  have hok := sow_ok' h hi2
  obtain ⟨k, ek⟩ : ∃ k : Nat, x.ms.getD i 0 = (k : Int) := ⟨(x.ms.getD i 0).toNat, by omega⟩
  have ek2 : (x.ms.getD i 0).toNat = k := by omega
  have hs := hok.sum
  have hs0 := h.sum
  have hr : ((ring x).set i 0).length = 2 * n + 1 := by rw [List.length_set, ring_len h]
  have hq : (i + k) % (2 * n + 1) = n := by
    unfold sow at ha
    rw [ek2] at ha
    by_cases c : (i + k) % (2 * n + 1) = n
    · exact c
    · rw [if_neg c] at ha; simp at ha
  have ef : fin n x i = sowR ((ring x).set i 0) i k := by
    unfold fin
    rw [ek2, hq]
    unfold capt
    rw [if_neg (by omega)]
  have es : (sow n x i).1 = ⟨(sowR ((ring x).set i 0) i k).take n, (sowR ((ring x).set i 0) i k).drop (n + 1), (sowR ((ring x).set i 0) i k).getD n 0, x.b, x.f⟩ := by
    rw [← ef]
    unfold sow
    rw [ek2, if_pos hq]
  rw [es] at hs hok ⊢
  have rh : ∀ p, ((ring x).set i 0).getD (n + 1 + p) 0 = x.os.getD p 0 := fun p => by rw [getD_set (by omega), ring_hi h]
  have rn : ((ring x).set i 0).getD n 0 = x.a := by rw [getD_set (by omega), ring_n h]
  have ri : ((ring x).set i 0).getD i 0 = 0 := getD_set_self (by rw [ring_len h]; omega)
  generalize (ring x).set i 0 = r at *
  have dl : ((sowR r i k).drop (n + 1)).length = n := by simp [sowR_len]; omega
  have da : ∀ p, ((sowR r i k).drop (n + 1)).getD p 0 = (sowR r i k).getD (n + 1 + p) 0 := fun p => by simp [List.getD_eq_getElem?_getD]
  dsimp only at hs
  by_cases hk : k < 2 * n + 1
  · left
    have o1 := sum_pt (a := x.os) (b := (sowR r i k).drop (n + 1)) (e := 0) (by omega) (fun p hp => by
      rw [da, ← rh]
      have := sowR_mono (r := r) (h := i) (p := n + 1 + p) (by omega) k
      omega)
    have o2 := sowR_mono (r := r) (h := i) (p := n) (by omega) k
    have z := sowR_keep (r := r) (h := i) (by omega) k (by omega)
    have tl : ((sowR r i k).take n).length = n := by simp [sowR_len]; omega
    have tz : ((sowR r i k).take n).getD i 0 ≤ 0 := by
      rw [List.getD_eq_getElem?_getD, List.getElem?_take_of_lt hi2, ← List.getD_eq_getElem?_getD, z, ri]; omega
    have lt := mv_lt (k := 0) (by rw [tl]; exact hi2) tz
    refine ⟨by dsimp only; omega, ?_⟩
    dsimp only
    omega
  · have hn4 : n = 4 ∨ n ≤ 3 := by omega
    have o1 := sum_pt (a := x.os) (b := (sowR r i k).drop (n + 1)) (e := 1) (by omega) (fun p hp => by
      rw [da, ← rh]
      exact sowR_all (by omega) (by omega) (by omega))
    have o2 := sowR_all (r := r) (h := i) (p := n) (j := k) (by omega) (by omega) (by omega)
    rcases hn4 with hn4 | hn3
    · right
      dsimp only
      omega
    · left
      have tl : ((sowR r i k).take n).length = n := by simp [sowR_len]; omega
      have ml := mv_len ((sowR r i k).take n) 0
      refine ⟨by dsimp only; omega, ?_⟩
      dsimp only
      omega
end
end Bh.K09
/-! text P20 -/
set_option linter.all false
set_option maxRecDepth 100000
set_option maxHeartbeats 4000000
/-! P20: the ways of a turn: by depth, by rounds. -/
namespace Bh.K09
abbrev Nd := B × List Nat
abbrev Wy := Int × List Nat
def gn (a0 : Int) (r : B × Bool) : Int := (if r.2 then r.1.a else r.1.b) - a0
def ways1 (n : Nat) (a0 : Int) (c : Nd) : List Wy := (mv 0 c.1.ms).map fun i => (gn a0 (sow n c.1 i), c.2 ++ [i])
def kid (n : Nat) (c : Nd) (i : Nat) : List Nd := if (sow n c.1 i).2 then [((sow n c.1 i).1, c.2 ++ [i])] else []
def kids (n : Nat) (c : Nd) : List Nd := (mv 0 c.1.ms).flatMap (kid n c)
def ord (n : Nat) (a0 : Int) : Nat → Nd → List Wy
  | 0, c => ways1 n a0 c
  | d + 1, c => ways1 n a0 c ++ (kids n c).reverse.flatMap (ord n a0 d)
def siz (n : Nat) : Nat → Nd → Nat
  | 0, _ => 1
  | d + 1, c => 1 + ((kids n c).reverse.map (siz n d)).sum
/-- round by round -/
def bfs (n : Nat) (a0 : Int) : Nat → List Nd → List Wy
  | 0, l => l.flatMap (ways1 n a0)
  | d + 1, l => l.flatMap (ways1 n a0) ++ bfs n a0 d (l.flatMap (kids n))
theorem mem_bfs {n : Nat} {a0 : Int} {q : Wy} : ∀ (d : Nat) (l : List Nd), q ∈ bfs n a0 d l ↔ ∃ c ∈ l, q ∈ ord n a0 d c
  | 0, l => by simp [bfs, ord, List.mem_flatMap]
  | d + 1, l => by
    rw [bfs, List.mem_append, mem_bfs d]
    simp only [List.mem_flatMap, ord, List.mem_append, List.mem_reverse]
    constructor
    · rintro (⟨c, hc, h⟩ | ⟨e, ⟨c, hc, he⟩, h⟩)
      · exact ⟨c, hc, .inl h⟩
      · exact ⟨c, hc, .inr ⟨e, he, h⟩⟩
    · rintro ⟨c, hc, h | ⟨e, he, h⟩⟩
      · exact .inl ⟨c, hc, h⟩
      · exact .inr ⟨e, ⟨c, hc, he⟩, h⟩
theorem sum_map_add {α : Type} (f g : α → Nat) : ∀ l : List α, (l.map fun x => f x + g x).sum = (l.map f).sum + (l.map g).sum
  | [] => rfl
  | x :: l => by simp only [List.map_cons, List.sum_cons, sum_map_add f g l]; omega
theorem sum_flatMap {α β : Type} (f : α → List β) (g : β → Nat) : ∀ l : List α, ((l.flatMap f).map g).sum = (l.map fun x => ((f x).map g).sum).sum
  | [] => rfl
  | x :: l => by simp only [List.flatMap_cons, List.map_append, List.sum_append, List.map_cons, List.sum_cons, sum_flatMap f g l]
theorem sum_rev {α : Type} (f : α → Nat) (l : List α) : (l.reverse.map f).sum = (l.map f).sum := by
  induction l with
  | nil => rfl
  | cons x l ih => rw [List.reverse_cons, List.map_append, List.sum_append, ih]; simp; omega
theorem len_flatMap {α β : Type} (f : α → List β) (l : List α) : (l.flatMap f).length = (l.map fun x => (f x).length).sum := by
  rw [List.length_flatMap]
theorem len_bfs {n : Nat} {a0 : Int} : ∀ (d : Nat) (l : List Nd), (bfs n a0 d l).length = (l.map fun c => (ord n a0 d c).length).sum
  | 0, l => by rw [bfs, len_flatMap]; rfl
  | d + 1, l => by
    rw [bfs, List.length_append, len_bfs d, len_flatMap, sum_flatMap, ← sum_map_add]
    congr 1
    refine List.map_congr_left fun c _ => ?_
    show _ = (ways1 n a0 c ++ _).length
    rw [List.length_append, len_flatMap, sum_rev]
theorem sum_le {α : Type} (f : α → Nat) (m : Nat) : ∀ l : List α, (∀ x ∈ l, f x ≤ m) → (l.map f).sum ≤ l.length * m
  | [], _ => by simp
  | x :: l, h => by
    have := sum_le f m l fun y hy => h y (by simp [hy])
    have := h x (by simp)
    simp only [List.map_cons, List.sum_cons, List.length_cons, Nat.add_mul]
    omega
def pb : Nat → Nat → Nat
  | 0, _ => 1
  | d + 1, 0 => 1 + 3 * pb d 0
  | d + 1, j + 1 => 1 + max (3 * pb d (j + 1)) (4 * pb d j)
theorem pb1 (d j : Nat) : 1 + 3 * pb d j ≤ pb (d + 1) j := by
  cases j with
  | zero => exact Nat.le_refl _
  | succ j => show _ ≤ 1 + max _ _; omega
theorem pb2 (d j : Nat) : 1 + 4 * pb d j ≤ pb (d + 1) (j + 1) := by
  show _ ≤ 1 + max _ _; omega
section
variable {n : Nat} {t : Int}
theorem ord_len (a0 : Int) : ∀ (d : Nat) (c : Nd) (j : Nat), Ok c.1 n t → c.1.ms.sum ≤ 5 * (j : Int) + 4 → (ord n a0 d c).length ≤ (mv 0 c.1.ms).length * pb d j
  | 0, c, j, h, hj => by simp [ord, ways1, pb]
  | d + 1, c, j, h, hj => by
    have e1 := h.m
    have e : (ord n a0 (d + 1) c).length = ((mv 0 c.1.ms).map fun i => 1 + ((kid n c i).map fun e => (ord n a0 d e).length).sum).sum := by
      rw [ord, List.length_append, len_flatMap, sum_rev, kids, sum_flatMap, sum_map_add]
      simp only [ways1, List.length_map, List.map_const', List.sum_replicate_nat, Nat.mul_one]
    rw [e]
    refine sum_le _ _ _ fun i hi => ?_
    have hin := (mem_mv c.1.ms 0 i).mp hi
    have p1 := pb1 d j
    unfold kid
    cases ha : (sow n c.1 i).2 with
    | false => simp; omega
    | true =>
      have hok := sow_ok' h (i := i) (by omega)
      have e2 := hok.m
      have e3 := h.h2
      have ml := mv_len (sow n c.1 i).1.ms 0
      simp only [if_true, List.map_cons, List.map_nil, List.sum_cons, List.sum_nil, Nat.add_zero]
      rcases kid_ok h hi ha with ⟨k1, k2⟩ | k1
      · have ih := ord_len a0 d ((sow n c.1 i).1, c.2 ++ [i]) j hok (by dsimp only; omega)
        have := Nat.mul_le_mul_right (pb d j) k1
        dsimp only at ih
        omega
      · have hp := sum_pos hok.mp
        obtain ⟨j, rfl⟩ : ∃ j', j = j' + 1 := ⟨j - 1, by omega⟩
        have p2 := pb2 d j
        have ih := ord_len a0 d ((sow n c.1 i).1, c.2 ++ [i]) j hok (by dsimp only; omega)
        have := Nat.mul_le_mul_right (pb d j) (show (mv 0 (sow n c.1 i).1.ms).length ≤ 4 by omega)
        dsimp only at ih
        omega
theorem kids_len {c : Nd} (h : Ok c.1 n t) : (kids n c).length ≤ 4 := by
  have e1 := h.m
  have e2 := h.h2
  have ml := mv_len c.1.ms 0
  unfold kids
  rw [len_flatMap]
  have := sum_le (fun i => (kid n c i).length) 1 (mv 0 c.1.ms) fun i _ => by unfold kid; split <;> simp
  omega
theorem kids_ok {c e : Nd} (h : Ok c.1 n t) (he : e ∈ kids n c) : Ok e.1 n t := by
  have e1 := h.m
  obtain ⟨i, hi, he⟩ := List.mem_flatMap.mp he
  have hin := (mem_mv c.1.ms 0 i).mp hi
  unfold kid at he
  split at he
  · simp only [List.mem_singleton] at he
    subst he
    exact sow_ok' h (by omega)
  · simp at he
theorem siz_le : ∀ (d : Nat) (c : Nd), Ok c.1 n t → 3 * siz n d c + 1 ≤ 4 ^ (d + 1)
  | 0, c, h => by simp [siz]
  | d + 1, c, h => by
    rw [siz, sum_rev]
    have kl := kids_len h
    have ih : ∀ e ∈ kids n c, siz n d e ≤ (4 ^ (d + 1) - 1) / 3 := fun e he => by
      have := siz_le d e (kids_ok h he)
      omega
    have := sum_le (siz n d) _ _ ih
    have h2 := Nat.mul_le_mul_right ((4 ^ (d + 1) - 1) / 3) kl
    have h3 : 4 ^ (d + 1 + 1) = 4 * 4 ^ (d + 1) := by rw [Nat.pow_succ]; omega
    have h4 : 1 ≤ 4 ^ (d + 1) := Nat.one_le_pow _ _ (by decide)
    rw [h3]
    generalize 4 ^ (d + 1) = q at *
    omega
theorem ways_few (a0 : Int) {x : B} (h : Ok x n t) : (ord n a0 11 (x, [])).length ≤ 16000000 := by
  have e1 := h.m
  have e2 := h.h2
  have ml := mv_len x.ms 0
  have hs := h.sum
  have ht := h.t
  have h1 := sum_pos h.op
  have h2 := h.ap
  have h3 := h.bp
  have b := ord_len a0 11 (x, []) 4 h (by dsimp only; omega)
  have c : 4 * pb 11 4 ≤ 16000000 := by decide
  have := Nat.mul_le_mul_right (pb 11 4) (show (mv 0 x.ms).length ≤ 4 by omega)
  dsimp only at b
  omega
end
end Bh.K09
/-! text P21 -/
set_option linter.all false
set_option maxRecDepth 100000
set_option maxHeartbeats 4000000
/-! P21: the most in a turn: a turn of its loop. -/
namespace Bh.K09
def nD (c : Nd) : D := .tup [bD c.1, .tup (nats c.2)]
def wD (q : Wy) : D := .tup [.int q.1, .tup (nats q.2)]
def ltW (a b : List Nat) : Bool := ltToks (toks (.tup (nats a))) (toks (.tup (nats b)))
theorem deps_nats : ∀ l : List Nat, deps (nats l) = 0
  | [] => rfl
  | x :: l => by show max 0 (deps (nats l)) = 0; rw [deps_nats l]; rfl
theorem alikes_nats : ∀ l m : List Nat, alikes (nats l) (nats m) = true
  | [], m => rfl
  | x :: l, [] => rfl
  | x :: l, y :: m => by show (true && alikes (nats l) (nats m)) = true; rw [alikes_nats l m]; rfl
theorem lt_way (a b : List Nat) : cmpD .lt (.tup (nats a)) (.tup (nats b)) = some (ltW a b) := by
  show (if ordOk (.tup (nats a)) (.tup (nats b)) then some (ltToks (toks (.tup (nats a))) (toks (.tup (nats b)))) else none) = _
  have : ordOk (.tup (nats a)) (.tup (nats b)) = true := by
    unfold ordOk
    simp [plain, plains_nats, alike, alikes_nats, notNon, dep, deps_nats]
  rw [if_pos this]
  rfl
theorem lt_way' (a b : List Nat) : cmpB .lt (.tup (nats a)) (.tup (nats b)) = some (.bl (ltW a b)) := cmpB_some (lt_way a b)
def isBet (b q : Wy) : Bool := decide (b.1 < q.1) || ((q.1 == b.1) && ltW q.2 b.2)
def better (b q : Wy) : Wy := if isBet b q then q else b
theorem ne_stack (S : List Nd) : cmpD .ne (.lst (S.map nD)) (.lst []) = some (!S.isEmpty) := by
  cases S with
  | nil => rfl
  | cons c S =>
    show (if eqOk (.lst ((c :: S).map nD)) (.lst []) then some (!eqv (.lst ((c :: S).map nD)) (.lst [])) else (empC (.lst ((c :: S).map nD)) (.lst [])).map (!·)) = _
    have : eqOk (.lst ((c :: S).map nD)) (.lst []) = false := by
      simp [eqOk, plain, plains, nD, bD]
    rw [this]
    rfl
theorem snoc_nats (w : List Nat) (i : Nat) : nats w ++ [D.int (i : Nat)] = nats (w ++ [i]) := by simp [nats]
def body9 : List S := [.bind [8, 9] (.meth 1 (.var 4) (.cons (.var 3) .nil)), .set 6 (.op .sub (.cons (.ite (.var 9) (.idx (.cons (.fld (.cons (.var 8) .nil) 2) (.cons (.con (.int 0)) .nil))) (.idx (.cons (.fld (.cons (.var 8) .nil) 2) (.cons (.con (.int 1)) .nil)))) (.cons (.idx (.cons (.fld (.cons (.var 0) .nil) 2) (.cons (.con (.int 0)) .nil))) .nil))), .set 7 (.op .add (.cons (.var 5) (.cons (.tup (.cons (.var 3) .nil)) .nil))), .ite (.or (.cmp .gt (.cons (.var 6) (.cons (.idx (.cons (.var 1) (.cons (.con (.int 0)) .nil))) .nil))) (.and (.cmp .eq (.cons (.var 6) (.cons (.idx (.cons (.var 1) (.cons (.con (.int 0)) .nil))) .nil))) (.cmp .lt (.cons (.var 7) (.cons (.idx (.cons (.var 1) (.cons (.con (.int 1)) .nil))) .nil))))) [.set 1 (.tup (.cons (.var 6) (.cons (.var 7) .nil)))] [], .ite (.and (.var 9) (.cmp .lt (.cons (.bf .len (.cons (.var 7) .nil)) (.cons (.con (.int 12)) .nil)))) [.expr (.mm .append 2 (.cons (.tup (.cons (.var 8) (.cons (.var 7) .nil))) .nil))] []]
def body9a : List S := body9.take 3
def body9b : S := match body9[3]? with
  | some s => s
  | none => .pass
def body9c : S := match body9[4]? with
  | some s => s
  | none => .pass
theorem body9_eq : body9 = body9a ++ [body9b, body9c] := rfl
theorem t9a (cf : CF) (x y y' : B) (bw st : D) (i : Nat) (w : List Nat) (ag : Bool) (o6 o7 o8 o9 : Option D) (h1 : cf.c 0 2 [bD y, .int (i : Nat)] = .ok (.tup [bD y', .bl ag]) []) (hw : w.length ≤ 100) :
    evSs pg.tb cf body9a [some (bD x), some bw, some st, some (.int (i : Nat)), some (bD y), some (.tup (nats w)), o6, o7, o8, o9] = .nx [some (bD x), some bw, some st, some (.int (i : Nat)), some (bD y), some (.tup (nats w)), some (.int (gn x.a (y', ag))), some (.tup (nats (w ++ [i]))), some (bD y'), some (.bl ag)] := by
  have m1 := meth_ok cf y (m := 1) (f := 2) (o := .var 4) (es := .cons (.var 3) .nil) (env := [some (bD x), some bw, some st, some (.int (i : Nat)), some (bD y), some (.tup (nats w)), o6, o7, o8, o9]) (env1 := [some (bD x), some bw, some st, some (.int (i : Nat)), some (bD y), some (.tup (nats w)), o6, o7, o8, o9]) (env2 := [some (bD x), some bw, some st, some (.int (i : Nat)), some (bD y), some (.tup (nats w)), o6, o7, o8, o9]) rfl (by rw [y_var]; rfl) rfl (by simp [y_cons, y_nil, y_var, get_lit]) h1 (by simp)
  have i0 : ∀ a b : D, idxD (.tup [a, b]) (.int 0) = some a := fun a b => rfl
  have i1 : ∀ a b : D, idxD (.tup [a, b]) (.int 1) = some b := fun a b => rfl
  have hn : (nats w).length + 1 ≤ 16777216 := by simp [nats]; omega
  unfold body9a body9
  simp only [List.take]
  cases ag <;> simp [get_lit, Env.put, bindT, okLen, z_cons, z_nil, z_bind, z_set, y_ite, y_var, y_con, y_op, y_idx, y_fld, y_tup, y_cons, y_nil, m1, f2, i0, i1, hn, snoc_nats, gn]
theorem t9b (cf : CF) (x y y' : B) (b q : Wy) (st i w ag : D) :
    evS pg.tb cf body9b [some (bD x), some (wD b), some st, some i, some (bD y), some w, some (.int q.1), some (.tup (nats q.2)), some (bD y'), some ag] = .nx [some (bD x), some (wD (better b q)), some st, some i, some (bD y), some w, some (.int q.1), some (.tup (nats q.2)), some (bD y'), some ag] := by
  have i0 : ∀ a b : D, idxD (.tup [a, b]) (.int 0) = some a := fun a b => rfl
  have i1 : ∀ a b : D, idxD (.tup [a, b]) (.int 1) = some b := fun a b => rfl
  simp only [body9b, body9, List.getElem?_cons_succ, List.getElem?_cons_zero]
  obtain ⟨bg, bw⟩ := b
  obtain ⟨qg, qw⟩ := q
  by_cases h1 : bg < qg
  · simp [get_lit, Env.put, okLen, z_cons, z_nil, z_ite, z_set, y_or, y_and, y_cmp, y_var, y_con, y_idx, y_tup, y_cons, y_nil, i0, i1, wD, better, isBet, h1]
  · by_cases h2 : qg = bg
    · subst h2
      cases h3 : ltW qw bw <;> simp [get_lit, Env.put, okLen, z_cons, z_nil, z_ite, z_set, y_or, y_and, y_cmp, y_var, y_con, y_idx, y_tup, y_cons, y_nil, i0, i1, wD, better, isBet, lt_way', h3]
    · have h2b : (qg == bg) = false := by simpa using h2
      simp [get_lit, Env.put, okLen, z_cons, z_nil, z_ite, z_set, y_or, y_and, y_cmp, y_var, y_con, y_idx, y_tup, y_cons, y_nil, i0, i1, wD, better, isBet, h1, h2b]
theorem t9c (cf : CF) (x y y' : B) (bw i w g : D) (w' : List Nat) (st : List Nd) (ag : Bool) (hs : st.length ≤ 1000) (hw : w'.length ≤ 100) :
    evS pg.tb cf body9c [some (bD x), some bw, some (.lst (st.map nD)), some i, some (bD y), some w, some g, some (.tup (nats w')), some (bD y'), some (.bl ag)] = .nx [some (bD x), some bw, some (.lst ((st ++ (if ag && decide (w'.length < 12) then [(y', w')] else [])).map nD)), some i, some (bD y), some w, some g, some (.tup (nats w')), some (bD y'), some (.bl ag)] := by
  have hl : (nats w').length = w'.length := by simp [nats]
  have hn : st.length + 1 ≤ 16777216 := by omega
  simp only [body9c, body9, List.getElem?_cons_succ, List.getElem?_cons_zero]
  cases ag with
  | false => simp [get_lit, Env.put, okLen, z_cons, z_nil, z_ite, y_and, y_var]
  | true =>
    by_cases h : w'.length < 12
    · have h2 : decide ((w'.length : Int) < 12) = true := by simp; omega
      simp [get_lit, Env.put, okLen, z_cons, z_nil, z_ite, z_expr, y_and, y_cmp, y_var, y_con, y_bf, y_mm, y_tup, y_cons, y_nil, hl, h, h2, hn, nD]
    · have h2 : decide ((w'.length : Int) < 12) = false := by simp; omega
      simp [get_lit, Env.put, okLen, z_cons, z_nil, z_ite, z_expr, y_and, y_cmp, y_var, y_con, y_bf, y_mm, y_tup, y_cons, y_nil, hl, h, h2]
end Bh.K09
/-! text P22 -/
set_option linter.all false
set_option maxRecDepth 100000
set_option maxHeartbeats 4000000
/-! P22: the most in a turn: its loops. -/
namespace Bh.K09
structure O7 where
  a : Option D
  b : Option D
  c : Option D
  d : Option D
  e : Option D
  f : Option D
  g : Option D
def E9 (x : B) (b : Wy) (S : List Nd) (o : O7) : Env := [some (bD x), some (wD b), some (.lst (S.map nD)), o.a, o.b, o.c, o.d, o.e, o.f, o.g]
theorem turn9 (cf : CF) (x : B) (n : Nat) (y : B) (w : List Nat) (kd : Nat → List Nd) (hk : ∀ i, (if (sow n y i).2 && decide ((w ++ [i]).length < 12) then [((sow n y i).1, w ++ [i])] else []) = kd i) (hw : w.length ≤ 50) (b : Wy) (S : List Nd) (o : O7) (i : Nat) (h1 : cf.c 0 2 [bD y, .int (i : Nat)] = .ok (.tup [bD (sow n y i).1, .bl (sow n y i).2]) []) (hs : S.length ≤ 1000) :
    ∃ o', o'.b = some (bD y) ∧ o'.c = some (.tup (nats w)) ∧ evSs pg.tb cf body9 (E9 x b S ⟨some (.int (i : Nat)), some (bD y), some (.tup (nats w)), o.d, o.e, o.f, o.g⟩) = .nx (E9 x (better b (gn x.a (sow n y i), w ++ [i])) (S ++ kd i) o') := by
  refine ⟨⟨some (.int (i : Nat)), some (bD y), some (.tup (nats w)), some (.int (gn x.a (sow n y i))), some (.tup (nats (w ++ [i]))), some (bD (sow n y i).1), some (.bl (sow n y i).2)⟩, rfl, rfl, ?_⟩
  have a := t9a cf x y (sow n y i).1 (wD b) (.lst (S.map nD)) i w (sow n y i).2 o.d o.e o.f o.g h1 (by omega)
  have b1 := t9b cf x y (sow n y i).1 b (gn x.a (sow n y i), w ++ [i]) (.lst (S.map nD)) (.int (i : Nat)) (.tup (nats w)) (.bl (sow n y i).2)
  have c := t9c cf x y (sow n y i).1 (wD (better b (gn x.a (sow n y i), w ++ [i]))) (.int (i : Nat)) (.tup (nats w)) (.int (gn x.a (sow n y i))) (w ++ [i]) S (sow n y i).2 hs (by simp; omega)
  rw [hk] at c
  rw [body9_eq, z_app]
  unfold E9
  dsimp only at a b1 c ⊢
  rw [a, seq_nx, z_cons, b1, seq_nx, z_cons, c, seq_nx, z_nil]
theorem loop9 (cf : CF) (x : B) (n : Nat) (y : B) (w : List Nat) (kd : Nat → List Nd) (hk : ∀ i, (if (sow n y i).2 && decide ((w ++ [i]).length < 12) then [((sow n y i).1, w ++ [i])] else []) = kd i) (hw : w.length ≤ 50) (h1 : ∀ i ∈ mv 0 y.ms, cf.c 0 2 [bD y, .int (i : Nat)] = .ok (.tup [bD (sow n y i).1, .bl (sow n y i).2]) []) : ∀ (l : List Nat) (b : Wy) (S : List Nd) (o : O7), (∀ i ∈ l, i ∈ mv 0 y.ms) → S.length + l.length ≤ 1000 → o.b = some (bD y) → o.c = some (.tup (nats w)) →
    ∃ o', forL (.one 3) (evSs pg.tb cf body9) (nats l) (E9 x b S o) = .nx (E9 x ((l.map fun i => (gn x.a (sow n y i), w ++ [i])).foldl better b) (S ++ l.flatMap kd) o')
  | [], b, S, o, _, _, _, _ => ⟨o, by simp [nats, forL]⟩
  | i :: l, b, S, o, hm, hl, ob, oc => by
    simp only [List.length_cons] at hl
    obtain ⟨o1, b1, c1, t⟩ := turn9 cf x n y w kd hk hw b S o i (h1 i (hm i (by simp))) (by omega)
    have kl : (kd i).length ≤ 1 := by rw [← hk]; split <;> simp
    obtain ⟨o', ih⟩ := loop9 cf x n y w kd hk hw h1 l (better b (gn x.a (sow n y i), w ++ [i])) (S ++ kd i) o1 (fun j hj => hm j (by simp [hj])) (by simp; omega) b1 c1
    refine ⟨o', ?_⟩
    show forL (.one 3) _ (D.int (i : Nat) :: nats l) _ = _
    rw [forL, bind_one]
    have e0 : Env.put (E9 x b S o) 3 (.int (i : Nat)) = E9 x b S ⟨some (.int (i : Nat)), some (bD y), some (.tup (nats w)), o.d, o.e, o.f, o.g⟩ := by
      rw [← ob, ← oc]; rfl
    simp only [e0, t, ih, List.map_cons, List.foldl_cons, List.flatMap_cons, List.append_assoc]
def condW : E := .cmp .ne (.cons (.own 2) (.cons (.lst (.nil)) .nil))
def bodyW : List S := [.bind [4, 5] (.mm .pop 2 .nil), .fors (.one 3) (.seq (.meth 0 (.var 4) (.nil))) body9]
def wh9 (cf : CF) : Nat → Env → O := whileL (evE pg.tb cf condW) (evSs pg.tb cf bodyW)
theorem cond9 (cf : CF) (x : B) (b : Wy) (S : List Nd) (o : O7) : evE pg.tb cf condW (E9 x b S o) = .ok (.bl (!S.isEmpty)) (E9 x b S o) := by
  have := cmpB_some (ne_stack S)
  unfold condW E9
  simp [get_lit, okLen, y_cmp, y_lst, y_cons, y_nil, this]
section
variable {n : Nat} {t : Int}
theorem step9 (cf : CF) (x : B) (c : Nd) (kd : Nat → List Nd) (hk : ∀ i, (if (sow n c.1 i).2 && decide ((c.2 ++ [i]).length < 12) then [((sow n c.1 i).1, c.2 ++ [i])] else []) = kd i) (hw : c.2.length ≤ 50) (hmv : cf.c 0 1 [bD c.1] = .ok (.tup (nats (mv 0 c.1.ms))) []) (h1 : ∀ i ∈ mv 0 c.1.ms, cf.c 0 2 [bD c.1, .int (i : Nat)] = .ok (.tup [bD (sow n c.1 i).1, .bl (sow n c.1 i).2]) [])
    (b : Wy) (S : List Nd) (o : O7) (N : Nat) (hs : S.length + (mv 0 c.1.ms).length ≤ 1000) :
    ∃ o', wh9 cf (N + 1) (E9 x b (S ++ [c]) o) = wh9 cf N (E9 x ((ways1 n x.a c).foldl better b) (S ++ (mv 0 c.1.ms).flatMap kd) o') := by
  obtain ⟨o', hl⟩ := loop9 cf x n c.1 c.2 kd hk hw h1 (mv 0 c.1.ms) b S ⟨o.a, some (bD c.1), some (.tup (nats c.2)), o.d, o.e, o.f, o.g⟩ (fun _ z => z) hs rfl rfl
  refine ⟨o', ?_⟩
  have m1 := meth_ok cf c.1 (m := 0) (f := 1) (o := .var 4) (es := .nil) (env := E9 x b S ⟨o.a, some (bD c.1), some (.tup (nats c.2)), o.d, o.e, o.f, o.g⟩) (env1 := E9 x b S ⟨o.a, some (bD c.1), some (.tup (nats c.2)), o.d, o.e, o.f, o.g⟩) (env2 := E9 x b S ⟨o.a, some (bD c.1), some (.tup (nats c.2)), o.d, o.e, o.f, o.g⟩) rfl (by rw [y_var]; rfl) rfl y_nil hmv (by simp)
  have hb : evSs pg.tb cf bodyW (E9 x b (S ++ [c]) o) = .nx (E9 x ((ways1 n x.a c).foldl better b) (S ++ (mv 0 c.1.ms).flatMap kd) o') := by
    have e0 : evS pg.tb cf (.bind [4, 5] (.mm .pop 2 .nil)) (E9 x b (S ++ [c]) o) = .nx (E9 x b S ⟨o.a, some (bD c.1), some (.tup (nats c.2)), o.d, o.e, o.f, o.g⟩) := by
      unfold E9
      rw [List.map_append, List.map_cons, List.map_nil]
      simp [get_lit, Env.put, z_bind, y_mm, y_nil, bindT]
      unfold nD
      simp
    unfold bodyW
    rw [z_cons, e0, seq_nx, z_cons, z_fors, y_seq, m1, bind_ok, items_tup, of_some, o_ok]
    refine Eq.trans (congrArg (fun o => O.seq o _) hl) ?_
    rw [seq_nx, z_nil]
    rfl
  unfold wh9
  rw [whileL, cond9, o_ok]
  have : (!(S ++ [c]).isEmpty) = true := by simp
  rw [this]
  simp only [hb]
theorem list9 (k : Nat) (x : B) (d : Nat) (node : ∀ (c : Nd), Ok c.1 n t → c.2.length + d = 11 → ∀ (S : List Nd) (b : Wy) (N : Nat) (o : O7), S.length + 4 * d + 4 ≤ 1000 → ∃ o', wh9 (lev pg (k + 3)) (N + siz n d c) (E9 x b (S ++ [c]) o) = wh9 (lev pg (k + 3)) N (E9 x ((ord n x.a d c).foldl better b) S o')) :
    ∀ (l : List Nd), (∀ e ∈ l, Ok e.1 n t ∧ e.2.length + d = 11) → ∀ (S : List Nd) (b : Wy) (N : Nat) (o : O7), S.length + l.length + 4 * d + 4 ≤ 1000 → ∃ o', wh9 (lev pg (k + 3)) (N + (l.map (siz n d)).sum) (E9 x b (S ++ l.reverse) o) = wh9 (lev pg (k + 3)) N (E9 x ((l.flatMap (ord n x.a d)).foldl better b) S o')
  | [], _, S, b, N, o, _ => ⟨o, by simp⟩
  | e :: l, he, S, b, N, o, hs => by
    simp only [List.length_cons] at hs
    obtain ⟨o1, h1⟩ := node e (he e (by simp)).1 (he e (by simp)).2 (S ++ l.reverse) b (N + (l.map (siz n d)).sum) o (by simp; omega)
    obtain ⟨o2, h2⟩ := list9 k x d node l (fun f hf => he f (by simp [hf])) S ((ord n x.a d e).foldl better b) N o1 (by omega)
    refine ⟨o2, ?_⟩
    have ea : N + ((e :: l).map (siz n d)).sum = N + (l.map (siz n d)).sum + siz n d e := by simp only [List.map_cons, List.sum_cons]; omega
    rw [ea, List.reverse_cons, ← List.append_assoc, h1, h2, List.flatMap_cons, List.foldl_append]
theorem node9 (k : Nat) (x : B) : ∀ (d : Nat) (c : Nd), Ok c.1 n t → c.2.length + d = 11 → ∀ (S : List Nd) (b : Wy) (N : Nat) (o : O7), S.length + 4 * d + 4 ≤ 1000 → ∃ o', wh9 (lev pg (k + 3)) (N + siz n d c) (E9 x b (S ++ [c]) o) = wh9 (lev pg (k + 3)) N (E9 x ((ord n x.a d c).foldl better b) S o')
  | 0, c, h, hw, S, b, N, o, hs => by
    have e1 := h.m
    have e2 := h.h2
    have ml := mv_len c.1.ms 0
    obtain ⟨o', hst⟩ := step9 (n := n) (lev pg (k + 3)) x c (fun _ => []) (fun i => by
      rw [if_neg]; simp; omega) (by omega) (moves_ok h (k + 2)) (fun i hi => sow_ok h k hi) b S o N (by omega)
    refine ⟨o', ?_⟩
    rw [show siz n 0 c = 1 from rfl, hst]
    have : (mv 0 c.1.ms).flatMap (fun _ => ([] : List Nd)) = [] := by simp
    rw [this, List.append_nil]
    rfl
  | d + 1, c, h, hw, S, b, N, o, hs => by
    have e1 := h.m
    have e2 := h.h2
    have ml := mv_len c.1.ms 0
    have kl := kids_len h
    obtain ⟨o1, hst⟩ := step9 (n := n) (lev pg (k + 3)) x c (kid n c) (fun i => by
      have : decide ((c.2 ++ [i]).length < 12) = true := by simp; omega
      rw [this, Bool.and_true]
      rfl) (by omega) (moves_ok h (k + 2)) (fun i hi => sow_ok h k hi) b S o (N + ((kids n c).reverse.map (siz n d)).sum) (by omega)
    obtain ⟨o2, h2⟩ := list9 k x d (node9 k x d) (kids n c).reverse (fun e he => by
      rw [List.mem_reverse] at he
      refine ⟨kids_ok h he, ?_⟩
      obtain ⟨i, hi, he⟩ := List.mem_flatMap.mp he
      unfold kid at he
      split at he
      · simp only [List.mem_singleton] at he
        subst he
        simp; omega
      · simp at he) S ((ways1 n x.a c).foldl better b) N o1 (by simp; omega)
    refine ⟨o2, ?_⟩
    rw [List.reverse_reverse] at h2
    have ea : N + siz n (d + 1) c = N + ((kids n c).reverse.map (siz n d)).sum + 1 := by rw [siz]; omega
    rw [ea, hst]
    show wh9 _ _ (E9 x _ (S ++ kids n c) o1) = _
    rw [h2, ord, List.foldl_append]
end
end Bh.K09
/-! text P23 -/
set_option linter.all false
set_option maxRecDepth 100000
set_option maxHeartbeats 4000000
/-! P23: the most in a turn. -/
namespace Bh.K09
def mostI (n : Nat) (x : B) : Wy := (ord n x.a 11 (x, [])).foldl better (0, [])
def bW (M : Nat) : List S := [.set 1 (.tup (.cons (.con (.int 0)) (.cons (.tup (.nil)) .nil))), .thaw 2 (.lst (.cons (.tup (.cons (.var 0) (.cons (.tup (.nil)) .nil))) .nil)), .whil M condW bodyW, .ret (.var 1)]
theorem b9_eq : b9 = bW 1000000000 := rfl
section
variable {n : Nat} {t : Int} {x : B}
theorem while9 (h : Ok x n t) (k : Nat) (M : Nat) (hM : siz n 11 (x, []) < M) (o : O7) : ∃ o', wh9 (lev pg (k + 3)) M (E9 x (0, []) [(x, [])] o) = .nx (E9 x (mostI n x) [] o') := by
  obtain ⟨o', e⟩ := node9 (n := n) (t := t) k x 11 (x, []) h rfl [] (0, []) (M - siz n 11 (x, [])) o (by simp)
  refine ⟨o', ?_⟩
  have ea : M - siz n 11 (x, []) + siz n 11 (x, []) = M := by omega
  rw [ea, List.nil_append] at e
  rw [e]
  obtain ⟨q, hq⟩ : ∃ q, M - siz n 11 (x, []) = q + 1 := ⟨M - siz n 11 (x, []) - 1, by omega⟩
  rw [hq]
  unfold wh9
  rw [whileL, cond9, o_ok]
  rfl
theorem body9_ok (h : Ok x n t) (k : Nat) (M : Nat) (hM : siz n 11 (x, []) < M) : ∃ e, evSs pg.tb (lev pg (k + 3)) (bW M) [some (bD x), none, none, none, none, none, none, none, none, none] = .ret (wD (mostI n x)) e := by
  obtain ⟨o', hw⟩ := while9 h k M hM ⟨none, none, none, none, none, none, none⟩
  refine ⟨E9 x (mostI n x) [] o', ?_⟩
  generalize lev pg (k + 3) = cf at *
  unfold bW
  have e1 : evS pg.tb cf (.set 1 (.tup (.cons (.con (.int 0)) (.cons (.tup (.nil)) .nil)))) [some (bD x), none, none, none, none, none, none, none, none, none] = .nx [some (bD x), some (wD (0, [])), none, none, none, none, none, none, none, none] := by
    simp [startE, get_lit, Env.put, outsOf, okLen, setO, isNew, kindOf, z_nil, z_cons, z_set, z_thaw, z_bind, z_par2, z_expr, z_ret, z_retO, z_raise, z_ite, z_fors, z_whil, z_brk, z_cont, z_pass, z_setFld, z_augIx, z_setIx, z_bindX, tg_nil, tg_nm, tg_ix, y_var, y_con, y_glob, y_op, y_cmp, y_idx, y_chain, y_no, y_neg, y_and, y_or, y_ite, y_tup, y_lst, y_bf, y_mm, y_lm, y_call, y_meth, y_make, y_fld, y_nil, y_cons, y_seq, y_c0, y_c1, y_slice, y_p0, y_p1, y_enum, y_rng1, y_rng2, y_lcTurn, wD, nats]
  have e2 : evS pg.tb cf (.thaw 2 (.lst (.cons (.tup (.cons (.var 0) (.cons (.tup (.nil)) .nil))) .nil))) [some (bD x), some (wD (0, [])), none, none, none, none, none, none, none, none] = .nx (E9 x (0, []) [(x, [])] ⟨none, none, none, none, none, none, none⟩) := by
    unfold E9
    simp [startE, get_lit, Env.put, outsOf, okLen, setO, isNew, kindOf, z_nil, z_cons, z_set, z_thaw, z_bind, z_par2, z_expr, z_ret, z_retO, z_raise, z_ite, z_fors, z_whil, z_brk, z_cont, z_pass, z_setFld, z_augIx, z_setIx, z_bindX, tg_nil, tg_nm, tg_ix, y_var, y_con, y_glob, y_op, y_cmp, y_idx, y_chain, y_no, y_neg, y_and, y_or, y_ite, y_tup, y_lst, y_bf, y_mm, y_lm, y_call, y_meth, y_make, y_fld, y_nil, y_cons, y_seq, y_c0, y_c1, y_slice, y_p0, y_p1, y_enum, y_rng1, y_rng2, y_lcTurn, nD, nats]
  rw [z_cons, e1, seq_nx, z_cons, e2, seq_nx, z_cons, z_whil]
  refine Eq.trans (congrArg (fun o => O.seq o _) hw) ?_
  rw [seq_nx, z_cons, z_ret, y_var]
  rfl
theorem most_ok (h : Ok x n t) (k : Nat) : (lev pg (k + 4)).c 0 9 [bD x] = .ok (wD (mostI n x)) [] := by
  have hs := siz_le 11 (x, []) h
  have h4 : 4 ^ (11 + 1) = 16777216 := rfl
  rw [h4] at hs
  obtain ⟨e, he⟩ := body9_ok h k 1000000000 (by omega)
  rw [← b9_eq] at he
  rw [lev_call (df := d9) rfl rfl]
  show endD d9 (evSs pg.tb (lev pg (k + 3)) b9 [some (bD x), none, none, none, none, none, none, none, none, none]) = _
  rw [he]
  rfl
end
end Bh.K09
/-! text P24 -/
set_option linter.all false
set_option maxRecDepth 100000
set_option maxHeartbeats 4000000
/-! P24: ways in order; the least of them. -/
namespace Bh.K09
def ltL : List Nat → List Nat → Bool
  | [], [] => false
  | [], _ :: _ => true
  | _ :: _, [] => false
  | x :: a, y :: b => decide (x < y) || (x == y && ltL a b)
theorem ltL_trans : ∀ {a b c : List Nat}, ltL a b = true → ltL b c = true → ltL a c = true
  | [], [], _, h, _ => by simp [ltL] at h
  | [], _ :: _, [], _, h => by simp [ltL] at h
  | [], _ :: _, _ :: _, _, _ => rfl
  | _ :: _, [], _, h, _ => by simp [ltL] at h
  | _ :: _, _ :: _, [], _, h => by simp [ltL] at h
  | x :: a, y :: b, z :: c, h, k => by
    simp only [ltL, Bool.or_eq_true, decide_eq_true_eq, Bool.and_eq_true, beq_iff_eq] at h k ⊢
    rcases h with h | ⟨h, h'⟩ <;> rcases k with k | ⟨k, k'⟩
    · left; omega
    · left; omega
    · left; omega
    · right; exact ⟨by omega, ltL_trans h' k'⟩
theorem ltL_tri : ∀ {a b : List Nat}, ltL a b = false → ltL b a = false → a = b
  | [], [], _, _ => rfl
  | [], _ :: _, h, _ => by simp [ltL] at h
  | _ :: _, [], _, h => by simp [ltL] at h
  | x :: a, y :: b, h, k => by
    simp only [ltL, Bool.or_eq_false_iff, decide_eq_false_iff_not, Bool.and_eq_false_iff, beq_eq_false_iff_ne] at h k
    have hxy : x = y := by omega
    subst hxy
    have h2 : ltL a b = false := by rcases h.2 with z | z; exact (z rfl).elim; exact z
    have k2 : ltL b a = false := by rcases k.2 with z | z; exact (z rfl).elim; exact z
    rw [ltL_tri h2 k2]
theorem toks_ltL : ∀ (a b : List Nat) (s : List (Int ⊕ List Nat)), ltToks s s = false → ltToks (tokss (nats a) ++ s) (tokss (nats b) ++ s) = ltL a b
  | [], [], s, h => by
    show ltToks (.inl 0 :: s) (.inl 0 :: s) = false
    rw [ltToks, h]; rfl
  | [], y :: b, s, h => by
    show ltToks (.inl 0 :: s) (.inl 1 :: _) = true
    rw [ltToks]; rfl
  | x :: a, [], s, h => by
    show ltToks (.inl 1 :: _) (.inl 0 :: s) = false
    rw [ltToks]; rfl
  | x :: a, y :: b, s, h => by
    have ih := toks_ltL a b s h
    show ltToks (.inl 1 :: .inl (x : Int) :: (tokss (nats a) ++ s)) (.inl 1 :: .inl (y : Int) :: (tokss (nats b) ++ s)) = _
    rw [ltToks, ltToks, ih]
    have e1 : ∀ i j : Int, ltTok (.inl i) (.inl j) = decide (i < j) := fun _ _ => rfl
    rw [e1, e1, e1, ltL]
    by_cases hlt : x < y
    · simp [hlt]
    · by_cases heq : x = y
      · subst heq; simp
      · have : y < x := by omega
        simp [hlt, heq, this]
theorem ltW_eq (a b : List Nat) : ltW a b = ltL a b := by
  have := toks_ltL a b [] rfl
  rw [List.append_nil, List.append_nil] at this
  exact this
/-- a way as the law writes it -/
def lwD (q : Wy) : D := .tup [.int (0 - q.1), .tup (nats q.2)]
theorem toks_lw (b q : Wy) : ltToks (toks (lwD q)) (toks (lwD b)) = isBet b q := by
  have e : ∀ z : Wy, toks (lwD z) = .inl 1 :: .inl (0 - z.1) :: .inl 1 :: (tokss (nats z.2) ++ [.inl 0]) := fun _ => rfl
  have e1 : ∀ i j : Int, ltTok (.inl i) (.inl j) = decide (i < j) := fun _ _ => rfl
  have e2 := toks_ltL q.2 b.2 [.inl 0] rfl
  rw [e, e, ltToks, ltToks, ltToks, e2]
  simp only [e1]
  unfold isBet
  rw [ltW_eq]
  by_cases h : b.1 < q.1
  · have h2 : (0 : Int) - q.1 < 0 - b.1 := by omega
    simp only [h, h2, decide_true, Bool.true_or, Bool.or_true, Bool.and_self]
    simp
  · have h2 : ¬ (0 : Int) - q.1 < 0 - b.1 := by omega
    by_cases h3 : b.1 = q.1
    · simp [h3]
    · have h4 : (0 : Int) - b.1 < 0 - q.1 := by omega
      have h5 : (q.1 == b.1) = false := by simp; omega
      simp only [h, h2, h4, h5]
      simp
theorem bet_trans {a b c : Wy} (h : isBet a b = true) (k : isBet b c = true) : isBet a c = true := by
  unfold isBet at *
  rw [ltW_eq] at *
  simp only [Bool.or_eq_true, decide_eq_true_eq, Bool.and_eq_true, beq_iff_eq] at h k ⊢
  rcases h with h | ⟨h, h'⟩ <;> rcases k with k | ⟨k, k'⟩
  · left; omega
  · left; omega
  · left; omega
  · right; exact ⟨by omega, ltL_trans k' h'⟩
theorem bet_tri {a b : Wy} (h : isBet a b = false) (k : isBet b a = false) : a = b := by
  unfold isBet at *
  rw [ltW_eq] at *
  simp only [Bool.or_eq_false_iff, decide_eq_false_iff_not, Bool.and_eq_false_iff, beq_eq_false_iff_ne] at h k
  have h1 : a.1 = b.1 := by omega
  have h2 : ltL b.2 a.2 = false := by rcases h.2 with z | z; exact (z h1.symm).elim; exact z
  have k2 : ltL a.2 b.2 = false := by rcases k.2 with z | z; exact (z h1).elim; exact z
  exact Prod.ext h1 (ltL_tri k2 h2)
theorem fold_least : ∀ (l : List Wy) (b : Wy), l.foldl better b ∈ b :: l ∧ ∀ q ∈ b :: l, isBet (l.foldl better b) q = false
  | [], b => ⟨by simp, fun q hq => by
    simp only [List.mem_singleton] at hq
    subst hq
    cases h : isBet q q with
    | false => exact h
    | true =>
      unfold isBet at h
      rw [ltW_eq] at h
      simp only [Bool.or_eq_true, decide_eq_true_eq, Bool.and_eq_true, beq_iff_eq] at h
      have irr : ∀ a : List Nat, ltL a a = false := fun a => by
        induction a with
        | nil => rfl
        | cons x a ih => simp [ltL, ih]
      rcases h with h | ⟨_, h⟩
      · omega
      · rw [irr] at h; simp at h⟩
  | z :: l, b => by
    obtain ⟨h1, h2⟩ := fold_least l (better b z)
    rw [List.foldl_cons]
    generalize l.foldl better (better b z) = r at *
    have hz := h2 (better b z) (by simp)
    unfold better at h1 h2 hz
    by_cases c : isBet b z = true
    · rw [if_pos c] at h1 h2 hz
      refine ⟨by simp at h1 ⊢; rcases h1 with h1 | h1 <;> simp [h1], fun q hq => ?_⟩
      simp only [List.mem_cons] at hq
      rcases hq with rfl | rfl | hq
      · cases e : isBet r q with
        | false => rfl
        | true => rw [bet_trans e c] at hz; exact hz
      · exact hz
      · exact h2 q (by simp [hq])
    · rw [if_neg c] at h1 h2 hz
      refine ⟨by simp at h1 ⊢; rcases h1 with h1 | h1 <;> simp [h1], fun q hq => ?_⟩
      simp only [List.mem_cons] at hq
      rcases hq with rfl | rfl | hq
      · exact hz
      · cases e : isBet r q with
        | false => rfl
        | true =>
          cases e2 : isBet b r with
          | true => exact (c (bet_trans e2 e)).elim
          | false => rw [bet_tri hz e2] at e; exact (c e).elim
      · exact h2 q (by simp [hq])
/-- the best of the same ways is the same -/
theorem fold_same {l m : List Wy} {b : Wy} (h : ∀ q, q ∈ l ↔ q ∈ m) : l.foldl better b = m.foldl better b := by
  obtain ⟨h1, h2⟩ := fold_least l b
  obtain ⟨k1, k2⟩ := fold_least m b
  have e : ∀ q, q ∈ b :: l ↔ q ∈ b :: m := fun q => by simp [h q]
  exact bet_tri (h2 _ ((e _).mpr k1)) (k2 _ ((e _).mp h1))
theorem min_ways (l : List Wy) (b : Wy) : bfD .min [.lst ((b :: l).map lwD)] = some (lwD (l.foldl better b)) := by
  show minItems ((b :: l).map lwD) = _
  unfold minItems
  have e1 : intsD ((b :: l).map lwD) = none := rfl
  rw [e1]
  have e2 : sortable ((b :: l).map lwD) = true := by
    unfold sortable
    simp only [Bool.and_eq_true, Bool.or_eq_true, List.all_eq_true, List.mem_map, forall_exists_index, and_imp, forall_apply_eq_imp_iff₂]
    refine ⟨⟨fun q _ r _ => ?_, fun q _ => ⟨?_, ?_⟩⟩, .inl fun q _ => rfl⟩
    · simp [lwD, alike, alikes, alikes_nats]
    · simp [lwD, plain, plains, plains_nats]
    · simp [lwD, dep, deps, deps_nats]
  rw [if_pos e2]
  have e3 : minL ((b :: l).map lwD) = some (lwD (l.foldl better b)) := by
    show some ((l.map lwD).foldl _ (lwD b)) = _
    congr 1
    clear e1 e2
    induction l generalizing b with
    | nil => rfl
    | cons q l ih =>
      rw [List.map_cons, List.foldl_cons, List.foldl_cons, toks_lw]
      have : (if isBet b q = true then lwD q else lwD b) = lwD (better b q) := by unfold better; split <;> rfl
      rw [this]
      exact ih _
  rw [e3]
  rfl
end Bh.K09
/-! text P25 -/
set_option linter.all false
set_option maxRecDepth 100000
set_option maxHeartbeats 4000000
/-! P25: the law's rounds: a turn. -/
namespace Bh.K09
def lnD (c : Nd) : D := .tup [sD c.1, .tup (nats c.2)]
structure P5 where
  a0 : D
  n : Nat
  a2 : D
  x : B
  a4 : D
def E22 (p : P5) (o5 o7 : Option D) (W : List Nd) (ways : List Wy) (o11 o18 o19 o20 o23 o24 : Option D) : Env := [some p.a0, some (.int (p.n : Nat)), some p.a2, some (sD p.x), some p.a4, o5, none, o7, none, some (.lst (W.map lnD)), some (.lst (ways.map lwD)), o11, none, none, none, none, none, none, o18, o19, o20, none, none, o23, o24, none]
def hb0 : S := .bind [23, 24] (.call 18 (.cons (.var 18) (.cons (.var 20) .nil)))
def hb1 : S := .expr (.mm .append 10 (.cons (.tup (.cons (.op .sub (.cons (.con (.int 0)) (.cons (.op .sub (.cons (.ite (.var 24) (.idx (.cons (.var 23) (.cons (.con (.int 2)) .nil))) (.idx (.cons (.var 23) (.cons (.con (.int 3)) .nil)))) (.cons (.idx (.cons (.var 3) (.cons (.con (.int 2)) .nil))) .nil))) .nil))) (.cons (.op .add (.cons (.var 19) (.cons (.tup (.cons (.var 20) .nil)) .nil))) .nil))) .nil))
def hb2 : S := .set 11 (.op .add (.cons (.var 11) (.cons (.ite (.and (.var 24) (.cmp .lt (.cons (.bf .len (.cons (.var 19) .nil)) (.cons (.con (.int 11)) .nil)))) (.lst (.cons (.tup (.cons (.var 23) (.cons (.op .add (.cons (.var 19) (.cons (.tup (.cons (.var 20) .nil)) .nil))) .nil))) .nil)) (.lst (.nil))) .nil)))
def hb : List S := [hb0, hb1, hb2]
def lc22 : E := .lc (.one 7) (.rng1 (.var 1)) (some (.cmp .gt (.cons (.idx (.cons (.idx (.cons (.var 18) (.cons (.con (.int 0)) .nil))) (.cons (.var 7) .nil))) (.cons (.con (.int 0)) .nil)))) (.var 7)
def wb : List S := [.fors (.one 20) (.seq lc22) hb]
def rb : List S := [.set 11 (.lst (.nil)), .fors (.many [18, 19]) (.seq (.var 9)) wb, .set 9 (.var 11)]
def st1 : S := .fors (.one 5) (.rng1 (.con (.int 13))) rb
theorem st1_eq : b22[1]? = some st1 := rfl
theorem s_idx (y : B) : idxD (sD y) (.int 0) = some (.lst (iz y.ms)) ∧ idxD (sD y) (.int 1) = some (.lst (iz y.os)) ∧ idxD (sD y) (.int 2) = some (.int y.a) ∧ idxD (sD y) (.int 3) = some (.int y.b) := ⟨rfl, rfl, rfl, rfl⟩
section
variable (p : P5) (cf : CF) (y y' : B) (w : List Nat) (i : Nat) (ag : Bool) (o5 o7 : Option D) (W F : List Nd) (ways : List Wy)
theorem h0_ok (o11 o23 o24 : Option D) (h1 : cf.c 0 18 [sD y, .int (i : Nat)] = .ok (.tup [sD y', .bl ag]) []) : evS pg.tb cf hb0 (E22 p o5 o7 W ways o11 (some (sD y)) (some (.tup (nats w))) (some (.int (i : Nat))) o23 o24) = .nx (E22 p o5 o7 W ways o11 (some (sD y)) (some (.tup (nats w))) (some (.int (i : Nat))) (some (sD y')) (some (.bl ag))) := by
  unfold hb0 E22
  simp [get_lit, Env.put, bindT, z_bind, y_call, y_var, y_cons, y_nil, h1]
theorem h1_ok (o11 : Option D) (hw : w.length ≤ 50) (hl : ways.length + 1 ≤ 16777216) : evS pg.tb cf hb1 (E22 p o5 o7 W ways o11 (some (sD y)) (some (.tup (nats w))) (some (.int (i : Nat))) (some (sD y')) (some (.bl ag))) = .nx (E22 p o5 o7 W (ways ++ [(gn p.x.a (y', ag), w ++ [i])]) o11 (some (sD y)) (some (.tup (nats w))) (some (.int (i : Nat))) (some (sD y')) (some (.bl ag))) := by
  have hn : (nats w).length + 1 ≤ 16777216 := by simp [nats]; omega
  unfold hb1 E22
  cases ag <;> simp [get_lit, Env.put, okLen, z_expr, y_mm, y_tup, y_op, y_ite, y_idx, y_var, y_con, y_cons, y_nil, s_idx, hn, hl, snoc_nats, gn, lwD]
theorem h2_ok (hw : w.length ≤ 50) (hl : F.length + 1 ≤ 16777216) : evS pg.tb cf hb2 (E22 p o5 o7 W ways (some (.lst (F.map lnD))) (some (sD y)) (some (.tup (nats w))) (some (.int (i : Nat))) (some (sD y')) (some (.bl ag))) = .nx (E22 p o5 o7 W ways (some (.lst ((F ++ (if ag && decide (w.length < 11) then [(y', w ++ [i])] else [])).map lnD))) (some (sD y)) (some (.tup (nats w))) (some (.int (i : Nat))) (some (sD y')) (some (.bl ag))) := by
  have hn : (nats w).length + 1 ≤ 16777216 := by simp [nats]; omega
  have hl2 : F.length ≤ 16777216 := by omega
  have hw2 : (nats w).length = w.length := by simp [nats]
  unfold hb2 E22
  cases ag with
  | false => simp [get_lit, Env.put, okLen, z_set, y_and, y_lst, y_op, y_ite, y_var, y_cons, y_nil, hl2]
  | true =>
    by_cases h : w.length < 11
    · have h2 : decide ((w.length : Int) < 11) = true := by simp; omega
      simp [get_lit, Env.put, okLen, z_set, y_and, y_cmp, y_bf, y_con, y_lst, y_tup, y_op, y_ite, y_var, y_cons, y_nil, hl, hn, hw2, h, h2, snoc_nats, lnD, show w.length ≤ 16777215 by omega]
    · have h2 : decide ((w.length : Int) < 11) = false := by simp; omega
      simp [get_lit, Env.put, okLen, z_set, y_and, y_cmp, y_bf, y_con, y_lst, y_tup, y_op, y_ite, y_var, y_cons, y_nil, hl2, hn, hw2, h, h2, snoc_nats, lnD]
end
end Bh.K09
/-! text P26 -/
set_option linter.all false
set_option maxRecDepth 100000
set_option maxHeartbeats 4000000
/-! P26: the law's rounds. -/
namespace Bh.K09
section
variable (p : P5) (cf : CF)
theorem forL_go {t : T} {b : Env → O} {v : D} {l : List D} {env e1 e2 : Env} (h1 : bindT t v env = some e1) (h2 : b e1 = .nx e2) : forL t b (v :: l) env = forL t b l e2 := by
  rw [forL, h1]
  simp only [h2]
theorem holes22 (y : B) (w : List Nat) (hw : w.length ≤ 50) (kd : Nat → List Nd) (hk : ∀ i, (if (sow p.n y i).2 && decide (w.length < 11) then [((sow p.n y i).1, w ++ [i])] else []) = kd i) (h1 : ∀ i ∈ mv 0 y.ms, cf.c 0 18 [sD y, .int (i : Nat)] = .ok (.tup [sD (sow p.n y i).1, .bl (sow p.n y i).2]) []) (o5 o7 : Option D) (W : List Nd) : ∀ (l : List Nat) (ways : List Wy) (F : List Nd) (o20 o23 o24 : Option D), (∀ i ∈ l, i ∈ mv 0 y.ms) → ways.length + l.length ≤ 16777216 → F.length + l.length ≤ 16777216 →
    ∃ o20' o23' o24', forL (.one 20) (evSs pg.tb cf hb) (nats l) (E22 p o5 o7 W ways (some (.lst (F.map lnD))) (some (sD y)) (some (.tup (nats w))) o20 o23 o24) = .nx (E22 p o5 o7 W (ways ++ l.map fun i => (gn p.x.a (sow p.n y i), w ++ [i])) (some (.lst ((F ++ l.flatMap kd).map lnD))) (some (sD y)) (some (.tup (nats w))) o20' o23' o24')
  | [], ways, F, o20, o23, o24, _, _, _ => ⟨o20, o23, o24, by simp [nats, forL]⟩
  | i :: l, ways, F, o20, o23, o24, hm, hl, hf => by
    simp only [List.length_cons] at hl hf
    have kl : (kd i).length ≤ 1 := by rw [← hk]; split <;> simp
    have a := h0_ok p cf y (sow p.n y i).1 w i (sow p.n y i).2 o5 o7 W ways (some (.lst (F.map lnD))) o23 o24 (h1 i (hm i (by simp)))
    have b := h1_ok p cf y (sow p.n y i).1 w i (sow p.n y i).2 o5 o7 W ways (some (.lst (F.map lnD))) hw (by omega)
    have c := h2_ok p cf y (sow p.n y i).1 w i (sow p.n y i).2 o5 o7 W F (ways ++ [(gn p.x.a (sow p.n y i), w ++ [i])]) hw (by omega)
    rw [hk] at c
    obtain ⟨o20', o23', o24', ih⟩ := holes22 y w hw kd hk h1 o5 o7 W l (ways ++ [(gn p.x.a (sow p.n y i), w ++ [i])]) (F ++ kd i) (some (.int (i : Nat))) (some (sD (sow p.n y i).1)) (some (.bl (sow p.n y i).2)) (fun j hj => hm j (by simp [hj])) (by simp; omega) (by simp; omega)
    refine ⟨o20', o23', o24', ?_⟩
    show forL (.one 20) _ (D.int (i : Nat) :: nats l) _ = _
    rw [forL, bind_one]
    have e0 : Env.put (E22 p o5 o7 W ways (some (.lst (F.map lnD))) (some (sD y)) (some (.tup (nats w))) o20 o23 o24) 20 (.int (i : Nat)) = E22 p o5 o7 W ways (some (.lst (F.map lnD))) (some (sD y)) (some (.tup (nats w))) (some (.int (i : Nat))) o23 o24 := rfl
    have t : evSs pg.tb cf hb (E22 p o5 o7 W ways (some (.lst (F.map lnD))) (some (sD y)) (some (.tup (nats w))) (some (.int (i : Nat))) o23 o24) = .nx (E22 p o5 o7 W (ways ++ [(gn p.x.a (sow p.n y i), w ++ [i])]) (some (.lst ((F ++ kd i).map lnD))) (some (sD y)) (some (.tup (nats w))) (some (.int (i : Nat))) (some (sD (sow p.n y i).1)) (some (.bl (sow p.n y i).2))) := by
      unfold hb
      rw [z_cons, a, seq_nx, z_cons, b, seq_nx, z_cons, c, seq_nx, z_nil]
    simp only [e0, t, ih, List.map_cons, List.flatMap_cons, List.append_assoc, List.singleton_append]
theorem lc22_ok (y : B) (w : List Nat) (t : Int) (h : Ok y p.n t) (o5 o7 : Option D) (W : List Nd) (ways : List Wy) (o11 o20 o23 o24 : Option D) : evE pg.tb cf lc22 (E22 p o5 o7 W ways o11 (some (sD y)) (some (.tup (nats w))) o20 o23 o24) = .ok (.lst (nats (mv 0 y.ms))) (E22 p o5 o7 W ways o11 (some (sD y)) (some (.tup (nats w))) o20 o23 o24) := by
  have e1 := h.m
  have h2 := h.h2
  have i0 : idxD (sD y) (.int 0) = some (.lst (iz y.ms)) := rfl
  refine lc_mv cf (by simp [E22]) (by omega) ?_ rfl fun k hk => ?_
  · unfold E22
    rw [e1]
    simp [startE, get_lit, Env.put, outsOf, okLen, setO, isNew, kindOf, z_nil, z_cons, z_set, z_thaw, z_bind, z_par2, z_expr, z_ret, z_retO, z_raise, z_ite, z_fors, z_whil, z_brk, z_cont, z_pass, z_setFld, z_augIx, z_setIx, z_bindX, tg_nil, tg_nm, tg_ix, y_var, y_con, y_glob, y_op, y_cmp, y_idx, y_chain, y_no, y_neg, y_and, y_or, y_ite, y_tup, y_lst, y_bf, y_mm, y_lm, y_call, y_meth, y_make, y_fld, y_nil, y_cons, y_seq, y_c0, y_c1, y_slice, y_p0, y_p1, y_enum, y_rng1, y_rng2, y_lcTurn]
  · have hx := ix_at (r := y.ms) (i := k) hk
    generalize y.ms.getD k 0 = v at hx ⊢
    unfold E22
    simp [startE, get_lit, Env.put, outsOf, okLen, setO, isNew, kindOf, z_nil, z_cons, z_set, z_thaw, z_bind, z_par2, z_expr, z_ret, z_retO, z_raise, z_ite, z_fors, z_whil, z_brk, z_cont, z_pass, z_setFld, z_augIx, z_setIx, z_bindX, tg_nil, tg_nm, tg_ix, y_var, y_con, y_glob, y_op, y_cmp, y_idx, y_chain, y_no, y_neg, y_and, y_or, y_ite, y_tup, y_lst, y_bf, y_mm, y_lm, y_call, y_meth, y_make, y_fld, y_nil, y_cons, y_seq, y_c0, y_c1, y_slice, y_p0, y_p1, y_enum, y_rng1, y_rng2, y_lcTurn, i0, hx]
theorem node22 (y : B) (w : List Nat) (t : Int) (h : Ok y p.n t) (hw : w.length ≤ 50) (kd : Nat → List Nd) (hk : ∀ i, (if (sow p.n y i).2 && decide (w.length < 11) then [((sow p.n y i).1, w ++ [i])] else []) = kd i) (h1 : ∀ i ∈ mv 0 y.ms, cf.c 0 18 [sD y, .int (i : Nat)] = .ok (.tup [sD (sow p.n y i).1, .bl (sow p.n y i).2]) []) (o5 o7 : Option D) (W : List Nd) (ways : List Wy) (F : List Nd) (o20 o23 o24 : Option D) (hl : ways.length + (mv 0 y.ms).length ≤ 16777216) (hf : F.length + (mv 0 y.ms).length ≤ 16777216) :
    ∃ o20' o23' o24', evSs pg.tb cf wb (E22 p o5 o7 W ways (some (.lst (F.map lnD))) (some (sD y)) (some (.tup (nats w))) o20 o23 o24) = .nx (E22 p o5 o7 W (ways ++ ways1 p.n p.x.a (y, w)) (some (.lst ((F ++ (mv 0 y.ms).flatMap kd).map lnD))) (some (sD y)) (some (.tup (nats w))) o20' o23' o24') := by
  obtain ⟨o20', o23', o24', e⟩ := holes22 p cf y w hw kd hk h1 o5 o7 W (mv 0 y.ms) ways F o20 o23 o24 (fun _ z => z) hl hf
  refine ⟨o20', o23', o24', ?_⟩
  unfold wb
  rw [z_cons, z_fors, y_seq, lc22_ok p cf y w t h, bind_ok, items_lst, of_some, o_ok, e, seq_nx, z_nil]
  rfl
/-- a round's loop -/
theorem works22 {M : Nat} (hM : M ≤ 16777216) (t : Int) (kd : Nd → Nat → List Nd) (W : List Nd) (o5 o7 : Option D) : ∀ (l : List Nd), (∀ c ∈ l, Ok c.1 p.n t ∧ c.2.length ≤ 50 ∧ (∀ i, (if (sow p.n c.1 i).2 && decide (c.2.length < 11) then [((sow p.n c.1 i).1, c.2 ++ [i])] else []) = kd c i) ∧ ∀ i ∈ mv 0 c.1.ms, cf.c 0 18 [sD c.1, .int (i : Nat)] = .ok (.tup [sD (sow p.n c.1 i).1, .bl (sow p.n c.1 i).2]) []) → ∀ (ways : List Wy) (F : List Nd) (o18 o19 o20 o23 o24 : Option D), ways.length + (l.flatMap (ways1 p.n p.x.a)).length ≤ M → F.length + (l.flatMap (ways1 p.n p.x.a)).length ≤ M →
    ∃ o18' o19' o20' o23' o24', forL (.many [18, 19]) (evSs pg.tb cf wb) (l.map lnD) (E22 p o5 o7 W ways (some (.lst (F.map lnD))) o18 o19 o20 o23 o24) = .nx (E22 p o5 o7 W (ways ++ l.flatMap (ways1 p.n p.x.a)) (some (.lst ((F ++ l.flatMap fun c => (mv 0 c.1.ms).flatMap (kd c)).map lnD))) o18' o19' o20' o23' o24')
  | [], _, ways, F, o18, o19, o20, o23, o24, _, _ => ⟨o18, o19, o20, o23, o24, by simp [forL]⟩
  | c :: l, hc, ways, F, o18, o19, o20, o23, o24, hl, hf => by
    obtain ⟨c1, c2, c3, c4⟩ := hc c (by simp)
    have wl : (ways1 p.n p.x.a c).length = (mv 0 c.1.ms).length := by simp [ways1]
    have kl : ((mv 0 c.1.ms).flatMap (kd c)).length ≤ (mv 0 c.1.ms).length := by
      rw [len_flatMap]
      have := sum_le (fun i => (kd c i).length) 1 (mv 0 c.1.ms) fun i _ => by
        show (kd c i).length ≤ 1
        rw [← c3]; split <;> simp
      omega
    rw [List.flatMap_cons, List.length_append] at hl hf
    obtain ⟨p20, p23, p24, a⟩ := node22 p cf c.1 c.2 t c1 c2 (kd c) c3 c4 o5 o7 W ways F o20 o23 o24 (by omega) (by omega)
    obtain ⟨q18, q19, q20, q23, q24, ih⟩ := works22 hM t kd W o5 o7 l (fun e he => hc e (by simp [he])) (ways ++ ways1 p.n p.x.a c) (F ++ (mv 0 c.1.ms).flatMap (kd c)) (some (sD c.1)) (some (.tup (nats c.2))) p20 p23 p24 (by simp only [List.length_append]; omega) (by simp only [List.length_append]; omega)
    refine ⟨q18, q19, q20, q23, q24, ?_⟩
    have e0 : bindT (.many [18, 19]) (lnD c) (E22 p o5 o7 W ways (some (.lst (F.map lnD))) o18 o19 o20 o23 o24) = some (E22 p o5 o7 W ways (some (.lst (F.map lnD))) (some (sD c.1)) (some (.tup (nats c.2))) o20 o23 o24) := rfl
    rw [List.map_cons, forL_go e0 a, ih, List.flatMap_cons, List.flatMap_cons, List.append_assoc, List.append_assoc]
theorem round22 {M : Nat} (hM : M ≤ 16777216) (t : Int) (kd : Nd → Nat → List Nd) (W : List Nd) (hc : ∀ c ∈ W, Ok c.1 p.n t ∧ c.2.length ≤ 50 ∧ (∀ i, (if (sow p.n c.1 i).2 && decide (c.2.length < 11) then [((sow p.n c.1 i).1, c.2 ++ [i])] else []) = kd c i) ∧ ∀ i ∈ mv 0 c.1.ms, cf.c 0 18 [sD c.1, .int (i : Nat)] = .ok (.tup [sD (sow p.n c.1 i).1, .bl (sow p.n c.1 i).2]) []) (ways : List Wy) (o5 o7 o11 o18 o19 o20 o23 o24 : Option D) (hl : ways.length + (W.flatMap (ways1 p.n p.x.a)).length ≤ M) :
    ∃ o11' o18' o19' o20' o23' o24', evSs pg.tb cf rb (E22 p o5 o7 W ways o11 o18 o19 o20 o23 o24) = .nx (E22 p o5 o7 (W.flatMap fun c => (mv 0 c.1.ms).flatMap (kd c)) (ways ++ W.flatMap (ways1 p.n p.x.a)) o11' o18' o19' o20' o23' o24') := by
  obtain ⟨q18, q19, q20, q23, q24, e⟩ := works22 p cf hM t kd W o5 o7 W hc ways [] o18 o19 o20 o23 o24 hl (by simp only [List.length_nil]; omega)
  rw [List.nil_append] at e
  refine ⟨some (.lst ((W.flatMap fun c => (mv 0 c.1.ms).flatMap (kd c)).map lnD)), q18, q19, q20, q23, q24, ?_⟩
  unfold rb
  have e1 : evS pg.tb cf (.set 11 (.lst .nil)) (E22 p o5 o7 W ways o11 o18 o19 o20 o23 o24) = .nx (E22 p o5 o7 W ways (some (.lst (([] : List Nd).map lnD))) o18 o19 o20 o23 o24) := by
    unfold E22; simp [startE, get_lit, Env.put, outsOf, okLen, setO, isNew, kindOf, z_nil, z_cons, z_set, z_thaw, z_bind, z_par2, z_expr, z_ret, z_retO, z_raise, z_ite, z_fors, z_whil, z_brk, z_cont, z_pass, z_setFld, z_augIx, z_setIx, z_bindX, tg_nil, tg_nm, tg_ix, y_var, y_con, y_glob, y_op, y_cmp, y_idx, y_chain, y_no, y_neg, y_and, y_or, y_ite, y_tup, y_lst, y_bf, y_mm, y_lm, y_call, y_meth, y_make, y_fld, y_nil, y_cons, y_seq, y_c0, y_c1, y_slice, y_p0, y_p1, y_enum, y_rng1, y_rng2, y_lcTurn]
  have e2 : ∀ env, env = E22 p o5 o7 W ways (some (.lst (([] : List Nd).map lnD))) o18 o19 o20 o23 o24 → evI pg.tb cf (.seq (.var 9)) env = .ok (W.map lnD) env := fun env he => by
    have hg : env.get 9 = some (.lst (W.map lnD)) := by rw [he]; rfl
    rw [y_seq, y_var, hg, of_some, bind_ok, items_lst, of_some]
  rw [z_cons, e1, seq_nx, z_cons, z_fors, e2 _ rfl, o_ok, e, seq_nx, z_cons]
  generalize (W.flatMap fun c => (mv 0 c.1.ms).flatMap (kd c)) = K
  generalize ways ++ W.flatMap (ways1 p.n p.x.a) = ws
  unfold E22
  simp [startE, get_lit, Env.put, outsOf, okLen, setO, isNew, kindOf, z_nil, z_cons, z_set, z_thaw, z_bind, z_par2, z_expr, z_ret, z_retO, z_raise, z_ite, z_fors, z_whil, z_brk, z_cont, z_pass, z_setFld, z_augIx, z_setIx, z_bindX, tg_nil, tg_nm, tg_ix, y_var, y_con, y_glob, y_op, y_cmp, y_idx, y_chain, y_no, y_neg, y_and, y_or, y_ite, y_tup, y_lst, y_bf, y_mm, y_lm, y_call, y_meth, y_make, y_fld, y_nil, y_cons, y_seq, y_c0, y_c1, y_slice, y_p0, y_p1, y_enum, y_rng1, y_rng2, y_lcTurn]
/-- round by round -/
theorem rounds22 {M : Nat} (hM : M ≤ 16777216) (k : Nat) (t : Int) : ∀ (d : Nat) (W : List Nd), (∀ c ∈ W, Ok c.1 p.n t ∧ c.2.length + d = 11) → ∀ (l tl : List D), l.length = d + 1 → ∀ (ways : List Wy) (o5 o7 o11 o18 o19 o20 o23 o24 : Option D), ways.length + (bfs p.n p.x.a d W).length ≤ M →
    ∃ o5' o11' o18' o19' o20' o23' o24', forL (.one 5) (evSs pg.tb (lev pg (k + 1)) rb) (l ++ tl) (E22 p o5 o7 W ways o11 o18 o19 o20 o23 o24) = forL (.one 5) (evSs pg.tb (lev pg (k + 1)) rb) tl (E22 p o5' o7 [] (ways ++ bfs p.n p.x.a d W) o11' o18' o19' o20' o23' o24')
  | 0, W, hW, l, tl, hl, ways, o5, o7, o11, o18, o19, o20, o23, o24, hb => by
    obtain ⟨v, rfl⟩ : ∃ v, l = [v] := by
      match l, hl with
      | [v], _ => exact ⟨v, rfl⟩
    obtain ⟨q11, q18, q19, q20, q23, q24, e⟩ := round22 p (lev pg (k + 1)) hM t (fun _ _ => []) W (fun c hc => by
      obtain ⟨c1, c2⟩ := hW c hc
      refine ⟨c1, by omega, fun i => by rw [if_neg]; simp; omega, fun i hi => ?_⟩
      have := ((mem_mv c.1.ms 0 i).mp hi).2.1
      have e1 := c1.m
      exact lsow_ok c1 k (by omega)) ways (some v) o7 o11 o18 o19 o20 o23 o24 hb
    refine ⟨some v, q11, q18, q19, q20, q23, q24, ?_⟩
    have e0 : bindT (.one 5) v (E22 p o5 o7 W ways o11 o18 o19 o20 o23 o24) = some (E22 p (some v) o7 W ways o11 o18 o19 o20 o23 o24) := rfl
    have e2 : (W.flatMap fun c => (mv 0 c.1.ms).flatMap (fun _ => ([] : List Nd))) = [] := by simp
    rw [e2] at e
    rw [List.singleton_append, forL_go e0 e]
    rfl
  | d + 1, W, hW, l, tl, hl, ways, o5, o7, o11, o18, o19, o20, o23, o24, hb => by
    obtain ⟨v, l, rfl⟩ : ∃ v l', l = v :: l' := by
      match l, hl with
      | v :: l, _ => exact ⟨v, l, rfl⟩
    rw [bfs, List.length_append] at hb
    obtain ⟨q11, q18, q19, q20, q23, q24, e⟩ := round22 p (lev pg (k + 1)) hM t (kid p.n) W (fun c hc => by
      obtain ⟨c1, c2⟩ := hW c hc
      refine ⟨c1, by omega, fun i => by
        have : decide (c.2.length < 11) = true := by simp; omega
        rw [this, Bool.and_true]; rfl, fun i hi => ?_⟩
      have := ((mem_mv c.1.ms 0 i).mp hi).2.1
      have e1 := c1.m
      exact lsow_ok c1 k (by omega)) ways (some v) o7 o11 o18 o19 o20 o23 o24 (by omega)
    obtain ⟨r5, r11, r18, r19, r20, r23, r24, ih⟩ := rounds22 hM k t d (W.flatMap (kids p.n)) (fun e he => by
      obtain ⟨c, hc, he⟩ := List.mem_flatMap.mp he
      obtain ⟨c1, c2⟩ := hW c hc
      refine ⟨kids_ok c1 he, ?_⟩
      obtain ⟨i, hi, he⟩ := List.mem_flatMap.mp he
      unfold kid at he
      split at he
      · simp only [List.mem_singleton] at he
        subst he
        simp; omega
      · simp at he) l tl (by simpa using hl) (ways ++ W.flatMap (ways1 p.n p.x.a)) (some v) o7 q11 q18 q19 q20 q23 q24 (by simp only [List.length_append]; omega)
    refine ⟨r5, r11, r18, r19, r20, r23, r24, ?_⟩
    have e0 : bindT (.one 5) v (E22 p o5 o7 W ways o11 o18 o19 o20 o23 o24) = some (E22 p (some v) o7 W ways o11 o18 o19 o20 o23 o24) := rfl
    have e2 : (W.flatMap fun c => (mv 0 c.1.ms).flatMap (kid p.n c)) = W.flatMap (kids p.n) := rfl
    rw [e2] at e
    rw [List.cons_append, forL_go e0 e, ih, bfs, List.append_assoc]
end
end Bh.K09
/-! text P27 -/
set_option linter.all false
set_option maxRecDepth 100000
set_option maxHeartbeats 4000000
/-! P27: the most in a turn: the law's word. -/
namespace Bh.K09
mutual
theorem eqv_refl : ∀ d : D, plain d = true → eqv d d = true
  | .non, _ => by simp [eqv]
  | .bl b, _ => by simp [eqv]
  | .int i, _ => by simp [eqv]
  | .str s, _ => by simp [eqv]
  | .tup xs, h => by
    rw [eqv]
    exact eqvs_refl xs (by simpa [plain] using h)
  | .lst xs, h => by
    rw [eqv]
    exact eqvs_refl xs (by simpa [plain] using h)
  | .dct _, h => by simp [plain] at h
  | .obj _ _, h => by simp [plain] at h
theorem eqvs_refl : ∀ xs : List D, plains xs = true → eqvs xs xs = true
  | [], _ => by simp [eqvs]
  | x :: xs, h => by
    simp only [plains, Bool.and_eq_true] at h
    rw [eqvs, eqv_refl x h.1, eqvs_refl xs h.2]
    rfl
end
theorem ne_self {d : D} (h : plain d = true) (hd : dep d ≤ 100) : cmpB .ne d d = some (.bl false) := by
  refine cmpB_some ?_
  show (if eqOk d d then some (!eqv d d) else (empC d d).map (!·)) = _
  have : eqOk d d = true := by
    unfold eqOk
    simp [h]; omega
  rw [if_pos this, eqv_refl d h]
  rfl
theorem eq_self {d : D} (h : plain d = true) (hd : dep d ≤ 100) : cmpB .eq d d = some (.bl true) := by
  refine cmpB_some ?_
  show (if eqOk d d then some (eqv d d) else empC d d) = _
  have : eqOk d d = true := by
    unfold eqOk
    simp [h]; omega
  rw [if_pos this, eqv_refl d h]
/-- the law's word: the most in a turn -/
def st0 : S := .par2 9 false (.lst (.cons (.tup (.cons (.var 3) (.cons (.tup (.nil)) .nil))) .nil)) 10 true (.lst (.cons (.tup (.cons (.con (.int 0)) (.cons (.tup (.nil)) .nil))) .nil))
def st2 : S := .ite (.cmp .ne (.cons (.meth 8 (.var 2) (.nil)) (.cons (.tup (.cons (.op .sub (.cons (.con (.int 0)) (.cons (.idx (.cons (.bf .min (.cons (.own 10) .nil)) (.cons (.con (.int 0)) .nil))) .nil))) (.cons (.idx (.cons (.bf .min (.cons (.own 10) .nil)) (.cons (.con (.int 1)) .nil))) .nil))) .nil))) [.ret (.con (.bl false))] []
theorem b22_012 : b22 = st0 :: st1 :: st2 :: b22.drop 3 := rfl
theorem plain_w (q : Wy) : plain (wD q) = true := by simp [wD, plain, plains, plains_nats]
theorem dep_w (q : Wy) : dep (wD q) ≤ 100 := by simp [wD, dep, deps, deps_nats]
section
variable (p : P5) (cf : CF)
theorem st0_ok (o5 o7 o9 o10 o11 o18 o19 o20 o23 o24 : Option D) : evS pg.tb cf st0 [some p.a0, some (.int (p.n : Nat)), some p.a2, some (sD p.x), some p.a4, o5, none, o7, none, o9, o10, o11, none, none, none, none, none, none, o18, o19, o20, none, none, o23, o24, none] = .nx (E22 p o5 o7 [(p.x, [])] [(0, [])] o11 o18 o19 o20 o23 o24) := by
  unfold st0 E22
  simp [startE, get_lit, Env.put, outsOf, okLen, setO, isNew, kindOf, z_nil, z_cons, z_set, z_thaw, z_bind, z_par2, z_expr, z_ret, z_retO, z_raise, z_ite, z_fors, z_whil, z_brk, z_cont, z_pass, z_setFld, z_augIx, z_setIx, z_bindX, tg_nil, tg_nm, tg_ix, y_var, y_con, y_glob, y_op, y_cmp, y_idx, y_chain, y_no, y_neg, y_and, y_or, y_ite, y_tup, y_lst, y_bf, y_mm, y_lm, y_call, y_meth, y_make, y_fld, y_nil, y_cons, y_seq, y_c0, y_c1, y_slice, y_p0, y_p1, y_enum, y_rng1, y_rng2, y_lcTurn, nats, lnD, lwD]
theorem st2_ok (m : Wy) (ways : List Wy) (o5 o7 o11 o18 o19 o20 o23 o24 : Option D) (ha : p.a2 = bD p.x) (hm : bfD .min [.lst (ways.map lwD)] = some (lwD m)) (h9 : cf.c 0 9 [bD p.x] = .ok (wD m) []) : evS pg.tb cf st2 (E22 p o5 o7 [] ways o11 o18 o19 o20 o23 o24) = .nx (E22 p o5 o7 [] ways o11 o18 o19 o20 o23 o24) := by
  have m1 := meth_ok cf p.x (m := 8) (f := 9) (o := .var 2) (es := .nil) (env := E22 p o5 o7 [] ways o11 o18 o19 o20 o23 o24) (env1 := E22 p o5 o7 [] ways o11 o18 o19 o20 o23 o24) (env2 := E22 p o5 o7 [] ways o11 o18 o19 o20 o23 o24) rfl (by rw [y_var]; unfold E22; rw [ha]; rfl) rfl y_nil h9 (by simp)
  have i0 : idxD (lwD m) (.int 0) = some (.int (0 - m.1)) := rfl
  have i1 : idxD (lwD m) (.int 1) = some (.tup (nats m.2)) := rfl
  have s1 : (0 : Int) - (0 - m.1) = m.1 := by omega
  have hne := ne_self (plain_w m) (dep_w m)
  have hw : D.tup [.int m.1, .tup (nats m.2)] = wD m := rfl
  have hg : Env.get (E22 p o5 o7 [] ways o11 o18 o19 o20 o23 o24) 10 = some (.lst (ways.map lwD)) := rfl
  generalize E22 p o5 o7 [] ways o11 o18 o19 o20 o23 o24 = env at *
  unfold st2
  simp only [z_ite, y_cmp, y_cons, y_nil, y_tup, y_op, y_con, y_idx, y_bf, late_meth, late_tup, late_op, late_con, late_idx, late_bf, late_own, lateK_none, lateK_some, m1, hg, of_some, bind_ok, hm, two2_2, i0, i1, sub_int, s1, okLen, List.length_cons, List.length_nil]
  simp only [show decide (0 + 1 + 1 ≤ 16777216) = true by decide, if_true, bind_ok, two2_2, hw, hne, of_some, o_ok, onBO_bl, cond_false, z_nil]
theorem most22 (k : Nat) (t : Int) (h : Ok p.x p.n t) (ha : p.a2 = bD p.x) (o5 o7 o9 o10 o11 o18 o19 o20 o23 o24 : Option D) : ∃ o5' o9' o10' o11' o18' o19' o20' o23' o24', evSs pg.tb (lev pg (k + 4)) b22 [some p.a0, some (.int (p.n : Nat)), some p.a2, some (sD p.x), some p.a4, o5, none, o7, none, o9, o10, o11, none, none, none, none, none, none, o18, o19, o20, none, none, o23, o24, none] = evSs pg.tb (lev pg (k + 4)) (b22.drop 3) [some p.a0, some (.int (p.n : Nat)), some p.a2, some (sD p.x), some p.a4, o5', none, o7, none, o9', o10', o11', none, none, none, none, none, none, o18', o19', o20', none, none, o23', o24', none] := by
  have lb := len_bfs (n := p.n) (a0 := p.x.a) 11 [(p.x, [])]
  have wf := ways_few p.x.a h
  simp only [List.map_cons, List.map_nil, List.sum_cons, List.sum_nil, Nat.add_zero] at lb
  obtain ⟨q5, q11, q18, q19, q20, q23, q24, e⟩ := rounds22 (M := 16000001) p (by omega) (k + 3) t 11 [(p.x, [])] (fun c hc => by
    simp only [List.mem_singleton] at hc
    subst hc
    exact ⟨h, rfl⟩) (rangeD 0 12) [.int 12] (by simp [rangeD]) [(0, [])] o5 o7 o11 o18 o19 o20 o23 o24 (by
      simp only [List.length_cons, List.length_nil]; omega)
  obtain ⟨r11, r18, r19, r20, r23, r24, e2⟩ := round22 (M := 16000001) p (lev pg (k + 3 + 1)) (by omega) t (fun _ _ => []) [] (fun c hc => by simp at hc) ([(0, [])] ++ bfs p.n p.x.a 11 [(p.x, [])]) (some (.int 12)) o7 q11 q18 q19 q20 q23 q24 (by
      simp only [List.length_append, List.length_cons, List.length_nil, List.flatMap_nil]; omega)
  have hr : rngD (.int 0) (.int 13) = some (rangeD 0 12 ++ [.int 12]) := rfl
  have hm : bfD .min [.lst (([(0, [])] ++ bfs p.n p.x.a 11 [(p.x, [])]).map lwD)] = some (lwD (mostI p.n p.x)) := by
    have hf : (bfs p.n p.x.a 11 [(p.x, [])]).foldl better (0, []) = mostI p.n p.x := fold_same fun q => by rw [mem_bfs]; simp
    rw [List.singleton_append, min_ways, hf]
  have h9 := most_ok h k
  refine ⟨some (.int 12), some (.lst (([] : List Nd).map lnD)), some (.lst (([(0, [])] ++ bfs p.n p.x.a 11 [(p.x, [])]).map lwD)), r11, r18, r19, r20, r23, r24, ?_⟩
  generalize [(0, [])] ++ bfs p.n p.x.a 11 [(p.x, [])] = ws at *
  simp only [List.flatMap_nil, List.append_nil] at e2
  have e0 : bindT (.one 5) (.int 12) (E22 p q5 o7 [] ws q11 q18 q19 q20 q23 q24) = some (E22 p (some (.int 12)) o7 [] ws q11 q18 q19 q20 q23 q24) := rfl
  rw [forL_go e0 e2, forL] at e
  have s2 := st2_ok p (lev pg (k + 4)) (mostI p.n p.x) ws (some (.int 12)) o7 r11 r18 r19 r20 r23 r24 ha hm h9
  rw [b22_012, z_cons, st0_ok, seq_nx, z_cons, st1, z_fors, y_rng1, y_con, bind_ok, hr, of_some, o_ok]
  refine Eq.trans (congrArg (fun o => O.seq o _) e) ?_
  rw [seq_nx, z_cons, s2, seq_nx]
  rfl
end
end Bh.K09
/-! text P28 -/
set_option linter.all false
set_option maxRecDepth 100000
set_option maxHeartbeats 4000000
/-! P28: played out. -/
namespace Bh.K09
def plM (n : Nat) : Nat → B → List Nat
  | 0, _ => []
  | m + 1, x => if x.ms.sum = 0 then [] else bestI n 0 x :: plM n m (sow n x (bestI n 0 x)).1
def condP : E := .and (.no (.meth 2 (.var 0) (.nil))) (.cmp .lt (.cons (.bf .len (.cons (.own 3) .nil)) (.cons (.var 2) .nil)))
def bodyQ : List S := [.expr (.mm .append 3 (.cons (.meth 6 (.var 0) (.cons (.var 1) .nil)) .nil)), .set 0 (.idx (.cons (.meth 1 (.var 0) (.cons (.idx (.cons (.own 3) (.cons (.neg (.con (.int 1))) .nil))) .nil)) (.cons (.con (.int 0)) .nil)))]
def bQ (M : Nat) : List S := [.thaw 3 (.lst (.nil)), .whil M condP bodyQ, .ret (.tup (.cons (.var 0) (.cons (.bf .tuple (.cons (.own 3) .nil)) .nil)))]
theorem b13_eq : b13 = bQ 1000000000 := rfl
def E13 (x : B) (l : List Nat) : Env := [some (bD x), some (.int 1), some (.int 60), some (.lst (nats l))]
theorem last_nats (l : List Nat) (i : Nat) : idxD (.lst (nats (l ++ [i]))) (.int (-1)) = some (.int (i : Nat)) := by
  show atI (nats (l ++ [i])) (-1) = _
  unfold atI ixN
  have e : nats (l ++ [i]) = nats l ++ [.int (i : Nat)] := by simp [nats]
  rw [e]
  have hn : (nats l ++ [D.int (i : Nat)]).length = l.length + 1 := by simp [nats]
  rw [hn, if_neg (by decide), if_pos (by push_cast; omega)]
  have : ((-1 : Int) + ((l.length + 1 : Nat) : Int)).toNat = l.length := by omega
  rw [Option.bind_some, this]
  have hl : l.length = (nats l).length := by simp [nats]
  rw [hl]
  simp
section
variable {n : Nat} {t : Int} {x : B}
theorem cond13 (cf : CF) (l : List Nat) (ho : cf.c 0 3 [bD x] = .ok (.bl (x.ms.sum == 0)) []) : evE pg.tb cf condP (E13 x l) = .ok (.bl (!(x.ms.sum == 0) && decide (l.length < 60))) (E13 x l) := by
  have m0 := meth_ok cf x (m := 2) (f := 3) (o := .var 0) (es := .nil) (env := E13 x l) (env1 := E13 x l) (env2 := E13 x l) rfl (by rw [y_var]; rfl) rfl y_nil ho (by simp)
  have hl : (nats l).length = l.length := by simp [nats]
  have hd : decide ((l.length : Int) < 60) = decide (l.length < 60) := by
    by_cases h : l.length < 60
    · simp [h]; omega
    · simp [h]; omega
  unfold condP
  rw [y_and, y_no, m0, bind_ok, notD_bl, of_some, bind_ok]
  unfold E13
  cases x.ms.sum == 0
  · simp [startE, get_lit, Env.put, outsOf, okLen, setO, isNew, kindOf, z_nil, z_cons, z_set, z_thaw, z_bind, z_par2, z_expr, z_ret, z_retO, z_raise, z_ite, z_fors, z_whil, z_brk, z_cont, z_pass, z_setFld, z_augIx, z_setIx, z_bindX, tg_nil, tg_nm, tg_ix, y_var, y_con, y_glob, y_op, y_cmp, y_idx, y_chain, y_no, y_neg, y_and, y_or, y_ite, y_tup, y_lst, y_bf, y_mm, y_lm, y_call, y_meth, y_make, y_fld, y_nil, y_cons, y_seq, y_c0, y_c1, y_slice, y_p0, y_p1, y_enum, y_rng1, y_rng2, y_lcTurn, hl, hd]
  · simp [startE, get_lit, Env.put, outsOf, okLen, setO, isNew, kindOf, z_nil, z_cons, z_set, z_thaw, z_bind, z_par2, z_expr, z_ret, z_retO, z_raise, z_ite, z_fors, z_whil, z_brk, z_cont, z_pass, z_setFld, z_augIx, z_setIx, z_bindX, tg_nil, tg_nm, tg_ix, y_var, y_con, y_glob, y_op, y_cmp, y_idx, y_chain, y_no, y_neg, y_and, y_or, y_ite, y_tup, y_lst, y_bf, y_mm, y_lm, y_call, y_meth, y_make, y_fld, y_nil, y_cons, y_seq, y_c0, y_c1, y_slice, y_p0, y_p1, y_enum, y_rng1, y_rng2, y_lcTurn]
theorem step13 (cf : CF) (l : List Nat) (i : Nat) (y : B) (ag : Bool) (hl : l.length ≤ 100) (hb : cf.c 0 7 [bD x, .int 1] = .ok (.int (i : Nat)) []) (hs : cf.c 0 2 [bD x, .int (i : Nat)] = .ok (.tup [bD y, .bl ag]) []) : evSs pg.tb cf bodyQ (E13 x l) = .nx (E13 y (l ++ [i])) := by
  have m0 := meth_ok cf x (m := 6) (f := 7) (o := .var 0) (es := .cons (.var 1) .nil) (env := E13 x l) (env1 := E13 x l) (env2 := E13 x l) rfl (by rw [y_var]; rfl) rfl (by unfold E13; simp [y_cons, y_nil, y_var, get_lit]) hb (by simp)
  have hn : (nats l).length + 1 ≤ 16777216 := by simp [nats]; omega
  have hls := last_nats l i
  have m1 := meth_ok cf x (m := 1) (f := 2) (o := .var 0) (es := .cons (.idx (.cons (.own 3) (.cons (.neg (.con (.int 1))) .nil))) .nil) (env := E13 x (l ++ [i])) (env1 := E13 x (l ++ [i])) (env2 := E13 x (l ++ [i])) rfl (by rw [y_var]; rfl) rfl (by unfold E13; simp [y_cons, y_nil, y_var, y_idx, y_neg, y_con, get_lit, hls]) hs (by simp)
  have i0 : ∀ a b : D, idxD (.tup [a, b]) (.int 0) = some a := fun a b => rfl
  unfold bodyQ
  have e0 : evS pg.tb cf (.expr (.mm .append 3 (.cons (.meth 6 (.var 0) (.cons (.var 1) .nil)) .nil))) (E13 x l) = .nx (E13 x (l ++ [i])) := by
    rw [z_expr, y_mm]
    have hg : (E13 x l).get 3 = some (.lst (nats l)) := rfl
    rw [hg, isL_lst, y_cons, late_meth, lateK_none, m0, bind_ok, y_nil, bind_ok, bind_ok, hg, mmK_some, append_lst]
    unfold E13
    simp [okLen, hn, Env.put, snoc_nats]
  rw [z_cons, e0, seq_nx, z_cons, z_set, y_idx, y_cons, late_meth, lateK_none, m1, bind_ok, y_cons, late_con, lateK_none, y_con, bind_ok, y_nil, bind_ok, bind_ok, bind_ok, two2_2, i0, of_some, o_ok, seq_nx, z_nil]
  rfl
theorem loop13 (k : Nat) : ∀ (m : Nat) (x : B) (l : List Nat) (N : Nat), Ok x n t → l.length + m = 60 → whileL (evE pg.tb (lev pg (k + 5)) condP) (evSs pg.tb (lev pg (k + 5)) bodyQ) (m + N + 1) (E13 x l) = .nx (E13 (sownB n x (plM n m x)) (l ++ plM n m x))
  | 0, x, l, N, h, hl => by
    have c := cond13 (x := x) (lev pg (k + 5)) l (over_ok (k + 4))
    have : decide (l.length < 60) = false := by simp; omega
    rw [this, Bool.and_false] at c
    rw [whileL, c, o_ok]
    simp [plM, sownB]
  | m + 1, x, l, N, h, hl => by
    have c := cond13 (x := x) (lev pg (k + 5)) l (over_ok (k + 4))
    have e1 := h.m
    by_cases h0 : x.ms.sum = 0
    · have h0b : (x.ms.sum == 0) = true := by simpa using h0
      rw [h0b] at c
      rw [whileL, c, o_ok]
      simp [plM, sownB, h0]
    · have h0b : (x.ms.sum == 0) = false := by simpa using h0
      have : decide (l.length < 60) = true := by simp; omega
      rw [h0b, this] at c
      have hbm := bestI_mem (n := n) (d := 0) h.mp h0
      have hlt := ((mem_mv x.ms 0 _).mp hbm).2.1
      have s := step13 (x := x) (lev pg (k + 5)) l (bestI n 0 x) (sow n x (bestI n 0 x)).1 (sow n x (bestI n 0 x)).2 (by omega) (best_ok h h0 k 0) (sow_ok h (k + 2) hbm)
      have ih := loop13 k m (sow n x (bestI n 0 x)).1 (l ++ [bestI n 0 x]) N (sow_ok' h (by omega)) (by simp; omega)
      have ea : m + 1 + N + 1 = m + N + 1 + 1 := by omega
      rw [ea, whileL, c, o_ok]
      show (match evSs pg.tb (lev pg (k + 5)) bodyQ (E13 x l) with
        | .nx e => whileL _ _ (m + N + 1) e
        | .cont e => whileL _ _ (m + N + 1) e
        | .brk e => .nx e
        | r => r) = _
      rw [s]
      dsimp only
      rw [ih]
      simp [plM, h0, sownB]
theorem pl_let : ∀ (m : Nat) {x : B}, Ok x n t → letB n x (plM n m x)
  | 0, x, _ => trivial
  | m + 1, x, h => by
    have e1 := h.m
    unfold plM
    split
    · trivial
    · rename_i h0
      have hbm := bestI_mem (n := n) (d := 0) h.mp h0
      have hlt := ((mem_mv x.ms 0 _).mp hbm).2.1
      exact ⟨hbm, pl_let m (sow_ok' h (by omega))⟩
theorem pl_end : ∀ (m : Nat) {x : B}, (plM n m x).length < m → (sownB n x (plM n m x)).ms.sum = 0
  | 0, x, h => by simp at h
  | m + 1, x, h => by
    unfold plM at h ⊢
    split
    · rename_i h0; exact h0
    · rename_i h0
      rw [if_neg h0] at h
      exact pl_end m (by simpa using h)
theorem pl_len : ∀ (m : Nat) {x : B}, (plM n m x).length ≤ m
  | 0, x => by simp [plM]
  | m + 1, x => by
    unfold plM
    split
    · simp
    · have := pl_len m (x := (sow n x (bestI n 0 x)).1)
      simp; omega
theorem body13_ok (h : Ok x n t) (k M : Nat) (hM : 100 ≤ M) : ∃ e, evSs pg.tb (lev pg (k + 5)) (bQ M) [some (bD x), some (.int 1), some (.int 60), none] = .ret (.tup [bD (sownB n x (plM n 60 x)), .tup (nats (plM n 60 x))]) e := by
  have l := loop13 k 60 x [] (M - 61) h rfl
  have ea : 60 + (M - 61) + 1 = M := by omega
  rw [ea, List.nil_append] at l
  refine ⟨E13 (sownB n x (plM n 60 x)) (plM n 60 x), ?_⟩
  generalize lev pg (k + 5) = cf at *
  generalize sownB n x (plM n 60 x) = y at *
  generalize plM n 60 x = ws at *
  unfold bQ
  have e0 : evS pg.tb cf (.thaw 3 (.lst .nil)) [some (bD x), some (.int 1), some (.int 60), none] = .nx (E13 x []) := by
    unfold E13; simp [startE, get_lit, Env.put, outsOf, okLen, setO, isNew, kindOf, z_nil, z_cons, z_set, z_thaw, z_bind, z_par2, z_expr, z_ret, z_retO, z_raise, z_ite, z_fors, z_whil, z_brk, z_cont, z_pass, z_setFld, z_augIx, z_setIx, z_bindX, tg_nil, tg_nm, tg_ix, y_var, y_con, y_glob, y_op, y_cmp, y_idx, y_chain, y_no, y_neg, y_and, y_or, y_ite, y_tup, y_lst, y_bf, y_mm, y_lm, y_call, y_meth, y_make, y_fld, y_nil, y_cons, y_seq, y_c0, y_c1, y_slice, y_p0, y_p1, y_enum, y_rng1, y_rng2, y_lcTurn, nats]
  rw [z_cons, e0, seq_nx, z_cons, z_whil]
  refine Eq.trans (congrArg (fun o => O.seq o _) l) ?_
  rw [seq_nx]
  unfold E13
  simp [startE, get_lit, Env.put, outsOf, okLen, setO, isNew, kindOf, z_nil, z_cons, z_set, z_thaw, z_bind, z_par2, z_expr, z_ret, z_retO, z_raise, z_ite, z_fors, z_whil, z_brk, z_cont, z_pass, z_setFld, z_augIx, z_setIx, z_bindX, tg_nil, tg_nm, tg_ix, y_var, y_con, y_glob, y_op, y_cmp, y_idx, y_chain, y_no, y_neg, y_and, y_or, y_ite, y_tup, y_lst, y_bf, y_mm, y_lm, y_call, y_meth, y_make, y_fld, y_nil, y_cons, y_seq, y_c0, y_c1, y_slice, y_p0, y_p1, y_enum, y_rng1, y_rng2, y_lcTurn]
theorem played_ok (h : Ok x n t) (k : Nat) : (lev pg (k + 6)).c 0 13 [bD x, .int 1, .int 60] = .ok (.tup [bD (sownB n x (plM n 60 x)), .tup (nats (plM n 60 x))]) [] := by
  obtain ⟨e, he⟩ := body13_ok h k 1000000000 (by omega)
  rw [← b13_eq] at he
  rw [lev_call (df := d13) rfl rfl]
  show endD d13 (evSs pg.tb (lev pg (k + 5)) b13 [some (bD x), some (.int 1), some (.int 60), none]) = _
  rw [he]
  rfl
end
end Bh.K09
/-! text P29 -/
set_option linter.all false
set_option maxRecDepth 100000
set_option maxHeartbeats 4000000
/-! P29: marching heaps. -/
namespace Bh.K09
/-- one seed a heap, k heaps -/
def inc : Nat → List Int → List Int
  | 0, r => r
  | k + 1, [] => 1 :: inc k []
  | k + 1, x :: r => (x + 1) :: inc k r
def mstep : List Int → List Int
  | [] => []
  | s :: r => inc s.toNat r
def mrow (h : List Int) : Nat → List Int
  | 0 => h
  | k + 1 => mstep (mrow h k)
structure Hp (h : List Int) : Prop where
  ne : h ≠ []
  pos : ∀ y ∈ h, 1 ≤ y
  sum : h.sum ≤ 16
theorem inc_step : ∀ (p : Nat) (r : List Int), inc (p + 1) r = if p < (inc p r).length then (inc p r).set p ((inc p r).getD p 0 + 1) else inc p r ++ [1]
  | 0, [] => rfl
  | 0, x :: r => by simp [inc]
  | p + 1, [] => by
    show 1 :: inc (p + 1) [] = if p + 1 < (1 :: inc p []).length then (1 :: inc p []).set (p + 1) ((1 :: inc p []).getD (p + 1) 0 + 1) else (1 :: inc p []) ++ [1]
    rw [inc_step p []]
    by_cases h : p < (inc p []).length
    · simp [h]
    · simp [h]
  | p + 1, x :: r => by
    show (x + 1) :: inc (p + 1) r = if p + 1 < ((x + 1) :: inc p r).length then ((x + 1) :: inc p r).set (p + 1) (((x + 1) :: inc p r).getD (p + 1) 0 + 1) else ((x + 1) :: inc p r) ++ [1]
    rw [inc_step p r]
    by_cases h : p < (inc p r).length
    · simp [h]
    · simp [h]
theorem inc_sum : ∀ (p : Nat) (r : List Int), (inc p r).sum = r.sum + p
  | 0, r => by simp [inc]
  | p + 1, [] => by rw [inc, List.sum_cons, inc_sum p []]; simp; omega
  | p + 1, x :: r => by rw [inc, List.sum_cons, inc_sum p r, List.sum_cons]; push_cast; omega
theorem inc_pos : ∀ (p : Nat) (r : List Int), (∀ y ∈ r, 1 ≤ y) → ∀ y ∈ inc p r, 1 ≤ y
  | 0, r, h => h
  | p + 1, [], h => fun y hy => by
    rw [inc] at hy
    rcases List.mem_cons.mp hy with rfl | hy
    · omega
    · exact inc_pos p [] (by simp) y hy
  | p + 1, x :: r, h => fun y hy => by
    rw [inc] at hy
    have := h x (by simp)
    rcases List.mem_cons.mp hy with rfl | hy
    · omega
    · exact inc_pos p r (fun z hz => h z (by simp [hz])) y hy
theorem mstep_ok {h : List Int} (H : Hp h) : Hp (mstep h) := by
  obtain ⟨h1, h2, h3⟩ := H
  cases h with
  | nil => exact (h1 rfl).elim
  | cons s r =>
    have hs := h2 s (by simp)
    obtain ⟨q, hq⟩ : ∃ q, s.toNat = q + 1 := ⟨s.toNat - 1, by omega⟩
    rw [List.sum_cons] at h3
    refine ⟨?_, inc_pos _ _ fun y hy => h2 y (by simp [hy]), ?_⟩
    · show inc s.toNat r ≠ []
      rw [hq]
      cases r <;> simp [inc]
    · show (inc s.toNat r).sum ≤ 16
      rw [inc_sum]; omega
theorem mrow_ok {h : List Int} (H : Hp h) : ∀ k, Hp (mrow h k)
  | 0 => H
  | k + 1 => mstep_ok (mrow_ok H k)
theorem len_sum : ∀ {l : List Int}, (∀ y ∈ l, 1 ≤ y) → (l.length : Int) ≤ l.sum
  | [], _ => by simp
  | x :: l, h => by
    have := h x (by simp)
    have := len_sum (l := l) fun y hy => h y (by simp [hy])
    rw [List.sum_cons, List.length_cons]; push_cast; omega
theorem hp_len {h : List Int} (H : Hp h) : h.length ≤ 16 := by
  have := len_sum H.pos
  have := H.sum
  omega
def bodyI : List S := [.ite (.cmp .lt (.cons (.var 5) (.cons (.bf .len (.cons (.own 2) .nil)) .nil))) [.augIx 2 .add (.var 5) (.con (.int 1))] [.expr (.mm .append 2 (.cons (.con (.int 1)) .nil))]]
def bodyM : List S := [.ite (.cmp .eq (.cons (.own 2) (.cons (.lst (.nil)) .nil))) [.brk] [], .par2 6 false (.idx (.cons (.own 2) (.cons (.con (.int 0)) .nil))) 2 true (.slice (.own 2) (some (.con (.int 1))) none), .fors (.one 5) (.rng1 (.var 6)) bodyI, .expr (.mm .append 3 (.cons (.bf .tuple (.cons (.own 2) .nil)) .nil))]
theorem b14_eq : b14 = .thaw 2 (.lc (.one 6) (.seq (.var 0)) (some (.cmp .gt (.cons (.var 6) (.cons (.con (.int 0)) .nil)))) (.var 6)) :: .thaw 3 (.lst (.cons (.bf .tuple (.cons (.own 2) .nil)) .nil)) :: .fors (.one 4) (.rng1 (.var 1)) bodyM :: .ret (.bf .tuple (.cons (.own 3) .nil)) :: [] := rfl
theorem turnI (cf : CF) (a b f m : D) (k : Option D) (r : List Int) (p : Nat) (hl : (inc p r).length ≤ 1000) : evSs pg.tb cf bodyI [some a, some b, some (.lst (iz (inc p r))), some f, k, some (.int (p : Nat)), some m] = .nx [some a, some b, some (.lst (iz (inc (p + 1) r))), some f, k, some (.int (p : Nat)), some m] := by
  rw [inc_step]
  generalize inc p r = q at hl ⊢
  have hn : q.length + 1 ≤ 16777216 := by omega
  unfold bodyI
  by_cases h : p < q.length
  · rw [if_pos h]
    have hd : decide ((p : Int) < (q.length : Nat)) = true := by simp; omega
    have hp := pk_at h
    have hst : ∀ (v : Int) (env : Env), env.get 2 = some (.lst (iz q)) → setAt 2 (.int (p : Int)) (.int v) env = .nx (env.put 2 (.lst (iz (q.set p v)))) := fun v env he => st_at h he
    generalize q.getD p 0 = v at hp ⊢
    simp [get_lit, Env.put, z_cons, z_nil, z_ite, z_augIx, y_cmp, y_cons, y_nil, y_bf, y_var, y_con, ints_len, h, hp, -pick_lst]
    rw [hst _ _ rfl]
    simp [Env.put]
  · rw [if_neg h]
    have hd : decide ((p : Int) < (q.length : Nat)) = false := by simp; omega
    simp [get_lit, Env.put, okLen, z_cons, z_nil, z_ite, z_expr, y_mm, y_cmp, y_cons, y_nil, y_bf, y_var, y_con, ints_len, h, hn, iz_snoc]
theorem inc_len : ∀ (p : Nat) (r : List Int), (inc p r).length ≤ r.length + p
  | 0, r => by simp [inc]
  | p + 1, [] => by rw [inc]; have := inc_len p []; simp at this ⊢; omega
  | p + 1, x :: r => by rw [inc]; have := inc_len p r; simp; omega
theorem loopI (cf : CF) (a b f m : D) (k : Option D) (r : List Int) : ∀ (j p : Nat) (o : Option D), r.length + p + j ≤ 1000 → ∃ o', forL (.one 5) (evSs pg.tb cf bodyI) ((List.range' p j).map fun (i : Nat) => D.int (i : Int)) [some a, some b, some (.lst (iz (inc p r))), some f, k, o, some m] = .nx [some a, some b, some (.lst (iz (inc (p + j) r))), some f, k, o', some m]
  | 0, p, o, _ => ⟨o, rfl⟩
  | j + 1, p, o, h => by
    obtain ⟨o', ih⟩ := loopI cf a b f m k r j (p + 1) (some (.int (p : Nat))) (by omega)
    refine ⟨o', ?_⟩
    have il := inc_len p r
    have t := turnI cf a b f m k r p (by omega)
    have e0 : bindT (.one 5) (.int (p : Nat)) [some a, some b, some (.lst (iz (inc p r))), some f, k, o, some m] = some [some a, some b, some (.lst (iz (inc p r))), some f, k, some (.int (p : Nat)), some m] := rfl
    rw [List.range'_succ, List.map_cons, forL_go e0 t, ih]
    have : p + 1 + j = p + (j + 1) := by omega
    rw [this]
def rD (h : List Int) : D := .tup (iz h)
theorem eq_nil {l : List Int} (h : l ≠ []) : cmpB .eq (.lst (iz l)) (.lst []) = some (.bl false) := by
  refine cmpB_some ?_
  show (if eqOk (.lst (iz l)) (.lst []) then some (eqv (.lst (iz l)) (.lst [])) else empC (.lst (iz l)) (.lst [])) = _
  cases l with
  | nil => exact (h rfl).elim
  | cons x l =>
    have e1 : eqv (.lst (iz (x :: l))) (.lst []) = false := by rw [eqv]; rfl
    have e2 : empC (.lst (iz (x :: l))) (.lst []) = some false := rfl
    rw [e1, e2]
    split <;> rfl
theorem cut_one (s : Int) (r : List Int) : sliceD (.lst (iz (s :: r))) (some 1) none = some (.lst (iz r)) := by
  show some (D.lst (cut (iz (s :: r)) (some 1) none)) = _
  unfold cut sIx
  simp [iz]
  exact List.take_of_length_le (by simp)
theorem turnM (cf : CF) (a b : D) (cur : List Int) (f : List (List Int)) (k o5 o6 : Option D) (H : Hp cur) (hf : f.length ≤ 1000) : ∃ o5' o6', evSs pg.tb cf bodyM [some a, some b, some (.lst (iz cur)), some (.lst (f.map rD)), k, o5, o6] = .nx [some a, some b, some (.lst (iz (mstep cur))), some (.lst ((f ++ [mstep cur]).map rD)), k, o5', o6'] := by
  have hl := hp_len H
  have hsum := H.sum
  have hpos := H.pos
  have heq := eq_nil H.ne
  cases cur with
  | nil => exact (H.ne rfl).elim
  | cons s r =>
    have hs := hpos s (by simp)
    have hrs := len_sum (l := r) fun y hy => hpos y (by simp [hy])
    rw [List.sum_cons] at hsum
    obtain ⟨q, hq⟩ : ∃ q : Nat, s = (q : Int) := ⟨s.toNat, by omega⟩
    subst hq
    obtain ⟨o5', hI⟩ := loopI cf a b (.lst (f.map rD)) (.int (q : Nat)) k r q 0 o5 (by omega)
    refine ⟨o5', some (.int (q : Nat)), ?_⟩
    have hc := cut_one (q : Int) r
    have hix : idxD (.lst (iz ((q : Int) :: r))) (.int 0) = some (.int (q : Nat)) := ix_at (r := (q : Int) :: r) (i := 0) (by simp)
    have hstep : mstep ((q : Int) :: r) = inc q r := by show inc (q : Int).toNat r = _; rw [Int.toNat_natCast]
    rw [Nat.zero_add] at hI
    rw [hstep]
    have hrng := rngN (m := q) (by omega)
    generalize (List.range' 0 q).map (fun (i : Nat) => D.int (i : Int)) = L at *
    have e0 : evS pg.tb cf (.ite (.cmp .eq (.cons (.own 2) (.cons (.lst (.nil)) .nil))) [.brk] []) [some a, some b, some (.lst (iz ((q : Int) :: r))), some (.lst (f.map rD)), k, o5, o6] = .nx [some a, some b, some (.lst (iz ((q : Int) :: r))), some (.lst (f.map rD)), k, o5, o6] := by
      simp [get_lit, okLen, z_ite, z_nil, y_cmp, y_lst, y_cons, y_nil, heq]
    have e1 : evS pg.tb cf (.par2 6 false (.idx (.cons (.own 2) (.cons (.con (.int 0)) .nil))) 2 true (.slice (.own 2) (some (.con (.int 1))) none)) [some a, some b, some (.lst (iz ((q : Int) :: r))), some (.lst (f.map rD)), k, o5, o6] = .nx [some a, some b, some (.lst (iz r)), some (.lst (f.map rD)), k, o5, some (.int (q : Nat))] := by
      simp [get_lit, Env.put, setO, isNew, kindOf, z_par2, y_idx, y_slice, y_p0, y_p1, y_con, y_cons, y_nil, hix, hc]
    have e2 : evI pg.tb cf (.rng1 (.var 6)) [some a, some b, some (.lst (iz r)), some (.lst (f.map rD)), k, o5, some (.int (q : Nat))] = .ok L [some a, some b, some (.lst (iz r)), some (.lst (f.map rD)), k, o5, some (.int (q : Nat))] := by
      rw [y_rng1, y_var]
      have hg : Env.get [some a, some b, some (.lst (iz r)), some (.lst (f.map rD)), k, o5, some (.int (q : Nat))] 6 = some (.int (q : Nat)) := rfl
      rw [hg, of_some, bind_ok, hrng, of_some]
    unfold bodyM
    rw [z_cons, e0, seq_nx, z_cons, e1, seq_nx, z_cons, z_fors, e2, o_ok]
    refine Eq.trans (congrArg (fun o => O.seq o _) hI) ?_
    rw [seq_nx]
    have hn : f.length + 1 ≤ 16777216 := by omega
    generalize inc q r = z
    simp [get_lit, Env.put, okLen, z_cons, z_nil, z_expr, y_mm, y_bf, y_cons, y_nil, hn, rD]
def rowsM (h : List Int) (k : Nat) : List (List Int) := (List.range (k + 1)).map (mrow h)
theorem loopM (cf : CF) (a b : D) {h : List Int} (H : Hp h) : ∀ (l : List D) (j : Nat) (k o5 o6 : Option D), j + l.length ≤ 900 → ∃ k' o5' o6', forL (.one 4) (evSs pg.tb cf bodyM) l [some a, some b, some (.lst (iz (mrow h j))), some (.lst ((rowsM h j).map rD)), k, o5, o6] = .nx [some a, some b, some (.lst (iz (mrow h (j + l.length)))), some (.lst ((rowsM h (j + l.length)).map rD)), k', o5', o6']
  | [], j, k, o5, o6, _ => ⟨k, o5, o6, rfl⟩
  | v :: l, j, k, o5, o6, hl => by
    simp only [List.length_cons] at hl
    obtain ⟨p5, p6, t⟩ := turnM cf a b (mrow h j) (rowsM h j) (some v) o5 o6 (mrow_ok H j) (by simp [rowsM]; omega)
    obtain ⟨k', o5', o6', ih⟩ := loopM cf a b H l (j + 1) (some v) p5 p6 (by omega)
    refine ⟨k', o5', o6', ?_⟩
    have e0 : bindT (.one 4) v [some a, some b, some (.lst (iz (mrow h j))), some (.lst ((rowsM h j).map rD)), k, o5, o6] = some [some a, some b, some (.lst (iz (mrow h j))), some (.lst ((rowsM h j).map rD)), some v, o5, o6] := rfl
    have e1 : rowsM h j ++ [mstep (mrow h j)] = rowsM h (j + 1) := by
      unfold rowsM
      rw [List.range_succ (n := j + 1), List.map_append]
      rfl
    rw [e1] at t
    have e2 : j + (v :: l).length = j + 1 + l.length := by simp; omega
    rw [forL_go e0 t, e2]
    exact ih
theorem fm_pos : ∀ {l : List Int}, (∀ y ∈ l, 1 ≤ y) → (l.filterMap fun v => if decide (0 < v) then some (D.int v) else none) = iz l
  | [], _ => rfl
  | v :: l, h => by
    have h1 := h v (by simp)
    have hd : decide (0 < v) = true := by simp; omega
    rw [List.filterMap_cons, hd, fm_pos fun y hy => h y (by simp [hy])]
    rfl
theorem marching_ok {h : List Int} (H : Hp h) (k m : Nat) (hm : m ≤ 800) : (lev pg (k + 1)).c 0 14 [.lst (iz h), .int (m : Nat)] = .ok (.tup ((rowsM h m).map rD)) [] := by
  rw [lev_call (df := d14) rfl rfl]
  show endD d14 (evSs pg.tb (lev pg k) b14 [some (.lst (iz h)), some (.int (m : Nat)), none, none, none, none, none]) = _
  generalize lev pg k = cf
  have hrng := rngN (m := m) (by omega)
  obtain ⟨k', o5', o6', e⟩ := loopM cf (.lst (iz h)) (.int (m : Nat)) H ((List.range' 0 m).map fun (i : Nat) => D.int (i : Int)) 0 none none none (by simp; omega)
  rw [Nat.zero_add, List.length_map, List.length_range'] at e
  generalize (List.range' 0 m).map (fun (i : Nat) => D.int (i : Int)) = L at *
  rw [show mrow h 0 = h from rfl, show rowsM h 0 = [h] from rfl] at e
  have hlc : evE pg.tb cf (.lc (.one 6) (.seq (.var 0)) (some (.cmp .gt (.cons (.var 6) (.cons (.con (.int 0)) .nil)))) (.var 6)) [some (.lst (iz h)), some (.int (m : Nat)), none, none, none, none, none] = .ok (.lst (iz h)) [some (.lst (iz h)), some (.int (m : Nat)), none, none, none, none, none] := by
    have e := ev_lcM (tb := pg.tb) (cf := cf) (env := [some (.lst (iz h)), some (.int (m : Nat)), none, none, none, none, none]) (env0 := [some (.lst (iz h)), some (.int (m : Nat)), none, none, none, none, none]) D.int (i := 6) (it := .seq (.var 0)) (c := some (.cmp .gt (.cons (.var 6) (.cons (.con (.int 0)) .nil)))) (e := .var 6) (xs := h) (fun v => if decide (0 < v) then some (D.int v) else none) (by
      rw [y_seq, y_var]; rfl) (by have := hp_len H; simp [okLen]; omega) (fun v hv => by
      have hp := H.pos v hv
      have hd : decide (0 < v) = true := by simp; omega
      simp only [List.set_cons_succ, List.set_cons_zero]
      simp [y_lcTurn, y_c1, y_cmp, y_var, y_con, y_cons, y_nil, get_lit, hd])
    rw [e, fm_pos H.pos]
  have e0 : evS pg.tb cf (.thaw 2 (.lc (.one 6) (.seq (.var 0)) (some (.cmp .gt (.cons (.var 6) (.cons (.con (.int 0)) .nil)))) (.var 6))) [some (.lst (iz h)), some (.int (m : Nat)), none, none, none, none, none] = .nx [some (.lst (iz h)), some (.int (m : Nat)), some (.lst (iz h)), none, none, none, none] := by
    rw [z_thaw, hlc, o_ok]
    rfl
  have e1 : evS pg.tb cf (.thaw 3 (.lst (.cons (.bf .tuple (.cons (.own 2) .nil)) .nil))) [some (.lst (iz h)), some (.int (m : Nat)), some (.lst (iz h)), none, none, none, none] = .nx [some (.lst (iz h)), some (.int (m : Nat)), some (.lst (iz h)), some (.lst ([h].map rD)), none, none, none] := by
    simp [startE, get_lit, Env.put, outsOf, okLen, setO, isNew, kindOf, z_nil, z_cons, z_set, z_thaw, z_bind, z_par2, z_expr, z_ret, z_retO, z_raise, z_ite, z_fors, z_whil, z_brk, z_cont, z_pass, z_setFld, z_augIx, z_setIx, z_bindX, tg_nil, tg_nm, tg_ix, y_var, y_con, y_glob, y_op, y_cmp, y_idx, y_chain, y_no, y_neg, y_and, y_or, y_ite, y_tup, y_lst, y_bf, y_mm, y_lm, y_call, y_meth, y_make, y_fld, y_nil, y_cons, y_seq, y_c0, y_c1, y_slice, y_p0, y_p1, y_enum, y_rng1, y_rng2, y_lcTurn, rD]
  have e2 : evI pg.tb cf (.rng1 (.var 1)) [some (.lst (iz h)), some (.int (m : Nat)), some (.lst (iz h)), some (.lst ([h].map rD)), none, none, none] = .ok L [some (.lst (iz h)), some (.int (m : Nat)), some (.lst (iz h)), some (.lst ([h].map rD)), none, none, none] := by
    rw [y_rng1, y_var]
    have hg : Env.get [some (D.lst (iz h)), some (.int (m : Nat)), some (.lst (iz h)), some (.lst ([h].map rD)), none, none, none] 1 = some (.int (m : Nat)) := rfl
    rw [hg, of_some, bind_ok, hrng, of_some]
  rw [b14_eq, z_cons, e0, seq_nx, z_cons, e1, seq_nx, z_cons, z_fors, e2, o_ok, e, seq_nx]
  generalize rowsM h m = rs
  generalize mrow h m = rw1
  have hio : d14.io = [] := rfl
  simp [startE, get_lit, Env.put, outsOf, okLen, setO, isNew, kindOf, z_nil, z_cons, z_set, z_thaw, z_bind, z_par2, z_expr, z_ret, z_retO, z_raise, z_ite, z_fors, z_whil, z_brk, z_cont, z_pass, z_setFld, z_augIx, z_setIx, z_bindX, tg_nil, tg_nm, tg_ix, y_var, y_con, y_glob, y_op, y_cmp, y_idx, y_chain, y_no, y_neg, y_and, y_or, y_ite, y_tup, y_lst, y_bf, y_mm, y_lm, y_call, y_meth, y_make, y_fld, y_nil, y_cons, y_seq, y_c0, y_c1, y_slice, y_p0, y_p1, y_enum, y_rng1, y_rng2, y_lcTurn, hio]
end Bh.K09
/-! text P30 -/
set_option linter.all false
set_option maxRecDepth 100000
set_option maxHeartbeats 4000000
/-! P30: heaps come round: how soon. -/
namespace Bh.K09
def sts : Nat → List (List Int)
  | 0 => [[]]
  | m + 1 => (sts m).flatMap fun l => [1 :: l, 2 :: l, 3 :: l, 4 :: l]
theorem sts_mem : ∀ (h : List Int), (∀ y ∈ h, 1 ≤ y ∧ y ≤ 4) → h ∈ sts h.length
  | [], _ => by simp [sts]
  | x :: h, H => by
    have ih := sts_mem h fun y hy => H y (by simp [hy])
    have hx := H x (by simp)
    rw [List.length_cons, sts, List.mem_flatMap]
    refine ⟨h, ih, ?_⟩
    have : x = 1 ∨ x = 2 ∨ x = 3 ∨ x = 4 := by omega
    rcases this with rfl | rfl | rfl | rfl <;> simp
/-- it comes round by 28 -/
def soon (h : List Int) : Bool := [1, 2, 3, 4, 5, 6].any fun p => decide (mrow h 22 = mrow h (22 + p))
def allSoon : Bool := (sts 1).all soon && ((sts 2).all soon && ((sts 3).all soon && (sts 4).all soon))
theorem all_soon : allSoon = true := by kernel_rfl
theorem soon_of {h : List Int} (hl : 1 ≤ h.length) (hl2 : h.length ≤ 4) (H : ∀ y ∈ h, 1 ≤ y ∧ y ≤ 4) : ∃ p, 1 ≤ p ∧ p ≤ 6 ∧ mrow h 22 = mrow h (22 + p) := by
  have a := all_soon
  unfold allSoon at a
  simp only [Bool.and_eq_true, List.all_eq_true] at a
  have m := sts_mem h H
  have : soon h = true := by
    have : h.length = 1 ∨ h.length = 2 ∨ h.length = 3 ∨ h.length = 4 := by omega
    rcases this with e | e | e | e <;> rw [e] at m
    · exact a.1 h m
    · exact a.2.1 h m
    · exact a.2.2.1 h m
    · exact a.2.2.2 h m
  unfold soon at this
  rw [List.any_eq_true] at this
  obtain ⟨p, hp, e⟩ := this
  have e := of_decide_eq_true e
  simp only [List.mem_cons, List.not_mem_nil, or_false] at hp
  exact ⟨p, by omega, by omega, e⟩
/-- row k stood before -/
def Old (h : List Int) (k : Nat) : Prop := ∃ j, j < k ∧ mrow h j = mrow h k
theorem least_of {P : Nat → Prop} : ∀ k : Nat, P k → ∃ m, m ≤ k ∧ P m ∧ ∀ j, j < m → ¬ P j := by
  intro k
  induction k using Nat.strongRecOn with
  | _ k ih =>
    intro hk
    by_cases c : ∃ j, j < k ∧ P j
    · obtain ⟨j, hj, pj⟩ := c
      obtain ⟨m, h1, h2, h3⟩ := ih j hj pj
      exact ⟨m, by omega, h2, h3⟩
    · exact ⟨k, by omega, hk, fun j hj pj => c ⟨j, hj, pj⟩⟩
/-- the first return: row f and row s + f, the rows ahead all different -/
theorem first_back {h : List Int} (hl : 1 ≤ h.length) (hl2 : h.length ≤ 4) (H : ∀ y ∈ h, 1 ≤ y ∧ y ≤ 4) : ∃ k f, k ≤ 28 ∧ f < k ∧ mrow h f = mrow h k ∧ (∀ i j, i < j → j < k → mrow h i ≠ mrow h j) := by
  obtain ⟨p, p1, p2, e⟩ := soon_of hl hl2 H
  obtain ⟨k, k1, ⟨f, f1, f2⟩, k3⟩ := least_of (P := Old h) (22 + p) ⟨22, by omega, e⟩
  exact ⟨k, f, by omega, f1, f2, fun i j hij hj z => k3 j hj ⟨i, hij, z⟩⟩
theorem hp_of {h : List Int} (hl : 1 ≤ h.length) (hl2 : h.length ≤ 4) (H : ∀ y ∈ h, 1 ≤ y ∧ y ≤ 4) : Hp h := by
  refine ⟨fun z => by rw [z] at hl; simp at hl, fun y hy => (H y hy).1, ?_⟩
  have : ∀ l : List Int, (∀ y ∈ l, 1 ≤ y ∧ y ≤ 4) → l.sum ≤ 4 * l.length := by
    intro l
    induction l with
    | nil => intro _; simp
    | cons x l ih =>
      intro K
      have := ih fun y hy => K y (by simp [hy])
      have := K x (by simp)
      rw [List.sum_cons, List.length_cons]; push_cast; omega
  have := this h H
  omega
/-! rows as data -/
theorem eqvs_iz : ∀ a b : List Int, eqvs (iz a) (iz b) = decide (a = b)
  | [], [] => by simp [iz, eqvs]
  | [], y :: b => by simp [iz, eqvs]
  | x :: a, [] => by simp [iz, eqvs]
  | x :: a, y :: b => by
    have ih := eqvs_iz a b
    show eqvs (.int x :: iz a) (.int y :: iz b) = _
    rw [eqvs, ih, eqv]
    by_cases h1 : x = y <;> by_cases h2 : a = b <;> simp [h1, h2]
theorem eqv_row (a b : List Int) : eqv (rD a) (rD b) = decide (a = b) := by
  unfold rD
  rw [eqv]
  exact eqvs_iz a b
theorem plains_rows : ∀ l : List (List Int), plains (l.map rD) = true
  | [] => rfl
  | x :: l => by
    rw [List.map_cons, plains, plains_rows l]
    simp [rD, plain, plains_iz]
theorem deps_iz : ∀ l : List Int, deps (iz l) = 0
  | [] => rfl
  | x :: l => by show max 0 (deps (iz l)) = 0; rw [deps_iz l]; rfl
theorem dep_row (h : List Int) : dep (rD h) = 1 := by simp [rD, dep, deps_iz]
theorem in_rows (r : List Int) (l : List (List Int)) : cmpB .isin (rD r) (.tup (l.map rD)) = some (.bl (decide (r ∈ l))) := by
  refine cmpB_some ?_
  show (if plain (rD r) && plains (l.map rD) && decide (dep (rD r) ≤ 100) then some ((l.map rD).any fun x => eqv x (rD r)) else none) = _
  have hp : plain (rD r) = true := by simp [rD, plain, plains_iz]
  rw [hp, plains_rows, dep_row, if_pos (by decide)]
  congr 1
  rw [Bool.eq_iff_iff, List.any_eq_true, decide_eq_true_eq]
  constructor
  · rintro ⟨x, hx, e⟩
    obtain ⟨a, ha, rfl⟩ := List.mem_map.mp hx
    rw [eqv_row, decide_eq_true_eq] at e
    rw [← e]; exact ha
  · intro hr
    exact ⟨rD r, List.mem_map.mpr ⟨r, hr, rfl⟩, by rw [eqv_row]; simp⟩
theorem idx_rows (r : List Int) (l : List (List Int)) {f : Nat} (hf : f < l.length) (he : l.getD f [] = r) (hn : ∀ j, j < f → l.getD j [] ≠ r) : idxOf (rD r) (l.map rD) = some (.int (f : Nat)) := by
  unfold idxOf
  have hp : plain (rD r) = true := by simp [rD, plain, plains_iz]
  rw [hp, plains_rows, dep_row, if_pos (by decide)]
  have e : (l.map rD).findIdx? (fun x => eqv x (rD r)) = some f := by
    rw [List.findIdx?_map, List.findIdx?_eq_some_iff_getElem]
    refine ⟨hf, ?_, fun j hj => ?_⟩
    · simp only [Function.comp, eqv_row, decide_eq_true_eq]
      rw [← he, List.getD_eq_getElem?_getD, List.getElem?_eq_getElem hf]; rfl
    · simp only [Function.comp, eqv_row, decide_eq_true_eq]
      have := hn j hj
      rw [List.getD_eq_getElem?_getD, List.getElem?_eq_getElem (by omega)] at this
      exact this
  rw [e]; rfl
end Bh.K09
/-! text P31 -/
set_option linter.all false
set_option maxRecDepth 100000
set_option maxHeartbeats 4000000
/-! P31: until_same. -/
namespace Bh.K09
theorem rows_at (h : List Int) {m j : Nat} (hj : j ≤ m) : (rowsM h m).getD j [] = mrow h j := by
  unfold rowsM
  rw [List.getD_eq_getElem?_getD]
  simp [show j < m + 1 by omega]
theorem rows_len (h : List Int) (m : Nat) : (rowsM h m).length = m + 1 := by simp [rowsM]
theorem rows_take (h : List Int) {m j : Nat} (hj : j ≤ m) : (rowsM h m).take j = (List.range j).map (mrow h) := by
  unfold rowsM
  rw [← List.map_take, List.take_range, Nat.min_eq_left (by omega)]
theorem cut_rows (l : List (List Int)) {j : Nat} (hj : j ≤ l.length) : sliceD (.tup (l.map rD)) none (some (j : Int)) = some (.tup ((l.take j).map rD)) := by
  show some (D.tup (cut (l.map rD) none (some (j : Int)))) = _
  unfold cut sIx
  dsimp only
  rw [if_neg (by omega)]
  simp [List.map_take, Nat.min_eq_left hj]
def bodyU : List S := [.ite (.cmp .isin (.cons (.var 4) (.cons (.slice (.var 2) none (some (.var 3))) .nil))) [.set 5 (.lm .indexT (.var 2) (.cons (.var 4) .nil)), .ret (.tup (.cons (.var 5) (.cons (.op .sub (.cons (.var 3) (.cons (.var 5) .nil))) .nil)))] []]
theorem b15_eq : b15 = .set 2 (.call 14 (.cons (.var 0) (.cons (.var 1) .nil))) :: .fors (.many [3, 4]) (.enum (.var 2)) bodyU :: .raise 3 :: [] := rfl
section
variable (cf : CF) (a b : D) (h : List Int) (m : Nat)
theorem turnU0 (j : Nat) (hj : j ≤ m) (hn : ¬ Old h j) : evSs pg.tb cf bodyU [some a, some b, some (.tup ((rowsM h m).map rD)), some (.int (j : Nat)), some (rD (mrow h j)), none] = .nx [some a, some b, some (.tup ((rowsM h m).map rD)), some (.int (j : Nat)), some (rD (mrow h j)), none] := by
  have hc := cut_rows (rowsM h m) (j := j) (by rw [rows_len]; omega)
  rw [rows_take h hj] at hc
  have hi := in_rows (mrow h j) ((List.range j).map (mrow h))
  have hd : decide (mrow h j ∈ (List.range j).map (mrow h)) = false := by
    rw [decide_eq_false_iff_not]
    intro z
    obtain ⟨i, hi, e⟩ := List.mem_map.mp z
    exact hn ⟨i, List.mem_range.mp hi, e⟩
  rw [hd] at hi
  generalize (List.range j).map (mrow h) = tk at *
  generalize rowsM h m = rs at *
  generalize mrow h j = rj at *
  unfold bodyU
  simp [get_lit, z_cons, z_nil, z_ite, y_cmp, y_slice, y_p0, y_p1, y_cons, y_nil, y_var, hc, hi]
theorem turnU1 (k f : Nat) (hk : k ≤ m) (hf : f < k) (he : mrow h f = mrow h k) (hd : ∀ i j, i < j → j < k → mrow h i ≠ mrow h j) : ∃ e, evSs pg.tb cf bodyU [some a, some b, some (.tup ((rowsM h m).map rD)), some (.int (k : Nat)), some (rD (mrow h k)), none] = .ret (.tup [.int (f : Nat), .int ((k : Int) - (f : Int))]) e := by
  have hc := cut_rows (rowsM h m) (j := k) (by rw [rows_len]; omega)
  rw [rows_take h hk] at hc
  have hi := in_rows (mrow h k) ((List.range k).map (mrow h))
  have hd2 : decide (mrow h k ∈ (List.range k).map (mrow h)) = true := by
    simp only [decide_eq_true_eq, List.mem_map, List.mem_range]
    exact ⟨f, hf, he⟩
  rw [hd2] at hi
  have hx := idx_rows (mrow h k) (rowsM h m) (f := f) (by rw [rows_len]; omega) (by rw [rows_at h (by omega), he]) (fun j hj => by
    rw [rows_at h (by omega), ← he]
    exact hd j f hj hf)
  generalize (List.range k).map (mrow h) = tk at *
  generalize mrow h k = rj at *
  refine ⟨[some a, some b, some (.tup ((rowsM h m).map rD)), some (.int (k : Nat)), some (rD rj), some (.int (f : Nat))], ?_⟩
  generalize rowsM h m = rs at *
  have hl : lmD .indexT (.tup (rs.map rD)) [rD rj] = some (.int (f : Nat)) := hx
  have ht : lmT .indexT (.tup (rs.map rD)) = true := rfl
  unfold bodyU
  simp [get_lit, Env.put, okLen, z_cons, z_nil, z_ite, z_set, z_ret, y_cmp, y_slice, y_p0, y_p1, y_lm, y_tup, y_op, y_cons, y_nil, y_var, hc, hi, hl, ht]
def itU (h : List Int) (j : Nat) : D := .tup [.int (j : Nat), rD (mrow h j)]
theorem enum_rows : enumD ((rowsM h m).map rD) = (List.range' 0 (m + 1)).map (itU h) := by
  apply List.ext_getElem?
  intro j
  simp only [enumD, rowsM, List.getElem?_mapIdx, List.getElem?_map, Option.map_map]
  by_cases hj : j < m + 1
  · rw [List.getElem?_range hj, List.getElem?_range' hj]
    simp [itU]
  · rw [List.getElem?_eq_none (by simp; omega), List.getElem?_eq_none (by simp; omega)]
    rfl
theorem loopU (k f : Nat) (hk : k ≤ m) (hf : f < k) (he : mrow h f = mrow h k) (hd : ∀ i j, i < j → j < k → mrow h i ≠ mrow h j) : ∀ (c j : Nat) (o3 o4 : Option D), k < j + c → j ≤ k → j + c ≤ m + 1 → ∃ e, forL (.many [3, 4]) (evSs pg.tb cf bodyU) ((List.range' j c).map (itU h)) [some a, some b, some (.tup ((rowsM h m).map rD)), o3, o4, none] = .ret (.tup [.int (f : Nat), .int ((k : Int) - (f : Int))]) e
  | 0, j, o3, o4, h1, h2, _ => by omega
  | c + 1, j, o3, o4, h1, h2, h3 => by
    have e0 : bindT (.many [3, 4]) (itU h j) [some a, some b, some (.tup ((rowsM h m).map rD)), o3, o4, none] = some [some a, some b, some (.tup ((rowsM h m).map rD)), some (.int (j : Nat)), some (rD (mrow h j)), none] := rfl
    rw [List.range'_succ, List.map_cons]
    by_cases hjk : j = k
    · subst hjk
      obtain ⟨e, t⟩ := turnU1 cf a b h m j f hk hf he hd
      refine ⟨e, ?_⟩
      rw [forL, e0]
      simp only [t]
    · obtain ⟨e, ih⟩ := loopU k f hk hf he hd c (j + 1) (some (.int (j : Nat))) (some (rD (mrow h j))) (by omega) (by omega) (by omega)
      refine ⟨e, ?_⟩
      have t := turnU0 cf a b h m j (by omega) (fun ⟨i, hi, z⟩ => hd i j hi (by omega) z)
      rw [forL_go e0 t]
      exact ih
end
theorem until_ok {h : List Int} (H : Hp h) (k f : Nat) (hk : k ≤ 300) (hf : f < k) (he : mrow h f = mrow h k) (hd : ∀ i j, i < j → j < k → mrow h i ≠ mrow h j) (q : Nat) : (lev pg (q + 2)).c 0 15 [.lst (iz h), .int 300] = .ok (.tup [.int (f : Nat), .int ((k : Int) - (f : Int))]) [] := by
  have hm := marching_ok H q 300 (by omega)
  rw [lev_call (df := d15) rfl rfl]
  generalize lev pg (q + 1) = cf at *
  obtain ⟨e, hl⟩ := loopU cf (.lst (iz h)) (.int 300) h 300 k f hk hf he hd 301 0 none none (by omega) (by omega) (by omega)
  have hen := enum_rows h 300
  show endD d15 (evSs pg.tb cf b15 [some (.lst (iz h)), some (.int 300), none, none, none, none]) = _
  have hm : cf.c 0 14 [.lst (iz h), .int 300] = .ok (.tup ((rowsM h 300).map rD)) [] := hm
  have e0 : evS pg.tb cf (.set 2 (.call 14 (.cons (.var 0) (.cons (.var 1) .nil)))) [some (.lst (iz h)), some (.int 300), none, none, none, none] = .nx [some (.lst (iz h)), some (.int 300), some (.tup ((rowsM h 300).map rD)), none, none, none] := by
    generalize rowsM h 300 = rs at *
    simp [get_lit, Env.put, z_set, y_call, y_var, y_cons, y_nil, hm]
  have e1 : evI pg.tb cf (.enum (.var 2)) [some (.lst (iz h)), some (.int 300), some (.tup ((rowsM h 300).map rD)), none, none, none] = .ok (enumD ((rowsM h 300).map rD)) [some (.lst (iz h)), some (.int 300), some (.tup ((rowsM h 300).map rD)), none, none, none] := by
    generalize rowsM h 300 = rs at *
    simp [get_lit, y_enum, y_var]
  rw [b15_eq, z_cons, e0, seq_nx, z_cons, z_fors, e1, o_ok, hen]
  have hr : (300 + 1 : Nat) = 301 := rfl
  rw [hr, hl, seq_ret]
  rfl
theorem until_no (q : Nat) : (lev pg (q + 2)).c 0 15 [.lst [.int 1, .int 2, .int 3], .int 0] = .exc 3 [] := by kernel_rfl
theorem new_no (q : Nat) : (lev pg (q + 1)).c 0 11 [.int 0, .int 1] = .exc 3 [] := by kernel_rfl
theorem make_no1 (q : Nat) : (lev pg (q + 2)).c 1 0 [.obj 8 [], .lst [], .lst [], .tup [.int 0, .int 0], .bl true] = .exc 4 [.obj 8 []] := by kernel_rfl
theorem make_no2 (q : Nat) : (lev pg (q + 2)).c 1 0 [.obj 8 [], .lst [.int (-1)], .lst [.int 1], .tup [.int 0, .int 0], .bl true] = .exc 4 [.obj 8 []] := by kernel_rfl
end Bh.K09
/-! text P32 -/
set_option linter.all false
set_option maxRecDepth 100000
set_option maxHeartbeats 4000000
/-! P32: new boards; the law's dice. -/
namespace Bh.K09
theorem rep_flat (s : Int) : ∀ n : Nat, (List.replicate n [D.int s]).flatten = iz (List.replicate n s)
  | 0 => rfl
  | n + 1 => by rw [List.replicate_succ, List.flatten_cons, rep_flat s n]; rfl
theorem mul_rep (s : Int) (n : Nat) (hn : n ≤ 100) : opD .mul (.lst [.int s]) (.int (n : Nat)) = some (.lst (iz (List.replicate n s))) := by
  have e : (2 : Int) ^ 62 = 4611686018427387904 := rfl
  have e2 : opD .mul = mulD := rfl
  rw [e2, mulD, e]
  have c : (decide (-4611686018427387904 ≤ (n : Int)) && decide ((n : Int) < 4611686018427387904) && okLen ([D.int s].length * (n : Int).toNat)) = true := by
    simp only [okLen, List.length_cons, List.length_nil, Bool.and_eq_true, decide_eq_true_eq]
    omega
  rw [if_pos c, Int.toNat_natCast, rep_flat]
theorem ev_op2 {tb : Tb} {cf : CF} {o : Op2} {a b : E} {env : Env} {x y r : D} (h1 : lateOf a = none) (h2 : lateOf b = none) (h3 : evE tb cf a env = .ok x env) (h4 : evE tb cf b env = .ok y env) (h5 : opD o x y = some r) : evE tb cf (.op o (.cons a (.cons b .nil))) env = .ok r env := by
  rw [y_op, y_cons, h1, lateK_none, h3, bind_ok, y_cons, h2, lateK_none, h4, bind_ok, y_nil, bind_ok, bind_ok, bind_ok, two2_2, h5, of_some]
theorem new_ok {n : Nat} {s : Int} (h1 : 1 ≤ n) (h2 : n ≤ 4) (h3 : 0 ≤ s) (h4 : s ≤ 3) (k : Nat) : (lev pg (k + 3)).c 0 11 [.int (n : Nat), .int s] = .ok (bD (newB n s)) [] := by
  have mk := fun es env e2 a b => make_cf (newB_ok h1 h2 h3 h4) (cf := lev pg (k + 2)) rfl (es := es) (env := env) (e2 := e2) a b
  rw [lev_call (df := d11) rfl rfl]
  show endD d11 (evSs pg.tb (lev pg (k + 2)) b11 [some (.int (n : Nat)), some (.int s)]) = _
  generalize lev pg (k + 2) = cf at *
  have hm := mul_rep s n (by omega)
  have d1 : decide ((n : Int) < 1) = false := by simp; omega
  have d2 : decide (s < 0) = false := by simp; omega
  have h := mk (.cons (.op .mul (.cons (.lst (.cons (.var 1) .nil)) (.cons (.var 0) .nil))) (.cons (.op .mul (.cons (.lst (.cons (.var 1) .nil)) (.cons (.var 0) .nil))) (.cons (.tup (.cons (.con (.int 0)) (.cons (.con (.int 0)) .nil))) (.cons (.con (.bl true)) .nil)))) [some (.int (n : Nat)), some (.int s)] [some (.int (n : Nat)), some (.int s)] (by
    have hE : evE pg.tb cf (.op .mul (.cons (.lst (.cons (.var 1) .nil)) (.cons (.var 0) .nil))) [some (.int (n : Nat)), some (.int s)] = .ok (.lst (iz (List.replicate n s))) [some (.int (n : Nat)), some (.int s)] := ev_op2 rfl rfl (by simp [startE, get_lit, Env.put, outsOf, okLen, setO, isNew, kindOf, z_nil, z_cons, z_set, z_thaw, z_bind, z_par2, z_expr, z_ret, z_retO, z_raise, z_ite, z_fors, z_whil, z_brk, z_cont, z_pass, z_setFld, z_augIx, z_setIx, z_bindX, tg_nil, tg_nm, tg_ix, y_var, y_con, y_glob, y_op, y_cmp, y_idx, y_chain, y_no, y_neg, y_and, y_or, y_ite, y_tup, y_lst, y_bf, y_mm, y_lm, y_call, y_meth, y_make, y_fld, y_nil, y_cons, y_seq, y_c0, y_c1, y_slice, y_p0, y_p1, y_enum, y_rng1, y_rng2, y_lcTurn]) (by simp [startE, get_lit, Env.put, outsOf, okLen, setO, isNew, kindOf, z_nil, z_cons, z_set, z_thaw, z_bind, z_par2, z_expr, z_ret, z_retO, z_raise, z_ite, z_fors, z_whil, z_brk, z_cont, z_pass, z_setFld, z_augIx, z_setIx, z_bindX, tg_nil, tg_nm, tg_ix, y_var, y_con, y_glob, y_op, y_cmp, y_idx, y_chain, y_no, y_neg, y_and, y_or, y_ite, y_tup, y_lst, y_bf, y_mm, y_lm, y_call, y_meth, y_make, y_fld, y_nil, y_cons, y_seq, y_c0, y_c1, y_slice, y_p0, y_p1, y_enum, y_rng1, y_rng2, y_lcTurn]) hm
    clear hm mk
    show _ = R.ok [D.lst (iz (List.replicate n s)), D.lst (iz (List.replicate n s)), D.tup [D.int 0, D.int 0], D.bl true] _
    generalize List.replicate n s = L at *
    rw [y_cons, late_op, lateK_none, hE, bind_ok, y_cons, late_op, lateK_none, hE, bind_ok]
    simp [startE, get_lit, Env.put, outsOf, okLen, setO, isNew, kindOf, z_nil, z_cons, z_set, z_thaw, z_bind, z_par2, z_expr, z_ret, z_retO, z_raise, z_ite, z_fors, z_whil, z_brk, z_cont, z_pass, z_setFld, z_augIx, z_setIx, z_bindX, tg_nil, tg_nm, tg_ix, y_var, y_con, y_glob, y_op, y_cmp, y_idx, y_chain, y_no, y_neg, y_and, y_or, y_ite, y_tup, y_lst, y_bf, y_mm, y_lm, y_call, y_meth, y_make, y_fld, y_nil, y_cons, y_seq, y_c0, y_c1, y_slice, y_p0, y_p1, y_enum, y_rng1, y_rng2, y_lcTurn]) (by simp)
  unfold b11
  have e0 : evS pg.tb cf (.ite (.or (.cmp .lt (.cons (.var 0) (.cons (.con (.int 1)) .nil))) (.cmp .lt (.cons (.var 1) (.cons (.con (.int 0)) .nil)))) [.raise 3] []) [some (.int (n : Nat)), some (.int s)] = .nx [some (.int (n : Nat)), some (.int s)] := by
    simp [get_lit, z_ite, z_nil, y_or, y_cmp, y_var, y_con, y_cons, y_nil, d1, d2]
  rw [z_cons, e0, seq_nx, z_cons, z_ret, h, o_ok, seq_ret]
  rfl
def diceD (a b c : Int) : D := .lst [.int a, .int b, .int c]
theorem roll (k : Nat) (a b c n : Int) (h0 : 0 < n) (h1 : n < 1073741824) : ∃ r a' b' c' : Int, 0 ≤ r ∧ r < n ∧ (lev pg (k + 1)).c 0 17 [diceD a b c, .int n] = .ok (.int r) [diceD a' b' c'] := by
  rw [lev_call (df := d17) rfl rfl]
  show ∃ r a' b' c' : Int, 0 ≤ r ∧ r < n ∧ endD d17 (evSs pg.tb (lev pg k) b17 [some (diceD a b c), some (.int n), none]) = _
  generalize lev pg k = cf
  have q1 : ∀ x : Int, 0 ≤ x % n ∧ x % n < n := fun x => ⟨Int.emod_nonneg _ (by omega), Int.emod_lt_of_pos _ h0⟩
  by_cases c2 : c = 2
  · refine ⟨a % n, a / n, b, c, (q1 a).1, (q1 a).2, ?_⟩
    subst c2
    simp [b17, diceD, evSs, evS, evE, evEs, R.bind, R.o, R.of, Env.get, Env.put, lateOf, idxD, atI, ixN, cmpD, eqOk, plain, plains, dep, deps, eqv, intC, opD, modD, fdivD, h0, h1, bfD, intD, endD, d17, outsOf]
  · by_cases c1 : c = 1 ∧ 0 < a
    · refine ⟨a % n, a / n, b, c, (q1 a).1, (q1 a).2, ?_⟩
      obtain ⟨c1, c3⟩ := c1
      subst c1
      simp [b17, diceD, evSs, evS, evE, evEs, R.bind, R.o, R.of, Env.get, Env.put, lateOf, idxD, atI, ixN, cmpD, eqOk, ordC, plain, plains, dep, deps, eqv, intC, opD, modD, fdivD, h0, h1, c3, bfD, intD, endD, d17, outsOf]
    · refine ⟨((a * 48271 + b * 69621 + 11) % 2147483647 / 7 + (a * 48271 + b * 69621 + 11) % 2147483647) % n, (a * 48271 + b * 69621 + 11) % 2147483647, b + 1, 0, (q1 _).1, (q1 _).2, ?_⟩
      by_cases d1 : c = 1
      · have d2 : ¬ 0 < a := fun z => c1 ⟨d1, z⟩
        subst d1
        simp [b17, diceD, evSs, evS, evE, evEs, R.bind, R.o, R.of, Env.get, Env.put, lateOf, idxD, atI, ixN, cmpD, eqOk, ordC, plain, plains, dep, deps, eqv, intC, opD, modD, fdivD, addD, mulD, small64, h0, h1, d2, bfD, intD, endD, d17, outsOf]
      · have e2 : (c == 2) = false := by simp [c2]
        have e1 : (c == 1) = false := by simp [d1]
        simp [b17, diceD, evSs, evS, evE, evEs, R.bind, R.o, R.of, Env.get, Env.put, lateOf, idxD, atI, ixN, cmpD, eqOk, ordC, plain, plains, dep, deps, eqv, intC, opD, modD, fdivD, addD, mulD, small64, h0, h1, e2, e1, bfD, intD, endD, d17, outsOf]
theorem pow18 : opD .pow (.int 10) (.int 18) = some (.int 1000000000000000000) := by rfl
theorem dice_ok (n : Nat) (m : Int) : ∃ a b c, (lev pg (n + 1)).c 0 16 [.int m] = .ok (diceD a b c) [] := by
  rw [lev_call (df := d16) rfl rfl]
  simp only [d16, b16]
  have hI : ∀ i : Int, bfD .int [.int i] = some (.int i) := fun _ => rfl
  have hB : ∀ b : Bool, bfD .int [.bl b] = some (.int (if b then 1 else 0)) := fun _ => rfl
  have hA : ∀ i : Int, bfD .abs [.int i] = some (.int (if i < 0 then -i else i)) := fun _ => rfl
  have hM : ∀ i : Int, opD .mod (.int i) (.int 1009) = some (.int (i % 1009)) := fun _ => rfl
  cases h1 : decide (-10 < m) <;> cases h2 : decide (m < 10) <;>
  · simp [startE, get_lit, Env.put, outsOf, okLen, z_nil, z_cons, z_ret, z_ite, y_var, y_con, y_cmp, y_chain, y_op, y_lst, y_bf, y_nil, y_cons, h1, h2, hI, hB, hA, hM, pow18, diceD]
theorem rd_ok (ns : List Int) : ∃ a b c e, evSs pg.tb (lev pg 16) rdB [none, some (.int 1), some (.lst ((ns.take 1).map .int)), none] = .ret (.lst [diceD a b c]) e := by
  have one : ∀ m : Int, ∃ a b c e, evSs pg.tb (lev pg 16) rdB [none, some (.int 1), some (.lst [.int m]), none] = .ret (.lst [diceD a b c]) e := fun m => by
    obtain ⟨a, b, c, h⟩ := dice_ok 15 m
    have := eq_nil (l := [m]) (by simp)
    refine ⟨a, b, c, [none, some (.int 1), some (.lst [.int m]), none], ?_⟩
    unfold rdB
    simp only [iz, List.map] at this
    simp [get_lit, Env.put, okLen, z_nil, z_cons, z_ret, z_ite, y_var, y_con, y_cmp, y_lst, y_nil, y_cons, this, evE_lc, y_seq, y_lcTurn, y_c0, y_call, lcLoop, bindT, Env.wipe, Env.back, T.slots, h]
  cases ns with
  | nil =>
    obtain ⟨a, b, c, h⟩ := dice_ok 15 0
    refine ⟨a, b, c, [none, some (.int 1), some (.lst [.int 0]), none], ?_⟩
    have : cmpB .eq (.lst []) (.lst []) = some (.bl true) := rfl
    unfold rdB
    simp [get_lit, Env.put, okLen, z_nil, z_cons, z_ret, z_ite, z_set, y_var, y_con, y_cmp, y_lst, y_nil, y_cons, this, evE_lc, y_seq, y_lcTurn, y_c0, y_call, lcLoop, bindT, Env.wipe, Env.back, T.slots, h]
  | cons m ns => exact one m
end Bh.K09
/-! text P33 -/
set_option linter.all false
set_option maxRecDepth 100000
set_option maxHeartbeats 4000000
/-! P33: the law's rest: played out. -/
namespace Bh.K09
def st3 : S := .bind [12, 13] (.call 13 (.cons (.var 2) (.cons (.con (.int 1)) (.cons (.con (.int 60)) .nil))))
def c4 : E := .or (.cmp .ne (.cons (.meth 4 (.var 12) (.nil)) (.cons (.meth 4 (.var 2) (.nil)) .nil))) (.or (.and (.cmp .lt (.cons (.bf .len (.cons (.var 13) .nil)) (.cons (.con (.int 60)) .nil))) (.no (.meth 2 (.var 12) (.nil)))) (.cmp .ne (.cons (.meth 9 (.call 12 (.cons (.var 2) (.cons (.var 13) .nil))) (.nil)) (.cons (.meth 9 (.var 12) (.nil)) .nil))))
def st4 : S := .ite c4 [.ret (.con (.bl false))] []
theorem b22_34 : b22.drop 3 = st3 :: st4 :: b22.drop 5 := rfl
def keyD (x : B) : D := .tup [.tup (iz x.ms), .tup (iz x.os), .tup [.int x.a, .int x.b], .bl x.f]
theorem plain_key (x : B) : plain (keyD x) = true := by simp [keyD, plain, plains, plains_iz]
theorem dep_key (x : B) : dep (keyD x) ≤ 100 := by simp [keyD, dep, deps, deps_iz]
theorem ne_key (x : B) : cmpB .ne (keyD x) (keyD x) = some (.bl false) := ne_self (plain_key x) (dep_key x)
theorem meth0 (cf : CF) (x : B) {m f : Nat} {o : E} {env env' : Env} {r : D} (hl : lateOf o = none) (ho : evE pg.tb cf o env = .ok (bD x) env') (hm : pg.tb.meth 8 m = some f) (hc : cf.c 0 f [bD x] = .ok r []) (hb : isBor o = false) : evE pg.tb cf (.meth m o .nil) env = .ok r env' := meth_ok cf x hl ho hm y_nil hc (by simp [hb])
theorem ev_var {tb : Tb} {cf : CF} {i : Nat} {env : Env} {d : D} (h : env.get i = some d) : evE tb cf (.var i) env = .ok d env := by rw [y_var, h, of_some]
section
variable {x y : B} {n : Nat} {t : Int} {ws : List Nat} {cf : CF} {env : Env}
theorem c4_ok (h2 : env.get 2 = some (bD x)) (h12 : env.get 12 = some (bD y)) (h13 : env.get 13 = some (.tup (nats ws))) (s1 : cf.c 0 5 [bD x] = .ok (.int t) []) (s2 : cf.c 0 5 [bD y] = .ok (.int t) []) (ov : cf.c 0 3 [bD y] = .ok (.bl (y.ms.sum == 0)) []) (hov : ws.length < 60 → y.ms.sum = 0) (hs : cf.c 0 12 [bD x, .tup (nats ws)] = .ok (bD y) []) (hk : cf.c 0 10 [bD y] = .ok (keyD y) []) : evE pg.tb cf c4 env = .ok (.bl false) env := by
  have m1 := meth0 cf y (m := 4) (o := .var 12) rfl (ev_var h12) rfl s2 rfl
  have m2 := meth0 cf x (m := 4) (o := .var 2) rfl (ev_var h2) rfl s1 rfl
  have m3 := meth0 cf y (m := 2) (o := .var 12) rfl (ev_var h12) rfl ov rfl
  have m4 := meth0 cf y (m := 9) (o := .var 12) rfl (ev_var h12) rfl hk rfl
  have m5 := meth0 cf y (m := 9) (o := .call 12 (.cons (.var 2) (.cons (.var 13) .nil))) (env := env) (env' := env) rfl (by
    simp [y_call, y_cons, y_nil, y_var, h2, h13, hs]) rfl hk rfl
  have hl : (nats ws).length = ws.length := by simp [nats]
  have nk := ne_key y
  unfold c4
  by_cases c : ws.length < 60
  · have d : decide ((ws.length : Int) < 60) = true := by simp; omega
    have z : (y.ms.sum == 0) = true := by simpa using hov c
    rw [z] at m3
    simp [y_or, y_and, y_no, y_cmp, y_bf, y_cons, y_nil, y_con, y_var, h13, hl, m1, m2, m3, m4, m5, d, nk]
  · have d : decide ((ws.length : Int) < 60) = false := by simp; omega
    simp [y_or, y_and, y_no, y_cmp, y_bf, y_cons, y_nil, y_con, y_var, h13, hl, m1, m2, m3, m4, m5, d, nk]
end
section
variable {x : B} {n : Nat} {t : Int} (a0 a1 a3 a4 : D) (o5 o6 o7 o8 o9 o10 o11 o12 o13 o14 o15 o16 o17 o18 o19 o20 o21 o22 o23 o24 o25 : Option D)
theorem play22 (h : Ok x n t) (k : Nat) : ∃ o12' o13', evSs pg.tb (lev pg (k + 6)) (b22.drop 3) [some a0, some a1, some (bD x), some a3, some a4, o5, o6, o7, o8, o9, o10, o11, o12, o13, o14, o15, o16, o17, o18, o19, o20, o21, o22, o23, o24, o25] = evSs pg.tb (lev pg (k + 6)) (b22.drop 5) [some a0, some a1, some (bD x), some a3, some a4, o5, o6, o7, o8, o9, o10, o11, o12', o13', o14, o15, o16, o17, o18, o19, o20, o21, o22, o23, o24, o25] := by
  have hp := played_ok h k
  have hlet := pl_let 60 h
  have hy := sownB_ok _ h hlet
  have hend := pl_end 60 (n := n) (x := x)
  have hsn := sown_ok h hlet (k + 2) (.tup (nats (plM n 60 x))) rfl
  generalize plM n 60 x = ws at *
  generalize sownB n x ws = y at *
  have e1 : ∀ {z : B}, Ok z n t → (lev pg (k + 6)).c 0 5 [bD z] = .ok (.int t) [] := fun {z} hz => by
    have := seeds_ok (x := z) (k + 5)
    have hs := hz.sum
    rw [this]
    congr 2; omega
  have hov := over_ok (x := y) (k + 5)
  have hk := key_ok (x := y) (k + 5)
  have s1 := e1 h
  have s2 := e1 hy
  clear e1
  refine ⟨some (bD y), some (.tup (nats ws)), ?_⟩
  generalize lev pg (k + 6) = cf at *
  have e0 : evS pg.tb cf st3 [some a0, some a1, some (bD x), some a3, some a4, o5, o6, o7, o8, o9, o10, o11, o12, o13, o14, o15, o16, o17, o18, o19, o20, o21, o22, o23, o24, o25] = .nx [some a0, some a1, some (bD x), some a3, some a4, o5, o6, o7, o8, o9, o10, o11, some (bD y), some (.tup (nats ws)), o14, o15, o16, o17, o18, o19, o20, o21, o22, o23, o24, o25] := by
    unfold st3
    simp [get_lit, Env.put, bindT, z_bind, y_call, y_cons, y_nil, y_var, y_con, hp]
  have e1 := c4_ok (x := x) (y := y) (ws := ws) (cf := cf) (env := [some a0, some a1, some (bD x), some a3, some a4, o5, o6, o7, o8, o9, o10, o11, some (bD y), some (.tup (nats ws)), o14, o15, o16, o17, o18, o19, o20, o21, o22, o23, o24, o25]) rfl rfl rfl s1 s2 hov hend hsn hk
  rw [b22_34, z_cons, e0, seq_nx, z_cons, st4, z_ite, e1, o_ok, onBO_bl, cond_false, z_nil, seq_nx]
end
end Bh.K09
/-! text P34 -/
set_option linter.all false
set_option maxRecDepth 100000
set_option maxHeartbeats 4000000
/-! P34: the law's rest: heaps thrown. -/
namespace Bh.K09
theorem roll_ev (k : Nat) {e : E} {env : Env} {j : Nat} {a b c m : Int} (h0 : 0 < m) (h1 : m < 1073741824) (hg : env.get j = some (diceD a b c)) (hl : lateOf e = none) (hb : isBor e = false) (hi : isIo e = none) (he : evE pg.tb (lev pg (k + 1)) e env = .ok (.int m) env) : ∃ r a' b' c' : Int, 0 ≤ r ∧ r < m ∧ evE pg.tb (lev pg (k + 1)) (.call 17 (.cons (.io j) (.cons e .nil))) env = .ok (.int r) (env.put j (diceD a' b' c')) := by
  obtain ⟨r, a', b', c', r0, r1, hr⟩ := roll k a b c m h0 h1
  refine ⟨r, a', b', c', r0, r1, ?_⟩
  rw [y_call, y_cons, late_io, lateK_some, hg, of_some, bind_ok, y_cons, hl, lateK_none, he, bind_ok, y_nil, bind_ok, bind_ok, hg, of_some, bind_ok, bind_ok, hr, callRes_ok]
  simp [hb, hi]
theorem plus_ev {tb : Tb} {cf : CF} {e : E} {env env' : Env} {i v : Int} (hl : lateOf e = none) (he : evE tb cf e env = .ok (.int v) env') : evE tb cf (.op .add (.cons (.con (.int i)) (.cons e .nil))) env = .ok (.int (i + v)) env' := by
  rw [y_op, y_cons, late_con, lateK_none, y_con, bind_ok, y_cons, hl, lateK_none, he, bind_ok, y_nil, bind_ok, bind_ok, bind_ok, two2_2, add_int, of_some]
def one4 : E := .op .add (.cons (.con (.int 1)) (.cons (.call 17 (.cons (.io 0) (.cons (.con (.int 4)) .nil))) .nil))
def lcH : E := .lc (.one 7) (.rng1 one4) none one4
section
variable (a0 a1 a2 a3 a4 : D) (o5 o6 o7 o8 o9 o10 o11 o12 o13 o14 o15 o16 o17 o18 o19 o20 o21 o22 o23 o24 o25 : Option D)
theorem one_ev (k : Nat) (a b c : Int) : ∃ r a' b' c' : Int, 1 ≤ r ∧ r ≤ 4 ∧ evE pg.tb (lev pg (k + 1)) one4 [some (diceD a b c), some a1, some a2, some a3, some a4, o5, o6, o7, o8, o9, o10, o11, o12, o13, o14, o15, o16, o17, o18, o19, o20, o21, o22, o23, o24, o25] = .ok (.int r) [some (diceD a' b' c'), some a1, some a2, some a3, some a4, o5, o6, o7, o8, o9, o10, o11, o12, o13, o14, o15, o16, o17, o18, o19, o20, o21, o22, o23, o24, o25] := by
  obtain ⟨r, a', b', c', r0, r1, hr⟩ := roll_ev k (e := .con (.int 4)) (env := [some (diceD a b c), some a1, some a2, some a3, some a4, o5, o6, o7, o8, o9, o10, o11, o12, o13, o14, o15, o16, o17, o18, o19, o20, o21, o22, o23, o24, o25]) (j := 0) (by decide) (by decide) rfl rfl rfl rfl y_con
  exact ⟨1 + r, a', b', c', by omega, by omega, plus_ev rfl hr⟩
theorem throw_ev (k : Nat) : ∀ (xs : List D) (o7 : Option D) (a b c : Int) (acc : List Int), acc.length + xs.length ≤ 100 → ∃ hs a' b' c' o7', hs.length = xs.length ∧ (∀ y ∈ hs, (1 : Int) ≤ y ∧ y ≤ 4) ∧ lcLoop (.one 7) (lcTurn pg.tb (lev pg (k + 1)) none one4) xs [some (diceD a b c), some a1, some a2, some a3, some a4, o5, o6, o7, o8, o9, o10, o11, o12, o13, o14, o15, o16, o17, o18, o19, o20, o21, o22, o23, o24, o25] (iz acc) = .ok (iz (acc ++ hs)) [some (diceD a' b' c'), some a1, some a2, some a3, some a4, o5, o6, o7', o8, o9, o10, o11, o12, o13, o14, o15, o16, o17, o18, o19, o20, o21, o22, o23, o24, o25]
  | [], o7, a, b, c, acc, _ => ⟨[], a, b, c, o7, rfl, by simp, by simp [lcLoop]⟩
  | x :: xs, o7, a, b, c, acc, hl => by
    simp only [List.length_cons] at hl
    obtain ⟨r, a1', b1', c1', r0, r1, hr⟩ := one_ev a1 a2 a3 a4 o5 o6 (some x) o8 o9 o10 o11 o12 o13 o14 o15 o16 o17 o18 o19 o20 o21 o22 o23 o24 o25 k a b c
    obtain ⟨hs, a', b', c', o7', l1, l2, ih⟩ := throw_ev k xs (some x) a1' b1' c1' (acc ++ [r]) (by simp; omega)
    refine ⟨r :: hs, a', b', c', o7', by simp [l1], ?_, ?_⟩
    · intro y hy
      rcases List.mem_cons.mp hy with rfl | hy
      · exact ⟨r0, r1⟩
      · exact l2 y hy
    · have e0 : bindT (.one 7) x (Env.wipe [some (diceD a b c), some a1, some a2, some a3, some a4, o5, o6, o7, o8, o9, o10, o11, o12, o13, o14, o15, o16, o17, o18, o19, o20, o21, o22, o23, o24, o25] (T.one 7).slots) = some [some (diceD a b c), some a1, some a2, some a3, some a4, o5, o6, some x, o8, o9, o10, o11, o12, o13, o14, o15, o16, o17, o18, o19, o20, o21, o22, o23, o24, o25] := rfl
      have e1 : lcTurn pg.tb (lev pg (k + 1)) none one4 [some (diceD a b c), some a1, some a2, some a3, some a4, o5, o6, some x, o8, o9, o10, o11, o12, o13, o14, o15, o16, o17, o18, o19, o20, o21, o22, o23, o24, o25] = .ok (some (.int r)) [some (diceD a1' b1' c1'), some a1, some a2, some a3, some a4, o5, o6, some x, o8, o9, o10, o11, o12, o13, o14, o15, o16, o17, o18, o19, o20, o21, o22, o23, o24, o25] := by
        rw [y_lcTurn, y_c0, bind_ok, onB_bl, cond_true, hr, bind_ok]
      rw [lcLoop, e0]
      dsimp only
      rw [e1]
      dsimp only
      rw [ints_len, if_pos (by simp [okLen]; omega), iz_snoc, ih, List.append_assoc]
      rfl
theorem lcH_ok (k : Nat) (a b c : Int) : ∃ hs a' b' c', 1 ≤ hs.length ∧ hs.length ≤ 4 ∧ (∀ y ∈ hs, (1 : Int) ≤ y ∧ y ≤ 4) ∧ evE pg.tb (lev pg (k + 1)) lcH [some (diceD a b c), some a1, some a2, some a3, some a4, o5, o6, o7, o8, o9, o10, o11, o12, o13, o14, o15, o16, o17, o18, o19, o20, o21, o22, o23, o24, o25] = .ok (.lst (iz hs)) [some (diceD a' b' c'), some a1, some a2, some a3, some a4, o5, o6, o7, o8, o9, o10, o11, o12, o13, o14, o15, o16, o17, o18, o19, o20, o21, o22, o23, o24, o25] := by
  obtain ⟨r, a1', b1', c1', r0, r1, hr⟩ := one_ev a1 a2 a3 a4 o5 o6 o7 o8 o9 o10 o11 o12 o13 o14 o15 o16 o17 o18 o19 o20 o21 o22 o23 o24 o25 k a b c
  obtain ⟨q, hq⟩ : ∃ q : Nat, r = (q : Int) := ⟨r.toNat, by omega⟩
  subst hq
  have hrng := rngN (m := q) (by omega)
  obtain ⟨hs, a', b', c', o7', l1, l2, e⟩ := throw_ev a1 a2 a3 a4 o5 o6 o8 o9 o10 o11 o12 o13 o14 o15 o16 o17 o18 o19 o20 o21 o22 o23 o24 o25 k ((List.range' 0 q).map fun (i : Nat) => D.int (i : Int)) o7 a1' b1' c1' [] (by simp; omega)
  rw [List.length_map, List.length_range'] at l1
  refine ⟨hs, a', b', c', by omega, by omega, l2, ?_⟩
  generalize (List.range' 0 q).map (fun (i : Nat) => D.int (i : Int)) = L at *
  have e' : lcLoop (.one 7) (lcTurn pg.tb (lev pg (k + 1)) none one4) L [some (diceD a1' b1' c1'), some a1, some a2, some a3, some a4, o5, o6, o7, o8, o9, o10, o11, o12, o13, o14, o15, o16, o17, o18, o19, o20, o21, o22, o23, o24, o25] [] = .ok (iz hs) [some (diceD a' b' c'), some a1, some a2, some a3, some a4, o5, o6, o7', o8, o9, o10, o11, o12, o13, o14, o15, o16, o17, o18, o19, o20, o21, o22, o23, o24, o25] := e
  rw [lcH, evE_lc, y_rng1, hr, bind_ok, hrng, of_some, bind_ok, e', bind_ok]
  rfl
def st5 : S := .par2 14 false lcH 15 false (.call 17 (.cons (.io 0) (.cons (.con (.int 7)) .nil)))
theorem st5_ok (k : Nat) (a b c : Int) : ∃ hs a' b' c', ∃ m : Nat, 1 ≤ hs.length ∧ hs.length ≤ 4 ∧ (∀ y ∈ hs, (1 : Int) ≤ y ∧ y ≤ 4) ∧ m ≤ 6 ∧ evS pg.tb (lev pg (k + 1)) st5 [some (diceD a b c), some a1, some a2, some a3, some a4, o5, o6, o7, o8, o9, o10, o11, o12, o13, o14, o15, o16, o17, o18, o19, o20, o21, o22, o23, o24, o25] = .nx [some (diceD a' b' c'), some a1, some a2, some a3, some a4, o5, o6, o7, o8, o9, o10, o11, o12, o13, some (.lst (iz hs)), some (.int (m : Nat)), o16, o17, o18, o19, o20, o21, o22, o23, o24, o25] := by
  obtain ⟨hs, a1', b1', c1', l1, l2, l3, e⟩ := lcH_ok a1 a2 a3 a4 o5 o6 o7 o8 o9 o10 o11 o12 o13 o14 o15 o16 o17 o18 o19 o20 o21 o22 o23 o24 o25 k a b c
  obtain ⟨r, a', b', c', r0, r1, hr⟩ := roll_ev k (e := .con (.int 7)) (env := [some (diceD a1' b1' c1'), some a1, some a2, some a3, some a4, o5, o6, o7, o8, o9, o10, o11, o12, o13, o14, o15, o16, o17, o18, o19, o20, o21, o22, o23, o24, o25]) (j := 0) (by decide) (by decide) rfl rfl rfl rfl y_con
  refine ⟨hs, a', b', c', r.toNat, l1, l2, l3, by omega, ?_⟩
  have hrt : ((r.toNat : Nat) : Int) = r := by omega
  rw [hrt, st5, z_par2, e, o_ok, hr, o_ok]
  simp [setO, Env.put]
end
end Bh.K09
/-! text P35 -/
set_option linter.all false
set_option maxRecDepth 100000
set_option maxHeartbeats 4000000
/-! P35: the law's rest: its own march. -/
namespace Bh.K09
theorem inc_nil : ∀ s : Nat, inc s [] = List.replicate s 1
  | 0 => rfl
  | s + 1 => by rw [inc, inc_nil s]; rfl
theorem inc_eq : ∀ (r : List Int) (s : Nat), inc s r = ((List.range r.length).map fun j => r.getD j 0 + if j < s then 1 else 0) ++ List.replicate (s - r.length) 1
  | [], s => by rw [inc_nil]; simp
  | x :: r, 0 => by
    simp only [inc, Nat.not_lt_zero, if_false, Int.add_zero, Nat.zero_sub, List.replicate_zero, List.append_nil]
    apply List.ext_getElem?
    intro j
    by_cases hj : j < (x :: r).length
    · rw [List.getElem?_map, List.getElem?_range hj]
      show (x :: r)[j]? = some ((x :: r).getD j 0)
      rw [List.getD_eq_getElem?_getD, List.getElem?_eq_getElem hj]
      rfl
    · rw [List.getElem?_eq_none (by omega), List.getElem?_eq_none (by simp at hj ⊢; omega)]
  | x :: r, s + 1 => by
    rw [inc, inc_eq r s, List.length_cons, List.range_succ_eq_map, List.map_cons, List.map_map, List.cons_append]
    have e : s + 1 - (r.length + 1) = s - r.length := by omega
    rw [e]
    congr 2
    refine List.map_congr_left fun j _ => ?_
    simp
def lD (h : List Int) : D := .lst (iz h)
def lc25 : E := .lc (.one 25) (.rng1 (.bf .len (.cons (.var 21) .nil))) none (.op .add (.cons (.idx (.cons (.var 21) (.cons (.var 25) .nil))) (.cons (.bf .int (.cons (.cmp .lt (.cons (.var 25) (.cons (.var 17) .nil))) .nil)) .nil)))
def tail25 : E := .op .mul (.cons (.lst (.cons (.con (.int 1)) .nil)) (.cons (.bf .max (.cons (.con (.int 0)) (.cons (.op .sub (.cons (.var 17) (.cons (.bf .len (.cons (.var 21) .nil)) .nil))) .nil))) .nil))
def r0 : S := .bind [17, 21] (.tup (.cons (.idx (.cons (.idx (.cons (.own 6) (.cons (.var 7) .nil))) (.cons (.con (.int 0)) .nil))) (.cons (.slice (.idx (.cons (.own 6) (.cons (.var 7) .nil))) (some (.con (.int 1))) none) .nil)))
def r1 : S := .expr (.mm .append 6 (.cons (.op .add (.cons lc25 (.cons tail25 .nil))) .nil))
def st6 : S := .thaw 6 (.lst (.cons (.var 14) .nil))
def st7 : S := .fors (.one 7) (.rng1 (.var 15)) [r0, r1]
def c8 : E := .cmp .ne (.cons (.lc (.one 22) (.seq (.call 14 (.cons (.var 14) (.cons (.var 15) .nil)))) none (.bf .list (.cons (.var 22) .nil))) (.cons (.own 6) .nil))
def st8 : S := .ite c8 [.ret (.con (.bl false))] []
theorem b22_5678 : b22.drop 5 = st5 :: st6 :: st7 :: st8 :: b22.drop 9 := rfl
theorem rows_ix (l : List (List Int)) {j : Nat} (hj : j < l.length) : idxD (.lst (l.map lD)) (.int (j : Nat)) = some (lD (l.getD j [])) := by
  show atI (l.map lD) (j : Int) = _
  unfold atI ixN
  have h1 : (j : Int) < ((l.map lD).length : Nat) := by rw [List.length_map]; omega
  rw [if_pos (by omega), if_pos h1]
  simp [hj, List.getD_eq_getElem?_getD]
theorem plains_lrows : ∀ l : List (List Int), plains (l.map lD) = true
  | [] => rfl
  | x :: l => by
    rw [List.map_cons, plains, plains_lrows l]
    simp [lD, plain, plains_iz]
theorem deps_lrows : ∀ l : List (List Int), deps (l.map lD) ≤ 1
  | [] => by simp [deps]
  | x :: l => by
    have := deps_lrows l
    rw [List.map_cons, deps]
    simp [lD, dep, deps_iz]
    omega
theorem max0 (v : Int) : bfD .max [.int 0, .int v] = some (.int (if v > 0 then v else 0)) := rfl
theorem int_bl (b : Bool) : bfD .int [.bl b] = some (.int (if b then 1 else 0)) := rfl
section
variable (a0 a1 a2 a3 a4 : D) (o5 o6 o7 o8 o9 o10 o11 o12 o13 o14 o15 o16 o17 o18 o19 o20 o21 o22 o23 o24 o25 : Option D)
theorem lc25_ok (cf : CF) (s : Nat) (r : List Int) (hr : r.length ≤ 100) : evE pg.tb cf lc25 [some a0, some a1, some a2, some a3, some a4, o5, o6, o7, o8, o9, o10, o11, o12, o13, o14, o15, o16, some (.int (s : Nat)), o18, o19, o20, some (.lst (iz r)), o22, o23, o24, o25] = .ok (.lst (iz ((List.range r.length).map fun j => r.getD j 0 + if j < s then 1 else 0))) [some a0, some a1, some a2, some a3, some a4, o5, o6, o7, o8, o9, o10, o11, o12, o13, o14, o15, o16, some (.int (s : Nat)), o18, o19, o20, some (.lst (iz r)), o22, o23, o24, o25] := by
  have e := ev_lcM (tb := pg.tb) (cf := cf) (env := [some a0, some a1, some a2, some a3, some a4, o5, o6, o7, o8, o9, o10, o11, o12, o13, o14, o15, o16, some (.int (s : Nat)), o18, o19, o20, some (.lst (iz r)), o22, o23, o24, o25]) (env0 := [some a0, some a1, some a2, some a3, some a4, o5, o6, o7, o8, o9, o10, o11, o12, o13, o14, o15, o16, some (.int (s : Nat)), o18, o19, o20, some (.lst (iz r)), o22, o23, o24, o25]) (fun (i : Nat) => D.int (i : Int)) (i := 25) (it := .rng1 (.bf .len (.cons (.var 21) .nil))) (c := none) (e := .op .add (.cons (.idx (.cons (.var 21) (.cons (.var 25) .nil))) (.cons (.bf .int (.cons (.cmp .lt (.cons (.var 25) (.cons (.var 17) .nil))) .nil)) .nil))) (xs := List.range' 0 r.length) (fun j => some (.int (r.getD j 0 + if j < s then 1 else 0))) (by
      have h := rngN (m := r.length) (by omega)
      have hE : evE pg.tb cf (.bf .len (.cons (.var 21) .nil)) [some a0, some a1, some a2, some a3, some a4, o5, o6, o7, o8, o9, o10, o11, o12, o13, o14, o15, o16, some (.int (s : Nat)), o18, o19, o20, some (.lst (iz r)), o22, o23, o24, o25] = .ok (.int (r.length : Nat)) [some a0, some a1, some a2, some a3, some a4, o5, o6, o7, o8, o9, o10, o11, o12, o13, o14, o15, o16, some (.int (s : Nat)), o18, o19, o20, some (.lst (iz r)), o22, o23, o24, o25] := by
        simp [get_lit, y_bf, y_cons, y_nil, y_var, ints_len]
      rw [y_rng1, hE, bind_ok, h, of_some]) (by simp [okLen]; omega) (fun j hj => by
      have hj2 : j < r.length := by
        obtain ⟨i, hi, rfl⟩ := List.mem_range'.mp hj; omega
      have hx := ix_at hj2
      have hd : decide ((j : Int) < (s : Int)) = decide (j < s) := by
        by_cases c : j < s
        · simp [c]
        · simp [c]
      generalize r.getD j 0 = v at hx ⊢
      simp only [List.set_cons_succ, List.set_cons_zero]
      by_cases c : j < s <;> simp [y_lcTurn, y_c0, y_op, y_idx, y_bf, y_cmp, y_cons, y_nil, y_var, get_lit, hx, int_bl, c])
  rw [lc25, e]
  have : (List.range' 0 r.length).filterMap (fun j => some (D.int (r.getD j 0 + if j < s then 1 else 0))) = iz ((List.range r.length).map fun j => r.getD j 0 + if j < s then 1 else 0) := by
    rw [List.range_eq_range', congrFun (List.filterMap_eq_map' (f := fun j => D.int (r.getD j 0 + if j < s then 1 else 0))) _]
    simp [iz]
  rw [this]
theorem tail_ok (cf : CF) (s : Nat) (r : List Int) (hs : s ≤ 100) : evE pg.tb cf tail25 [some a0, some a1, some a2, some a3, some a4, o5, o6, o7, o8, o9, o10, o11, o12, o13, o14, o15, o16, some (.int (s : Nat)), o18, o19, o20, some (.lst (iz r)), o22, o23, o24, o25] = .ok (.lst (iz (List.replicate (s - r.length) 1))) [some a0, some a1, some a2, some a3, some a4, o5, o6, o7, o8, o9, o10, o11, o12, o13, o14, o15, o16, some (.int (s : Nat)), o18, o19, o20, some (.lst (iz r)), o22, o23, o24, o25] := by
  have hm := mul_rep 1 (s - r.length) (by omega)
  have e : (if ((s : Nat) : Int) - ((r.length : Nat) : Int) > 0 then ((s : Nat) : Int) - ((r.length : Nat) : Int) else 0) = ((s - r.length : Nat) : Int) := by
    split <;> omega
  refine ev_op2 rfl rfl (x := .lst [.int 1]) (y := .int ((s - r.length : Nat) : Int)) (by simp [startE, get_lit, Env.put, outsOf, okLen, setO, isNew, kindOf, z_nil, z_cons, z_set, z_thaw, z_bind, z_par2, z_expr, z_ret, z_retO, z_raise, z_ite, z_fors, z_whil, z_brk, z_cont, z_pass, z_setFld, z_augIx, z_setIx, z_bindX, tg_nil, tg_nm, tg_ix, y_var, y_con, y_glob, y_op, y_cmp, y_idx, y_chain, y_no, y_neg, y_and, y_or, y_ite, y_tup, y_lst, y_bf, y_mm, y_lm, y_call, y_meth, y_make, y_fld, y_nil, y_cons, y_seq, y_c0, y_c1, y_slice, y_p0, y_p1, y_enum, y_rng1, y_rng2, y_lcTurn]) ?_ hm
  rw [← e]
  simp [get_lit, y_bf, y_op, y_cons, y_nil, y_var, y_con, ints_len, max0]
theorem turn7r (cf : CF) (h : List Int) (H : Hp h) (j : Nat) (hj : j ≤ 50) : ∃ o17' o21', evSs pg.tb cf [r0, r1] [some a0, some a1, some a2, some a3, some a4, o5, some (.lst ((rowsM h j).map lD)), some (.int (j : Nat)), o8, o9, o10, o11, o12, o13, o14, o15, o16, o17, o18, o19, o20, o21, o22, o23, o24, o25] = .nx [some a0, some a1, some a2, some a3, some a4, o5, some (.lst ((rowsM h (j + 1)).map lD)), some (.int (j : Nat)), o8, o9, o10, o11, o12, o13, o14, o15, o16, o17', o18, o19, o20, o21', o22, o23, o24, o25] := by
  have hx := rows_ix (rowsM h j) (j := j) (by rw [rows_len]; omega)
  rw [rows_at h (by omega)] at hx
  have e1 : rowsM h j ++ [mstep (mrow h j)] = rowsM h (j + 1) := by
    unfold rowsM
    rw [List.range_succ (n := j + 1), List.map_append]
    rfl
  rw [← e1]
  have Hr := mrow_ok H j
  have rl := rows_len h j
  generalize rowsM h j = rs at *
  have hl := hp_len Hr
  have hsum := Hr.sum
  have hpos := Hr.pos
  generalize mrow h j = cur at *
  cases cur with
  | nil => exact (Hr.ne rfl).elim
  | cons s r =>
    have hs := hpos s (by simp)
    have hrs := len_sum (l := r) fun y hy => hpos y (by simp [hy])
    rw [List.sum_cons] at hsum
    simp only [List.length_cons] at hl
    obtain ⟨q, hq⟩ : ∃ q : Nat, s = (q : Int) := ⟨s.toNat, by omega⟩
    subst hq
    refine ⟨some (.int (q : Nat)), some (.lst (iz r)), ?_⟩
    have hc := cut_one (q : Int) r
    have hix : idxD (lD ((q : Int) :: r)) (.int 0) = some (.int (q : Nat)) := ix_at (r := (q : Int) :: r) (i := 0) (by simp)
    have hsl : sliceD (lD ((q : Int) :: r)) (some 1) none = some (.lst (iz r)) := hc
    have hstep : mstep ((q : Int) :: r) = inc q r := by show inc (q : Int).toNat r = _; rw [Int.toNat_natCast]
    rw [hstep, inc_eq]
    have e0 : evS pg.tb cf r0 [some a0, some a1, some a2, some a3, some a4, o5, some (.lst (rs.map lD)), some (.int (j : Nat)), o8, o9, o10, o11, o12, o13, o14, o15, o16, o17, o18, o19, o20, o21, o22, o23, o24, o25] = .nx [some a0, some a1, some a2, some a3, some a4, o5, some (.lst (rs.map lD)), some (.int (j : Nat)), o8, o9, o10, o11, o12, o13, o14, o15, o16, some (.int (q : Nat)), o18, o19, o20, some (.lst (iz r)), o22, o23, o24, o25] := by
      unfold r0
      generalize (q : Int) :: r = cur at *
      simp [get_lit, Env.put, okLen, bindT, z_bind, y_tup, y_idx, y_slice, y_p0, y_p1, y_cons, y_nil, y_var, y_con, hx, hix, hsl]
    have f1 := lc25_ok a0 a1 a2 a3 a4 o5 (some (.lst (rs.map lD))) (some (.int (j : Nat))) o8 o9 o10 o11 o12 o13 o14 o15 o16 o18 o19 o20 o22 o23 o24 o25 cf q r (by omega)
    have f2 := tail_ok a0 a1 a2 a3 a4 o5 (some (.lst (rs.map lD))) (some (.int (j : Nat))) o8 o9 o10 o11 o12 o13 o14 o15 o16 o18 o19 o20 o22 o23 o24 o25 cf q r (by omega)
    have ln : ((List.range r.length).map fun j => r.getD j 0 + if j < q then 1 else 0).length = r.length := by simp
    have ln2 : (List.replicate (q - r.length) (1 : Int)).length = q - r.length := by simp
    generalize (List.range r.length).map (fun j => r.getD j 0 + if j < q then 1 else 0) = A at *
    generalize List.replicate (q - r.length) (1 : Int) = Bq at *
    have hadd : opD .add (.lst (iz A)) (.lst (iz Bq)) = some (lD (A ++ Bq)) := by
      rw [add_lst, if_pos (by simp [okLen, ints_len]; omega), ints_app]
      rfl
    have f3 := ev_op2 (tb := pg.tb) (cf := cf) (o := .add) rfl rfl f1 f2 hadd
    rw [z_cons, e0, seq_nx, z_cons, r1, z_expr, y_mm]
    have hg : Env.get [some a0, some a1, some a2, some a3, some a4, o5, some (.lst (rs.map lD)), some (.int (j : Nat)), o8, o9, o10, o11, o12, o13, o14, o15, o16, some (.int (q : Nat)), o18, o19, o20, some (.lst (iz r)), o22, o23, o24, o25] 6 = some (.lst (rs.map lD)) := rfl
    rw [hg, isL_lst, y_cons, late_op, lateK_none, f3, bind_ok, y_nil, bind_ok, bind_ok, hg, mmK_some, append_lst, if_pos (by simp [okLen]; omega)]
    simp [z_nil, Env.put]
theorem loop7r (cf : CF) (h : List Int) (H : Hp h) : ∀ (m j : Nat) (o7 o17 o21 : Option D), j + m ≤ 50 → ∃ o7' o17' o21', forL (.one 7) (evSs pg.tb cf [r0, r1]) ((List.range' j m).map fun (i : Nat) => D.int (i : Int)) [some a0, some a1, some a2, some a3, some a4, o5, some (.lst ((rowsM h j).map lD)), o7, o8, o9, o10, o11, o12, o13, o14, o15, o16, o17, o18, o19, o20, o21, o22, o23, o24, o25] = .nx [some a0, some a1, some a2, some a3, some a4, o5, some (.lst ((rowsM h (j + m)).map lD)), o7', o8, o9, o10, o11, o12, o13, o14, o15, o16, o17', o18, o19, o20, o21', o22, o23, o24, o25]
  | 0, j, o7, o17, o21, _ => ⟨o7, o17, o21, rfl⟩
  | m + 1, j, o7, o17, o21, hl => by
    obtain ⟨p17, p21, t⟩ := turn7r a0 a1 a2 a3 a4 o5 o8 o9 o10 o11 o12 o13 o14 o15 o16 o17 o18 o19 o20 o21 o22 o23 o24 o25 cf h H j (by omega)
    obtain ⟨q7, q17, q21, ih⟩ := loop7r cf h H m (j + 1) (some (.int (j : Nat))) p17 p21 (by omega)
    refine ⟨q7, q17, q21, ?_⟩
    have e0 : bindT (.one 7) (.int (j : Nat)) [some a0, some a1, some a2, some a3, some a4, o5, some (.lst ((rowsM h j).map lD)), o7, o8, o9, o10, o11, o12, o13, o14, o15, o16, o17, o18, o19, o20, o21, o22, o23, o24, o25] = some [some a0, some a1, some a2, some a3, some a4, o5, some (.lst ((rowsM h j).map lD)), some (.int (j : Nat)), o8, o9, o10, o11, o12, o13, o14, o15, o16, o17, o18, o19, o20, o21, o22, o23, o24, o25] := rfl
    have e2 : j + (m + 1) = j + 1 + m := by omega
    rw [List.range'_succ, List.map_cons, forL_go e0 t, e2]
    exact ih
theorem c8_ok (k : Nat) (h : List Int) (H : Hp h) (m : Nat) (hm : m ≤ 50) : evE pg.tb (lev pg (k + 1)) c8 [some a0, some a1, some a2, some a3, some a4, o5, some (.lst ((rowsM h m).map lD)), o7, o8, o9, o10, o11, o12, o13, some (.lst (iz h)), some (.int (m : Nat)), o16, o17, o18, o19, o20, o21, o22, o23, o24, o25] = .ok (.bl false) [some a0, some a1, some a2, some a3, some a4, o5, some (.lst ((rowsM h m).map lD)), o7, o8, o9, o10, o11, o12, o13, some (.lst (iz h)), some (.int (m : Nat)), o16, o17, o18, o19, o20, o21, o22, o23, o24, o25] := by
  have hmr := marching_ok H k m (by omega)
  have rl := rows_len h m
  generalize rowsM h m = rs at *
  generalize lev pg (k + 1) = cf at *
  have hc : evI pg.tb cf (.seq (.call 14 (.cons (.var 14) (.cons (.var 15) .nil)))) [some a0, some a1, some a2, some a3, some a4, o5, some (.lst (rs.map lD)), o7, o8, o9, o10, o11, o12, o13, some (.lst (iz h)), some (.int (m : Nat)), o16, o17, o18, o19, o20, o21, o22, o23, o24, o25] = .ok (rs.map rD) [some a0, some a1, some a2, some a3, some a4, o5, some (.lst (rs.map lD)), o7, o8, o9, o10, o11, o12, o13, some (.lst (iz h)), some (.int (m : Nat)), o16, o17, o18, o19, o20, o21, o22, o23, o24, o25] := by
    simp [get_lit, y_seq, y_call, y_cons, y_nil, y_var, hmr]
  have e := ev_lcM (tb := pg.tb) (cf := cf) (env := [some a0, some a1, some a2, some a3, some a4, o5, some (.lst (rs.map lD)), o7, o8, o9, o10, o11, o12, o13, some (.lst (iz h)), some (.int (m : Nat)), o16, o17, o18, o19, o20, o21, o22, o23, o24, o25]) (env0 := [some a0, some a1, some a2, some a3, some a4, o5, some (.lst (rs.map lD)), o7, o8, o9, o10, o11, o12, o13, some (.lst (iz h)), some (.int (m : Nat)), o16, o17, o18, o19, o20, o21, o22, o23, o24, o25]) rD (i := 22) (it := .seq (.call 14 (.cons (.var 14) (.cons (.var 15) .nil)))) (c := none) (e := .bf .list (.cons (.var 22) .nil)) (xs := rs) (fun r => some (lD r)) hc (by simp [okLen]; omega) (fun r hr => by
    have hb : bfD .list [rD r] = some (lD r) := rfl
    simp only [List.set_cons_succ, List.set_cons_zero]
    simp [y_lcTurn, y_c0, y_bf, y_cons, y_nil, y_var, get_lit, hb])
  have ef : rs.filterMap (fun r => some (lD r)) = rs.map lD := congrFun (List.filterMap_eq_map' (f := lD)) rs
  rw [ef] at e
  have hd := deps_lrows rs
  have hne := ne_self (d := .lst (rs.map lD)) (by simp [plain, plains_lrows]) (by simp only [dep]; omega)
  have hg : Env.get [some a0, some a1, some a2, some a3, some a4, o5, some (.lst (rs.map lD)), o7, o8, o9, o10, o11, o12, o13, some (.lst (iz h)), some (.int (m : Nat)), o16, o17, o18, o19, o20, o21, o22, o23, o24, o25] 6 = some (.lst (rs.map lD)) := rfl
  rw [c8, y_cmp, y_cons, late_lc, lateK_none, e, bind_ok, y_cons, late_own, lateK_some, hg, of_some, bind_ok, y_nil, bind_ok, hg, of_some, bind_ok, bind_ok, bind_ok, two2_2, hne, of_some]
end
end Bh.K09
/-! text P36 -/
set_option linter.all false
set_option maxRecDepth 100000
set_option maxHeartbeats 4000000
/-! P36: the law's rest: marching, coming round. -/
namespace Bh.K09
def st9 : S := .bind [16, 17] (.call 15 (.cons (.var 14) (.cons (.con (.int 300)) .nil)))
def st10 : S := .set 8 (.call 14 (.cons (.var 14) (.cons (.op .add (.cons (.var 16) (.cons (.var 17) .nil))) .nil)))
def lc22d : E := .lc (.one 22) (.seq (.slice (.var 8) none (some (.op .add (.cons (.var 16) (.cons (.var 17) .nil)))))) none (.tup (.cons (.var 22) (.cons (.con (.int 1)) .nil)))
def c11 : E := .or (.cmp .ne (.cons (.idx (.cons (.var 8) (.cons (.var 16) .nil))) (.cons (.idx (.cons (.var 8) (.cons (.op .add (.cons (.var 16) (.cons (.var 17) .nil))) .nil))) .nil))) (.cmp .ne (.cons (.bf .len (.cons (.bf .dict (.cons lc22d .nil)) .nil)) (.cons (.op .add (.cons (.var 16) (.cons (.var 17) .nil))) .nil)))
def st11 : S := .ite c11 [.ret (.con (.bl false))] []
theorem b22_91011 : b22.drop 9 = st9 :: st10 :: st11 :: b22.drop 12 := rfl
def kvD (r : List Int) : D := .tup [rD r, .int 1]
def kvP (r : List Int) : D × D := (rD r, .int 1)
theorem dput_new : ∀ (A : List (List Int)) (r : List Int), r ∉ A → dput (rD r) (.int 1) (A.map kvP) = (A ++ [r]).map kvP
  | [], r, _ => rfl
  | a :: A, r, h => by
    have h1 : a ≠ r := fun z => h (by simp [z])
    have h2 : r ∉ A := fun z => h (by simp [z])
    have e : eqv (rD a) (rD r) = false := by rw [eqv_row]; simp [h1]
    rw [List.map_cons]
    show dput (rD r) (.int 1) ((rD a, .int 1) :: A.map kvP) = _
    rw [dput, e, dput_new A r h2]
    rfl
theorem keyOks_iz : ∀ l : List Int, keyOks (iz l) = true
  | [] => by simp [iz, keyOks]
  | x :: l => by show keyOks (.int x :: iz l) = true; rw [keyOks, keyOks_iz l]; simp [keyOk]
theorem keyT_row (r : List Int) : keyT (rD r) = true := by
  unfold keyT
  simp [rD, isTup, keyOk, keyOks_iz, dep, deps_iz]
theorem dmk_rows : ∀ (L A : List (List Int)), (A ++ L).Nodup → dmkT (L.map kvD) (A.map kvP) = some ((A ++ L).map kvP)
  | [], A, _ => by simp [dmkT]
  | r :: L, A, h => by
    have h1 : r ∉ A := fun z => by
      have := List.nodup_append.mp h
      exact this.2.2 r z r (by simp) rfl
    have h2 : ((A ++ [r]) ++ L).Nodup := by simpa using h
    rw [List.map_cons, kvD, dmkT, keyT_row, if_pos rfl, dput_new A r h1, dmk_rows L (A ++ [r]) h2]
    simp
theorem dict_rows (L : List (List Int)) (h : L.Nodup) : bfD .dict [.lst (L.map kvD)] = some (.dct (L.map kvP)) := by
  have e := dmk_rows L [] (by simpa using h)
  show (dmkT (L.map kvD) []).map D.dct = _
  rw [List.map_nil, List.nil_append] at e
  rw [e]
  rfl
theorem trow_ix (l : List (List Int)) {j : Nat} (hj : j < l.length) : idxD (.tup (l.map rD)) (.int (j : Nat)) = some (rD (l.getD j [])) := by
  show atI (l.map rD) (j : Int) = _
  unfold atI ixN
  have h1 : (j : Int) < ((l.map rD).length : Nat) := by rw [List.length_map]; omega
  rw [if_pos (by omega), if_pos h1]
  simp [hj, List.getD_eq_getElem?_getD]
theorem ne_row (r : List Int) : cmpB .ne (rD r) (rD r) = some (.bl false) := ne_self (by simp [rD, plain, plains_iz]) (by rw [dep_row]; omega)
theorem nodup_rows {h : List Int} {k : Nat} (hd : ∀ i j, i < j → j < k → mrow h i ≠ mrow h j) : ((List.range k).map (mrow h)).Nodup := by
  rw [List.Nodup, List.pairwise_iff_getElem]
  intro i j hi hj hij
  simp at hi hj ⊢
  exact hd i j hij hj
section
variable (a0 a1 a2 a3 a4 : D) (o5 o6 o7 o8 o9 o10 o11 o12 o13 o14 o15 o16 o17 o18 o19 o20 o21 o22 o23 o24 o25 : Option D)
theorem march22 (k : Nat) (a b c : Int) : ∃ hs a' b' c' o6' o7' o15' o17' o21', 1 ≤ hs.length ∧ hs.length ≤ 4 ∧ (∀ y ∈ hs, (1 : Int) ≤ y ∧ y ≤ 4) ∧ evSs pg.tb (lev pg (k + 1)) (b22.drop 5) [some (diceD a b c), some a1, some a2, some a3, some a4, o5, o6, o7, o8, o9, o10, o11, o12, o13, o14, o15, o16, o17, o18, o19, o20, o21, o22, o23, o24, o25] = evSs pg.tb (lev pg (k + 1)) (b22.drop 9) [some (diceD a' b' c'), some a1, some a2, some a3, some a4, o5, o6', o7', o8, o9, o10, o11, o12, o13, some (.lst (iz hs)), o15', o16, o17', o18, o19, o20, o21', o22, o23, o24, o25] := by
  obtain ⟨hs, a', b', c', m, l1, l2, l3, hm, e⟩ := st5_ok a1 a2 a3 a4 o5 o6 o7 o8 o9 o10 o11 o12 o13 o14 o15 o16 o17 o18 o19 o20 o21 o22 o23 o24 o25 k a b c
  have H := hp_of l1 l2 l3
  obtain ⟨q7, q17, q21, hl⟩ := loop7r (diceD a' b' c') a1 a2 a3 a4 o5 o8 o9 o10 o11 o12 o13 (some (.lst (iz hs))) (some (.int (m : Nat))) o16 o18 o19 o20 o22 o23 o24 o25 (lev pg (k + 1)) hs H m 0 o7 o17 o21 (by omega)
  rw [Nat.zero_add] at hl
  have hrng := rngN (m := m) (by omega)
  have h8 := c8_ok (diceD a' b' c') a1 a2 a3 a4 o5 q7 o8 o9 o10 o11 o12 o13 o16 q17 o18 o19 o20 q21 o22 o23 o24 o25 k hs H m (by omega)
  generalize (List.range' 0 m).map (fun (i : Nat) => D.int (i : Int)) = L at *
  refine ⟨hs, a', b', c', some (.lst ((rowsM hs m).map lD)), q7, some (.int (m : Nat)), q17, q21, l1, l2, l3, ?_⟩
  rw [show rowsM hs 0 = [hs] from rfl] at hl
  generalize lev pg (k + 1) = cf at *
  have e6 : evS pg.tb cf st6 [some (diceD a' b' c'), some a1, some a2, some a3, some a4, o5, o6, o7, o8, o9, o10, o11, o12, o13, some (.lst (iz hs)), some (.int (m : Nat)), o16, o17, o18, o19, o20, o21, o22, o23, o24, o25] = .nx [some (diceD a' b' c'), some a1, some a2, some a3, some a4, o5, some (.lst ([hs].map lD)), o7, o8, o9, o10, o11, o12, o13, some (.lst (iz hs)), some (.int (m : Nat)), o16, o17, o18, o19, o20, o21, o22, o23, o24, o25] := by
    unfold st6
    simp [get_lit, Env.put, okLen, setO, isNew, kindOf, z_thaw, y_lst, y_cons, y_nil, y_var, lD]
  have e7 : evI pg.tb cf (.rng1 (.var 15)) [some (diceD a' b' c'), some a1, some a2, some a3, some a4, o5, some (.lst ([hs].map lD)), o7, o8, o9, o10, o11, o12, o13, some (.lst (iz hs)), some (.int (m : Nat)), o16, o17, o18, o19, o20, o21, o22, o23, o24, o25] = .ok L [some (diceD a' b' c'), some a1, some a2, some a3, some a4, o5, some (.lst ([hs].map lD)), o7, o8, o9, o10, o11, o12, o13, some (.lst (iz hs)), some (.int (m : Nat)), o16, o17, o18, o19, o20, o21, o22, o23, o24, o25] := by
    rw [y_rng1, ev_var (d := .int (m : Nat)) rfl, bind_ok, hrng, of_some]
  rw [b22_5678, z_cons, e, seq_nx, z_cons, e6, seq_nx, z_cons, st7, z_fors, e7, o_ok]
  refine Eq.trans (congrArg (fun o => O.seq o _) hl) ?_
  rw [seq_nx, z_cons, st8, z_ite, h8, o_ok, onBO_bl, cond_false, z_nil, seq_nx]
theorem c11_ok (cf : CF) (h : List Int) (k f : Nat) (hf : f < k) (hk : k ≤ 100) (he : mrow h f = mrow h k) (hd : ∀ i j, i < j → j < k → mrow h i ≠ mrow h j) : evE pg.tb cf c11 [some a0, some a1, some a2, some a3, some a4, o5, o6, o7, some (.tup ((rowsM h k).map rD)), o9, o10, o11, o12, o13, o14, o15, some (.int (f : Nat)), some (.int ((k : Int) - (f : Int))), o18, o19, o20, o21, o22, o23, o24, o25] = .ok (.bl false) [some a0, some a1, some a2, some a3, some a4, o5, o6, o7, some (.tup ((rowsM h k).map rD)), o9, o10, o11, o12, o13, o14, o15, some (.int (f : Nat)), some (.int ((k : Int) - (f : Int))), o18, o19, o20, o21, o22, o23, o24, o25] := by
  have hs : (f : Int) + ((k : Int) - (f : Int)) = (k : Nat) := by omega
  have x1 := trow_ix (rowsM h k) (j := f) (by rw [rows_len]; omega)
  have x2 := trow_ix (rowsM h k) (j := k) (by rw [rows_len]; omega)
  rw [rows_at h (by omega)] at x1
  rw [rows_at h (by omega), ← he] at x2
  have hc := cut_rows (rowsM h k) (j := k) (by rw [rows_len]; omega)
  rw [rows_take h (Nat.le_refl k)] at hc
  have hdc := dict_rows _ (nodup_rows hd)
  have hl : ((List.range k).map (mrow h)).length = k := by simp
  have hne := ne_row (mrow h f)
  generalize (List.range k).map (mrow h) = tk at *
  generalize rowsM h k = rs at *
  generalize mrow h f = rf at *
  have hadd : evE pg.tb cf (.op .add (.cons (.var 16) (.cons (.var 17) .nil))) [some a0, some a1, some a2, some a3, some a4, o5, o6, o7, some (.tup (rs.map rD)), o9, o10, o11, o12, o13, o14, o15, some (.int (f : Nat)), some (.int ((k : Int) - (f : Int))), o18, o19, o20, o21, o22, o23, o24, o25] = .ok (.int (k : Nat)) [some a0, some a1, some a2, some a3, some a4, o5, o6, o7, some (.tup (rs.map rD)), o9, o10, o11, o12, o13, o14, o15, some (.int (f : Nat)), some (.int ((k : Int) - (f : Int))), o18, o19, o20, o21, o22, o23, o24, o25] := by
    refine ev_op2 rfl rfl (ev_var rfl) (ev_var rfl) ?_
    rw [add_int, hs]
  have hsl : evI pg.tb cf (.seq (.slice (.var 8) none (some (.op .add (.cons (.var 16) (.cons (.var 17) .nil)))))) [some a0, some a1, some a2, some a3, some a4, o5, o6, o7, some (.tup (rs.map rD)), o9, o10, o11, o12, o13, o14, o15, some (.int (f : Nat)), some (.int ((k : Int) - (f : Int))), o18, o19, o20, o21, o22, o23, o24, o25] = .ok (tk.map rD) [some a0, some a1, some a2, some a3, some a4, o5, o6, o7, some (.tup (rs.map rD)), o9, o10, o11, o12, o13, o14, o15, some (.int (f : Nat)), some (.int ((k : Int) - (f : Int))), o18, o19, o20, o21, o22, o23, o24, o25] := by
    rw [y_seq, y_slice, late_var, lateK_none, ev_var (d := .tup (rs.map rD)) rfl, bind_ok, y_p0, bind_ok, y_p1, hadd, bind_ok, intO_int, of_some, bind_ok, hc, of_some, bind_ok, items_tup, of_some]
  have e := ev_lcM (tb := pg.tb) (cf := cf) (env := [some a0, some a1, some a2, some a3, some a4, o5, o6, o7, some (.tup (rs.map rD)), o9, o10, o11, o12, o13, o14, o15, some (.int (f : Nat)), some (.int ((k : Int) - (f : Int))), o18, o19, o20, o21, o22, o23, o24, o25]) (env0 := [some a0, some a1, some a2, some a3, some a4, o5, o6, o7, some (.tup (rs.map rD)), o9, o10, o11, o12, o13, o14, o15, some (.int (f : Nat)), some (.int ((k : Int) - (f : Int))), o18, o19, o20, o21, o22, o23, o24, o25]) rD (i := 22) (it := .seq (.slice (.var 8) none (some (.op .add (.cons (.var 16) (.cons (.var 17) .nil)))))) (c := none) (e := .tup (.cons (.var 22) (.cons (.con (.int 1)) .nil))) (xs := tk) (fun r => some (kvD r)) hsl (by simp [okLen]; omega) (fun r hr => by
    simp only [List.set_cons_succ, List.set_cons_zero]
    simp [y_lcTurn, y_c0, y_tup, y_cons, y_nil, y_var, y_con, get_lit, okLen, kvD])
  have ef : tk.filterMap (fun r => some (kvD r)) = tk.map kvD := congrFun (List.filterMap_eq_map' (f := kvD)) tk
  rw [ef] at e
  have hlen : bfD .len [.dct (tk.map kvP)] = some (.int (k : Nat)) := by
    show some (D.int (((tk.map kvP).length : Nat) : Int)) = _
    rw [List.length_map, hl]
  have hdk : bfD .dict [.lst (tk.map kvD)] = some (.dct (tk.map kvP)) := hdc
  rw [c11, y_or, y_cmp, y_cons, late_idx, lateK_none, y_idx, y_cons, late_var, lateK_none, ev_var (d := .tup (rs.map rD)) rfl, bind_ok, y_cons, late_var, lateK_none, ev_var (d := .int (f : Nat)) rfl, bind_ok, y_nil, bind_ok, bind_ok, bind_ok, two2_2, x1, of_some, bind_ok, y_cons, late_idx, lateK_none, y_idx, y_cons, late_var, lateK_none, ev_var (d := .tup (rs.map rD)) rfl, bind_ok, y_cons, late_op, lateK_none, hadd, bind_ok, y_nil, bind_ok, bind_ok, bind_ok, two2_2, x2, of_some, bind_ok, y_nil, bind_ok, bind_ok, bind_ok, two2_2, hne, of_some, bind_ok, onB_bl, cond_false]
  have el : evE pg.tb cf lc22d [some a0, some a1, some a2, some a3, some a4, o5, o6, o7, some (.tup (rs.map rD)), o9, o10, o11, o12, o13, o14, o15, some (.int (f : Nat)), some (.int ((k : Int) - (f : Int))), o18, o19, o20, o21, o22, o23, o24, o25] = .ok (.lst (tk.map kvD)) [some a0, some a1, some a2, some a3, some a4, o5, o6, o7, some (.tup (rs.map rD)), o9, o10, o11, o12, o13, o14, o15, some (.int (f : Nat)), some (.int ((k : Int) - (f : Int))), o18, o19, o20, o21, o22, o23, o24, o25] := e
  have hL : lateOf lc22d = none := rfl
  simp only [y_cmp, y_cons, y_nil, late_bf, late_op, hL, lateK_none, y_bf, el, bind_ok, hdk, of_some, hlen, hadd, two2_2, cmpB_some ne_int]
  simp
end
end Bh.K09
/-! text P37 -/
set_option linter.all false
set_option maxRecDepth 100000
set_option maxHeartbeats 4000000
/-! P37: the law's rest, to its end. -/
namespace Bh.K09
theorem told_exc (k : Nat) {e : E} {env env' : Env} {c : Nat} {d : D} (h : evE pg.tb (lev pg k) e env = .exc c env') (ht : pg.tb.told c = some d) : evE pg.tb (lev pg (k + 2)) (.told e) env = .ok d env' := by
  rw [y_told, lev_lv, lev_low, if_pos (by omega), h]
  simp only [ht]
theorem told_no (k : Nat) {e : E} {env env' : Env} {d : D} (h : evE pg.tb (lev pg k) e env = .ok d env') : evE pg.tb (lev pg (k + 2)) (.told e) env = .ok d env' := by
  rw [y_told, lev_lv, lev_low, if_pos (by omega), h]
theorem ne_ev {tb : Tb} {cf : CF} {a : E} {env : Env} {s : List Nat} (hl : lateOf a = none) (h : evE tb cf a env = .ok (.str s) env) : evE tb cf (.cmp .ne (.cons a (.cons (.con (.str s)) .nil))) env = .ok (.bl false) env := by
  have e : (s != s) = false := by simp
  rw [y_cmp, y_cons, hl, lateK_none, h, bind_ok, y_cons, late_con, lateK_none, y_con, bind_ok, y_nil, bind_ok, bind_ok, bind_ok, two2_2, cmpB_some ne_str, of_some, e]
theorem ite_no {tb : Tb} {cf : CF} {c : E} {b : List S} {env : Env} (h : evE tb cf c env = .ok (.bl false) env) : evS tb cf (.ite c b []) env = .nx env := by
  rw [z_ite, h, o_ok, onBO_bl, cond_false, z_nil]
theorem t2 : pg.tb.told 2 = some (.str [109, 111, 118, 101]) := rfl
theorem t3 : pg.tb.told 3 = some (.str [99, 111, 117, 110, 116]) := rfl
theorem t4 : pg.tb.told 4 = some (.str [114, 111, 119]) := rfl
theorem cases_ok (k : Nat) : (lev pg (k + 5)).c 0 21 [] = .ok (.bl true) [] := by
  rw [lev_call (df := d21) rfl rfl]
  show endD d21 (evSs pg.tb (lev pg (k + 2 + 2)) b21 []) = _
  have a1 : evE pg.tb (lev pg (k + 2)) (.make 8 (.cons (.lst (.nil)) (.cons (.lst (.nil)) (.cons (.tup (.cons (.con (.int 0)) (.cons (.con (.int 0)) .nil))) (.cons (.con (.bl true)) .nil))))) [] = .exc 4 [] := by
    have hi : pg.tb.init 8 = some 0 := rfl
    have h := make_no1 k
    generalize lev pg (k + 2) = cf at *
    simp [y_make, y_cons, y_nil, y_lst, y_tup, y_con, okLen, hi, h]
  have a2 : evE pg.tb (lev pg (k + 2)) (.make 8 (.cons (.lst (.cons (.op .sub (.cons (.con (.int 0)) (.cons (.con (.int 1)) .nil))) .nil)) (.cons (.lst (.cons (.con (.int 1)) .nil)) (.cons (.tup (.cons (.con (.int 0)) (.cons (.con (.int 0)) .nil))) (.cons (.con (.bl true)) .nil))))) [] = .exc 4 [] := by
    have hi : pg.tb.init 8 = some 0 := rfl
    have h := make_no2 k
    generalize lev pg (k + 2) = cf at *
    simp [y_make, y_cons, y_nil, y_lst, y_tup, y_con, y_op, okLen, hi, h]
  have a3 : evE pg.tb (lev pg (k + 2)) (.call 11 (.cons (.con (.int 0)) (.cons (.con (.int 1)) .nil))) [] = .exc 3 [] := by
    have h := new_no (k + 1)
    generalize lev pg (k + 2) = cf at *
    simp [y_call, y_cons, y_nil, y_con, h]
  have b1 := ite_no (b := [.ret (.con (.bl false))]) (ne_ev late_told (told_exc (k + 2) a1 t4))
  have b2 := ite_no (b := [.ret (.con (.bl false))]) (ne_ev late_told (told_exc (k + 2) a2 t4))
  have b3 := ite_no (b := [.ret (.con (.bl false))]) (ne_ev late_told (told_exc (k + 2) a3 t3))
  rw [b21, z_cons, b1, seq_nx, z_cons, b2, seq_nx, z_cons, b3, seq_nx, z_cons, z_ret, y_con]
  rfl
theorem ne_nats (l : List Nat) : cmpB .ne (.lst (nats l)) (.lst []) = some (.bl (!l.isEmpty)) := by
  refine cmpB_some ?_
  show (if eqOk (.lst (nats l)) (.lst []) then some (!eqv (.lst (nats l)) (.lst [])) else (empC (.lst (nats l)) (.lst [])).map (!·)) = _
  cases l with
  | nil => rfl
  | cons x l =>
    have e1 : eqv (.lst (nats (x :: l))) (.lst []) = false := by rw [eqv]; rfl
    have e2 : empC (.lst (nats (x :: l))) (.lst []) = some false := rfl
    rw [e1, e2]
    split <;> rfl
theorem sum_ne {l : List Int} (hp : ∀ y ∈ l, 0 ≤ y) (h : mv 0 l ≠ []) : l.sum ≠ 0 := by
  intro z
  cases hm : mv 0 l with
  | nil => exact h hm
  | cons i r =>
    have hi : i ∈ mv 0 l := by rw [hm]; simp
    have := ((mem_mv l 0 i).mp hi).2.2
    have := sum_ge hp (i - 0)
    omega
def st12 : S := .ite (.no (.call 21 (.nil))) [.ret (.con (.bl false))] []
def e13 : E := .meth 1 (.var 2) (.cons (.con (.int 9)) .nil)
def e14 : E := .call 15 (.cons (.lst (.cons (.con (.int 1)) (.cons (.con (.int 2)) (.cons (.con (.int 3)) .nil)))) (.cons (.con (.int 0)) .nil))
def e15 : E := .meth 6 (.var 2) (.cons (.con (.int 0)) .nil)
def c13 : E := .cmp .ne (.cons (.told e13) (.cons (.con (.str [109, 111, 118, 101])) .nil))
def c14 : E := .cmp .ne (.cons (.told e14) (.cons (.con (.str [99, 111, 117, 110, 116])) .nil))
def c15 : E := .cmp .ne (.cons (.told e15) (.cons (.con (.str [99, 111, 117, 110, 116])) .nil))
def c16 : E := .and (.cmp .ne (.cons (.var 4) (.cons (.lst (.nil)) .nil))) c15
theorem b22_end : b22.drop 12 = st12 :: .ite c13 [.ret (.con (.bl false))] [] :: .ite c14 [.ret (.con (.bl false))] [] :: .ite c16 [.ret (.con (.bl false))] [] :: .ret (.con (.bl true)) :: [] := rfl
section
variable {x : B} {n : Nat} {t : Int}
theorem end22 (h : Ok x n t) (k : Nat) (env : Env) (h2 : env.get 2 = some (bD x)) (h4 : env.get 4 = some (.lst (nats (mv 0 x.ms)))) : evSs pg.tb (lev pg (k + 6)) (b22.drop 12) env = .ret (.bl true) env := by
  have q12 : evE pg.tb (lev pg (k + 6)) (.no (.call 21 .nil)) env = .ok (.bl false) env := by
    have := cases_ok (k + 1)
    rw [y_no, y_call, y_nil, bind_ok, this, callRes_ok]
    simp
  have q13 : evE pg.tb (lev pg (k + 4)) e13 env = .exc 2 env := by
    have e1 := h.m
    have e2 := h.h2
    have := sow_no h (k + 2) 9 (fun z => by
      have := ((mem_mv x.ms 0 9).mp z).2.1
      omega)
    have hm : pg.tb.meth 8 1 = some 2 := rfl
    have hb : bD x = .obj 8 [(0, .tup (iz x.ms)), (1, .tup (iz x.os)), (2, .tup [.int x.a, .int x.b]), (3, .bl x.f)] := rfl
    have h9 : ((9 : Nat) : Int) = 9 := rfl
    rw [h9] at this
    generalize lev pg (k + 4) = cf at *
    rw [e13, y_meth, late_var, lateK_none, ev_var h2, bind_ok]
    rw [hb] at this ⊢
    rw [onObj_obj, hm, onSome_some, y_cons, late_con, lateK_none, y_con, bind_ok, y_nil, bind_ok, bind_ok, this, callRes_exc]
    simp
  have q14 : evE pg.tb (lev pg (k + 4)) e14 env = .exc 3 env := by
    have := until_no (k + 2)
    generalize lev pg (k + 4) = cf at *
    rw [e14]
    simp [y_call, y_cons, y_nil, y_lst, y_con, okLen, this]
  have q15 : evE pg.tb (lev pg (k + 6)) c16 env = .ok (.bl false) env := by
    have hn := ne_nats (mv 0 x.ms)
    have hnE : evE pg.tb (lev pg (k + 6)) (.cmp .ne (.cons (.var 4) (.cons (.lst (.nil)) .nil))) env = .ok (.bl (!(mv 0 x.ms).isEmpty)) env := by
      generalize lev pg (k + 6) = cf at *
      simp [y_cmp, y_cons, y_nil, y_var, y_lst, okLen, h4, hn]
    rw [c16, y_and, hnE, bind_ok, onB_bl]
    by_cases he : mv 0 x.ms = []
    · rw [he]; rfl
    · have hsn := sum_ne h.mp he
      have := best_zero (x := x) hsn (k + 2)
      have hi : (!(mv 0 x.ms).isEmpty) = true := by simpa using he
      rw [hi, cond_true]
      have hm : pg.tb.meth 8 6 = some 7 := rfl
      have hb : bD x = .obj 8 [(0, .tup (iz x.ms)), (1, .tup (iz x.os)), (2, .tup [.int x.a, .int x.b]), (3, .bl x.f)] := rfl
      have q : evE pg.tb (lev pg (k + 4)) e15 env = .exc 3 env := by
        generalize lev pg (k + 4) = cf at *
        rw [e15, y_meth, late_var, lateK_none, ev_var h2, bind_ok]
        rw [hb] at this ⊢
        rw [onObj_obj, hm, onSome_some, y_cons, late_con, lateK_none, y_con, bind_ok, y_nil, bind_ok, bind_ok, this, callRes_exc]
        simp
      exact ne_ev late_told (told_exc (k + 4) q t3)
  have p13 := ite_no (b := [.ret (.con (.bl false))]) (ne_ev late_told (told_exc (k + 4) q13 t2))
  have p14 := ite_no (b := [.ret (.con (.bl false))]) (ne_ev late_told (told_exc (k + 4) q14 t3))
  have p15 := ite_no (b := [.ret (.con (.bl false))]) q15
  have p12 := ite_no (b := [.ret (.con (.bl false))]) q12
  have s13 : evS pg.tb (lev pg (k + 6)) (.ite c13 [.ret (.con (.bl false))] []) env = .nx env := p13
  have s14 : evS pg.tb (lev pg (k + 6)) (.ite c14 [.ret (.con (.bl false))] []) env = .nx env := p14
  rw [b22_end, z_cons, st12, p12, seq_nx, z_cons, s13, seq_nx, z_cons, s14, seq_nx, z_cons, p15, seq_nx, z_cons, z_ret, y_con]
  rfl
theorem rest_ok (h : Ok x n t) (k : Nat) (a b c : Int) : ∃ a' b' c', (lev pg (k + 7)).c 0 22 [diceD a b c, .int (n : Nat), bD x, sD x, .lst (nats (mv 0 x.ms))] = .ok (.bl true) [diceD a' b' c'] := by
  obtain ⟨p5, p9, p10, p11, p18, p19, p20, p23, p24, e1⟩ := most22 ⟨diceD a b c, n, bD x, x, .lst (nats (mv 0 x.ms))⟩ (k + 2) t h rfl none none none none none none none none none none
  obtain ⟨q12, q13, e2⟩ := play22 (x := x) (n := n) (t := t) (diceD a b c) (.int (n : Nat)) (sD x) (.lst (nats (mv 0 x.ms))) p5 none none none p9 p10 p11 none none none none none none p18 p19 p20 none none p23 p24 none h k
  obtain ⟨hs, a', b', c', q6, q7, q15, q17, q21, l1, l2, l3, e3⟩ := march22 (.int (n : Nat)) (bD x) (sD x) (.lst (nats (mv 0 x.ms))) p5 none none none p9 p10 p11 q12 q13 none none none none p18 p19 p20 none none p23 p24 none (k + 5) a b c
  have H := hp_of l1 l2 l3
  obtain ⟨kk, f, k1, f1, he, hd⟩ := first_back l1 l2 l3
  have hu := until_ok H kk f (by omega) f1 he hd (k + 4)
  have hm := marching_ok H (k + 5) kk (by omega)
  have h11 := c11_ok (diceD a' b' c') (.int (n : Nat)) (bD x) (sD x) (.lst (nats (mv 0 x.ms))) p5 q6 q7 p9 p10 p11 q12 q13 (some (.lst (iz hs))) q15 p18 p19 p20 q21 none p23 p24 none (lev pg (k + 6)) hs kk f f1 (by omega) he hd
  refine ⟨a', b', c', ?_⟩
  rw [lev_call (df := d22) rfl rfl]
  have hend := fun env h2 h4 => end22 h k env h2 h4
  have e1 : evSs pg.tb (lev pg (k + 6)) b22 [some (diceD a b c), some (.int (n : Nat)), some (bD x), some (sD x), some (.lst (nats (mv 0 x.ms))), none, none, none, none, none, none, none, none, none, none, none, none, none, none, none, none, none, none, none, none, none] = _ := e1
  show endD d22 (evSs pg.tb (lev pg (k + 6)) b22 [some (diceD a b c), some (.int (n : Nat)), some (bD x), some (sD x), some (.lst (nats (mv 0 x.ms))), none, none, none, none, none, none, none, none, none, none, none, none, none, none, none, none, none, none, none, none, none]) = _
  have e2' := e1.trans (e2.trans e3)
  rw [e2']
  clear e1 e2 e3 e2'
  generalize lev pg (k + 6) = cf at *
  have s9 : ∀ (d : D) (o8 o16 o17 : Option D), evS pg.tb cf st9 [some d, some (.int (n : Nat)), some (bD x), some (sD x), some (.lst (nats (mv 0 x.ms))), p5, q6, q7, o8, p9, p10, p11, q12, q13, some (.lst (iz hs)), q15, o16, o17, p18, p19, p20, q21, none, p23, p24, none] = .nx [some d, some (.int (n : Nat)), some (bD x), some (sD x), some (.lst (nats (mv 0 x.ms))), p5, q6, q7, o8, p9, p10, p11, q12, q13, some (.lst (iz hs)), q15, some (.int (f : Nat)), some (.int ((kk : Int) - (f : Int))), p18, p19, p20, q21, none, p23, p24, none] := by
    intro d o8 o16 o17
    unfold st9
    simp [get_lit, Env.put, bindT, z_bind, y_call, y_cons, y_nil, y_var, y_con, hu]
  have hs2 : (f : Int) + ((kk : Int) - (f : Int)) = (kk : Nat) := by omega
  have s10 : ∀ (d : D) (o8 : Option D), evS pg.tb cf st10 [some d, some (.int (n : Nat)), some (bD x), some (sD x), some (.lst (nats (mv 0 x.ms))), p5, q6, q7, o8, p9, p10, p11, q12, q13, some (.lst (iz hs)), q15, some (.int (f : Nat)), some (.int ((kk : Int) - (f : Int))), p18, p19, p20, q21, none, p23, p24, none] = .nx [some d, some (.int (n : Nat)), some (bD x), some (sD x), some (.lst (nats (mv 0 x.ms))), p5, q6, q7, some (.tup ((rowsM hs kk).map rD)), p9, p10, p11, q12, q13, some (.lst (iz hs)), q15, some (.int (f : Nat)), some (.int ((kk : Int) - (f : Int))), p18, p19, p20, q21, none, p23, p24, none] := by
    intro d o8
    unfold st10
    simp [get_lit, Env.put, z_set, y_call, y_op, y_cons, y_nil, y_var, y_con, hs2, hm]
  have s11 := ite_no (b := [.ret (.con (.bl false))]) h11
  rw [b22_91011, z_cons, s9, seq_nx, z_cons, s10, seq_nx, z_cons, st11, s11, seq_nx, hend _ rfl rfl]
  rfl
end
end Bh.K09
/-! text P38 -/
set_option linter.all false
set_option maxRecDepth 100000
set_option maxHeartbeats 4000000
/-! P38: the law: its turns. -/
namespace Bh.K09
theorem sownB_snoc (n : Nat) : ∀ (l : List Nat) (x : B) (i : Nat), sownB n x (l ++ [i]) = (sow n (sownB n x l) i).1
  | [], x, i => rfl
  | j :: l, x, i => sownB_snoc n l (sow n x j).1 i
theorem letB_snoc (n : Nat) : ∀ (l : List Nat) (x : B) (i : Nat), letB n x l → i ∈ mv 0 (sownB n x l).ms → letB n x (l ++ [i])
  | [], x, i, _, h => ⟨h, trivial⟩
  | j :: l, x, i, ⟨h1, h2⟩, h => ⟨h1, letB_snoc n l (sow n x j).1 i h2 h⟩
theorem sow_f (n : Nat) (x : B) (i : Nat) : (sow n x i).1.f = if (sow n x i).2 then x.f else !x.f := by
  unfold sow
  split <;> rfl
theorem mul_i {a b : Int} (h : 0 ≤ a) (h2 : a ≤ 100) : opD .mul (.int a) (.int b) = some (.int (a * b)) := by
  have e : (2 : Int) ^ 64 = 18446744073709551616 := rfl
  have c : small64 a = true := by
    unfold small64
    rw [e]
    simp only [Bool.and_eq_true, decide_eq_true_eq]
    omega
  have e2 : opD .mul = mulD := rfl
  rw [e2, mulD, c, Bool.true_or, if_pos rfl]
theorem eq_nats (l : List Nat) : cmpB .eq (.lst (nats l)) (.lst []) = some (.bl l.isEmpty) := by
  refine cmpB_some ?_
  show (if eqOk (.lst (nats l)) (.lst []) then some (eqv (.lst (nats l)) (.lst [])) else empC (.lst (nats l)) (.lst [])) = _
  cases l with
  | nil => rfl
  | cons x l =>
    have e1 : eqv (.lst (nats (x :: l))) (.lst []) = false := by rw [eqv]; rfl
    have e2 : empC (.lst (nats (x :: l))) (.lst []) = some false := rfl
    rw [e1, e2]
    split <;> rfl
theorem ne_same (l : List Nat) : cmpB .ne (.lst (nats l)) (.lst (nats l)) = some (.bl false) := ne_self (by simp [plain, plains_nats]) (by simp [dep, deps_nats])
theorem ne_bl (b : Bool) : cmpB .ne (.bl b) (.bl b) = some (.bl false) := ne_self rfl (by simp [dep])
def lcM : E := .lc (.one 14) (.rng1 (.var 5)) (some (.cmp .gt (.cons (.idx (.cons (.idx (.cons (.var 8) (.cons (.con (.int 0)) .nil))) (.cons (.var 14) .nil))) (.cons (.con (.int 0)) .nil)))) (.var 14)
def w0 : S := .set 11 lcM
def d1c : E := .or (.cmp .ne (.cons (.bf .list (.cons (.meth 0 (.var 7) (.nil)) .nil)) (.cons (.var 11) .nil))) (.cmp .ne (.cons (.meth 2 (.var 7) (.nil)) (.cons (.cmp .eq (.cons (.var 11) (.cons (.lst (.nil)) .nil))) .nil)))
def w1 : S := .ite d1c [.ret (.con (.bl false))] []
def v0 : S := .set 13 (.idx (.cons (.var 11) (.cons (.call 17 (.cons (.io 1) (.cons (.bf .len (.cons (.var 11) .nil)) .nil))) .nil)))
def v1 : S := .bind [8, 15] (.call 18 (.cons (.var 8) (.cons (.var 13) .nil)))
def v2 : S := .bind [7, 16] (.meth 1 (.var 7) (.cons (.var 13) .nil))
def v3 : S := .par2 9 false (.ite (.var 15) (.var 9) (.no (.var 9))) 10 false (.op .add (.cons (.var 10) (.cons (.lst (.cons (.var 13) .nil)) .nil)))
def v4 : S := .ite (.cmp .ne (.cons (.var 16) (.cons (.var 15) .nil))) [.ret (.con (.bl false))] []
def w2 : S := .ite (.cmp .ne (.cons (.var 11) (.cons (.lst (.nil)) .nil))) [v0, v1, v2, v3, v4] []
def d3c : E := .or (.cmp .ne (.cons (.meth 9 (.var 7) (.nil)) (.cons (.tup (.cons (.bf .tuple (.cons (.idx (.cons (.var 8) (.cons (.con (.int 0)) .nil))) .nil)) (.cons (.bf .tuple (.cons (.idx (.cons (.var 8) (.cons (.con (.int 1)) .nil))) .nil)) (.cons (.tup (.cons (.idx (.cons (.var 8) (.cons (.con (.int 2)) .nil))) (.cons (.idx (.cons (.var 8) (.cons (.con (.int 3)) .nil))) .nil))) (.cons (.var 9) .nil))))) .nil))) (.cmp .ne (.cons (.meth 4 (.var 7) (.nil)) (.cons (.op .mul (.cons (.op .mul (.cons (.con (.int 2)) (.cons (.var 5) .nil))) (.cons (.var 6) .nil))) .nil)))
def w3 : S := .ite d3c [.ret (.con (.bl false))] []
section
variable {y : B} {n : Nat} {t s : Int} {cf : CF} {env : Env}
theorem lcM_ok (h : Ok y n t) (hl : env.length = 17) (h5 : env.get 5 = some (.int (n : Nat))) (h8 : env.get 8 = some (sD y)) : evE pg.tb cf lcM env = .ok (.lst (nats (mv 0 y.ms))) env := by
  have e1 := h.m
  have h2 := h.h2
  refine lc_mv cf (by omega) (by omega) (by rw [ev_var h5, e1]) rfl fun k hk => ?_
  have hx := ix_at (r := y.ms) (i := k) hk
  generalize y.ms.getD k 0 = v at hx ⊢
  have i0 : idxD (sD y) (.int 0) = some (.lst (iz y.ms)) := rfl
  have g8 : Env.get (List.set env 14 (some (.int (k : Nat)))) 8 = some (sD y) := by
    rw [← h8]; simp [Env.get, List.getElem?_set]
  have g14 : Env.get (List.set env 14 (some (.int (k : Nat)))) 14 = some (.int (k : Nat)) := by
    simp [Env.get, List.getElem?_set, hl]
  generalize List.set env 14 (some (.int (k : Nat))) = e at *
  simp [y_idx, y_cons, y_nil, y_var, y_con, g8, g14, i0, hx]
theorem d1c_ok (h7 : env.get 7 = some (bD y)) (h11 : env.get 11 = some (.lst (nats (mv 0 y.ms)))) (hp : ∀ z ∈ y.ms, 0 ≤ z) (hm : cf.c 0 1 [bD y] = .ok (.tup (nats (mv 0 y.ms))) []) (ho : cf.c 0 3 [bD y] = .ok (.bl (y.ms.sum == 0)) []) : evE pg.tb cf d1c env = .ok (.bl false) env := by
  have m1 := meth0 cf y (m := 0) (o := .var 7) rfl (ev_var h7) rfl hm rfl
  have m2 := meth0 cf y (m := 2) (o := .var 7) rfl (ev_var h7) rfl ho rfl
  have e : (y.ms.sum == 0) = (mv 0 y.ms).isEmpty := by
    by_cases c : mv 0 y.ms = []
    · by_cases z : y.ms.sum = 0
      · rw [c, z]; rfl
      · exact (mv_ne 0 hp z c).elim
    · have z := sum_ne hp c
      have a : (y.ms.sum == 0) = false := by simpa using z
      have b : (mv 0 y.ms).isEmpty = false := by simpa using c
      rw [a, b]
  rw [e] at m2
  have n1 := ne_same (mv 0 y.ms)
  have n2 := eq_nats (mv 0 y.ms)
  generalize mv 0 y.ms = l at *
  have hb : bfD .list [.tup (nats l)] = some (.lst (nats l)) := rfl
  have n3 := ne_bl l.isEmpty
  unfold d1c
  simp [y_or, y_cmp, y_bf, y_cons, y_nil, y_var, y_lst, okLen, h11, m1, m2, n1, n2, n3, hb]
theorem d3c_ok (h : Ok y n (2 * n * s)) (h5 : env.get 5 = some (.int (n : Nat))) (h6 : env.get 6 = some (.int s)) (h7 : env.get 7 = some (bD y)) (h8 : env.get 8 = some (sD y)) (h9 : env.get 9 = some (.bl y.f)) (hk : cf.c 0 10 [bD y] = .ok (keyD y) []) (hs : cf.c 0 5 [bD y] = .ok (.int (2 * n * s)) []) : evE pg.tb cf d3c env = .ok (.bl false) env := by
  have m1 := meth0 cf y (m := 9) (o := .var 7) rfl (ev_var h7) rfl hk rfl
  have m2 := meth0 cf y (m := 4) (o := .var 7) rfl (ev_var h7) rfl hs rfl
  have hn1 := h.h1
  have hn2 := h.h2
  have u1 : evE pg.tb cf (.op .mul (.cons (.con (.int 2)) (.cons (.var 5) .nil))) env = .ok (.int (2 * (n : Int))) env := ev_op2 rfl rfl y_con (ev_var h5) (mul_i (by omega) (by omega))
  have u2 : evE pg.tb cf (.op .mul (.cons (.op .mul (.cons (.con (.int 2)) (.cons (.var 5) .nil))) (.cons (.var 6) .nil))) env = .ok (.int (2 * (n : Int) * s)) env := ev_op2 rfl rfl u1 (ev_var h6) (mul_i (by omega) (by omega))
  have b1 : bfD .tuple [.lst (iz y.ms)] = some (.tup (iz y.ms)) := rfl
  have b2 : bfD .tuple [.lst (iz y.os)] = some (.tup (iz y.os)) := rfl
  have nk := ne_key y
  unfold keyD at nk m1
  unfold d3c
  rw [y_or]
  have q1 : evE pg.tb cf (.cmp .ne (.cons (.meth 9 (.var 7) (.nil)) (.cons (.tup (.cons (.bf .tuple (.cons (.idx (.cons (.var 8) (.cons (.con (.int 0)) .nil))) .nil)) (.cons (.bf .tuple (.cons (.idx (.cons (.var 8) (.cons (.con (.int 1)) .nil))) .nil)) (.cons (.tup (.cons (.idx (.cons (.var 8) (.cons (.con (.int 2)) .nil))) (.cons (.idx (.cons (.var 8) (.cons (.con (.int 3)) .nil))) .nil))) (.cons (.var 9) .nil))))) .nil))) env = .ok (.bl false) env := by
    simp [y_cmp, y_bf, y_idx, y_tup, y_cons, y_nil, y_var, y_con, okLen, h8, h9, m1, s_idx, b1, b2, nk]
  have q2 : evE pg.tb cf (.cmp .ne (.cons (.meth 4 (.var 7) (.nil)) (.cons (.op .mul (.cons (.op .mul (.cons (.con (.int 2)) (.cons (.var 5) .nil))) (.cons (.var 6) .nil))) .nil))) env = .ok (.bl false) env := by
    rw [y_cmp, y_cons, late_meth, lateK_none, m2, bind_ok, y_cons, late_op, lateK_none, u2, bind_ok, y_nil, bind_ok, bind_ok, bind_ok, two2_2, cmpB_some ne_int, of_some]
    simp
  rw [q1, bind_ok, onB_bl, cond_false, q2]
end
end Bh.K09
/-! text P39 -/
set_option linter.all false
set_option maxRecDepth 100000
set_option maxHeartbeats 4000000
/-! P39: the law: its turns, joined. -/
namespace Bh.K09
section
variable {y : B} {n : Nat} {s : Int} (o0 o2 o3 o4 o11 o12 o13 o14 o15 o16 : Option D)
theorem move39 (h : Ok y n (2 * n * s)) (k : Nat) (a b c : Int) (made : List Nat) (hm : made.length ≤ 50) (hne : mv 0 y.ms ≠ []) : ∃ i a' b' c', i ∈ mv 0 y.ms ∧ evSs pg.tb (lev pg (k + 3)) [v0, v1, v2, v3, v4] [o0, some (diceD a b c), o2, o3, o4, some (.int (n : Nat)), some (.int s), some (bD y), some (sD y), some (.bl y.f), some (.lst (nats made)), some (.lst (nats (mv 0 y.ms))), o12, o13, o14, o15, o16] = .nx [o0, some (diceD a' b' c'), o2, o3, o4, some (.int (n : Nat)), some (.int s), some (bD (sow n y i).1), some (sD (sow n y i).1), some (.bl (sow n y i).1.f), some (.lst (nats (made ++ [i]))), some (.lst (nats (mv 0 y.ms))), o12, some (.int (i : Nat)), o14, some (.bl (sow n y i).2), some (.bl (sow n y i).2)] := by
  have e1 := h.m
  have e2 := h.h2
  have ml := mv_len y.ms 0
  have hpos : 0 < (mv 0 y.ms).length := by
    rcases hq : mv 0 y.ms with _ | ⟨z, l⟩
    · exact (hne hq).elim
    · simp
  have hlen : bfD .len [.lst (nats (mv 0 y.ms))] = some (.int ((mv 0 y.ms).length : Nat)) := by
    show some (D.int (((nats (mv 0 y.ms)).length : Nat) : Int)) = _
    simp [nats]
  obtain ⟨r, a', b', c', r0, r1, hr⟩ := roll_ev (k + 2) (e := .bf .len (.cons (.var 11) .nil)) (env := [o0, some (diceD a b c), o2, o3, o4, some (.int (n : Nat)), some (.int s), some (bD y), some (sD y), some (.bl y.f), some (.lst (nats made)), some (.lst (nats (mv 0 y.ms))), o12, o13, o14, o15, o16]) (j := 1) (a := a) (b := b) (c := c) (m := ((mv 0 y.ms).length : Nat)) (by omega) (by omega) rfl rfl rfl rfl (by
    rw [y_bf, y_cons, late_var, lateK_none, ev_var (d := .lst (nats (mv 0 y.ms))) rfl, bind_ok, y_nil, bind_ok, bind_ok, hlen, of_some])
  obtain ⟨j, hj⟩ : ∃ j : Nat, r = (j : Int) := ⟨r.toNat, by omega⟩
  subst hj
  have hjl : j < (mv 0 y.ms).length := by omega
  have hix := nats_at' hjl
  have him : (mv 0 y.ms).getD j 0 ∈ mv 0 y.ms := by
    rw [List.getD_eq_getElem?_getD, List.getElem?_eq_getElem hjl]; simp
  generalize (mv 0 y.ms).getD j 0 = i at *
  have hlt := ((mem_mv y.ms 0 i).mp him).2.1
  have hl := lsow_ok h (k + 2) (i := i) (by omega)
  have hs := sow_ok h k him
  refine ⟨i, a', b', c', him, ?_⟩
  have hf := sow_f n y i
  have nb := ne_bl (sow n y i).2
  generalize (sow n y i).1.f = yf at *
  generalize mv 0 y.ms = mvs at *
  obtain ⟨y', ag, hya⟩ : ∃ y' ag, sow n y i = (y', ag) := ⟨_, _, rfl⟩
  rw [hya] at hl hs hf nb ⊢
  dsimp only at hl hs hf nb ⊢
  have hl' : (lev pg (k + 3)).c 0 18 [sD y, .int (i : Nat)] = .ok (.tup [sD y', .bl ag]) [] := hl
  generalize lev pg (k + 3) = cf at *
  have q0 : evS pg.tb cf v0 [o0, some (diceD a b c), o2, o3, o4, some (.int (n : Nat)), some (.int s), some (bD y), some (sD y), some (.bl y.f), some (.lst (nats made)), some (.lst (nats mvs)), o12, o13, o14, o15, o16] = .nx [o0, some (diceD a' b' c'), o2, o3, o4, some (.int (n : Nat)), some (.int s), some (bD y), some (sD y), some (.bl y.f), some (.lst (nats made)), some (.lst (nats mvs)), o12, some (.int (i : Nat)), o14, o15, o16] := by
    rw [v0, z_set, y_idx, y_cons, late_var, lateK_none, ev_var (d := .lst (nats mvs)) rfl, bind_ok, y_cons, late_call, lateK_none, hr, bind_ok, y_nil, bind_ok, bind_ok, bind_ok, two2_2, hix, of_some, o_ok]
    rfl
  have q1 : evS pg.tb cf v1 [o0, some (diceD a' b' c'), o2, o3, o4, some (.int (n : Nat)), some (.int s), some (bD y), some (sD y), some (.bl y.f), some (.lst (nats made)), some (.lst (nats mvs)), o12, some (.int (i : Nat)), o14, o15, o16] = .nx [o0, some (diceD a' b' c'), o2, o3, o4, some (.int (n : Nat)), some (.int s), some (bD y), some (sD y'), some (.bl y.f), some (.lst (nats made)), some (.lst (nats mvs)), o12, some (.int (i : Nat)), o14, some (.bl ag), o16] := by
    unfold v1
    simp [get_lit, Env.put, bindT, z_bind, y_call, y_cons, y_nil, y_var, hl']
  have m2 := meth_ok cf y (m := 1) (f := 2) (o := .var 7) (es := .cons (.var 13) .nil) (env := [o0, some (diceD a' b' c'), o2, o3, o4, some (.int (n : Nat)), some (.int s), some (bD y), some (sD y'), some (.bl y.f), some (.lst (nats made)), some (.lst (nats mvs)), o12, some (.int (i : Nat)), o14, some (.bl ag), o16]) (env1 := [o0, some (diceD a' b' c'), o2, o3, o4, some (.int (n : Nat)), some (.int s), some (bD y), some (sD y'), some (.bl y.f), some (.lst (nats made)), some (.lst (nats mvs)), o12, some (.int (i : Nat)), o14, some (.bl ag), o16]) (env2 := [o0, some (diceD a' b' c'), o2, o3, o4, some (.int (n : Nat)), some (.int s), some (bD y), some (sD y'), some (.bl y.f), some (.lst (nats made)), some (.lst (nats mvs)), o12, some (.int (i : Nat)), o14, some (.bl ag), o16]) rfl (ev_var rfl) rfl (by simp [y_cons, y_nil, y_var, get_lit]) hs (by simp)
  have q2 : evS pg.tb cf v2 [o0, some (diceD a' b' c'), o2, o3, o4, some (.int (n : Nat)), some (.int s), some (bD y), some (sD y'), some (.bl y.f), some (.lst (nats made)), some (.lst (nats mvs)), o12, some (.int (i : Nat)), o14, some (.bl ag), o16] = .nx [o0, some (diceD a' b' c'), o2, o3, o4, some (.int (n : Nat)), some (.int s), some (bD y'), some (sD y'), some (.bl y.f), some (.lst (nats made)), some (.lst (nats mvs)), o12, some (.int (i : Nat)), o14, some (.bl ag), some (.bl ag)] := by
    rw [v2, z_bind, m2, o_ok]
    rfl
  have hadd : opD .add (.lst (nats made)) (.lst [.int (i : Nat)]) = some (.lst (nats (made ++ [i]))) := by
    rw [add_lst, if_pos (by simp [okLen, nats]; omega), snoc_nats]
  have q3 : evS pg.tb cf v3 [o0, some (diceD a' b' c'), o2, o3, o4, some (.int (n : Nat)), some (.int s), some (bD y'), some (sD y'), some (.bl y.f), some (.lst (nats made)), some (.lst (nats mvs)), o12, some (.int (i : Nat)), o14, some (.bl ag), some (.bl ag)] = .nx [o0, some (diceD a' b' c'), o2, o3, o4, some (.int (n : Nat)), some (.int s), some (bD y'), some (sD y'), some (.bl yf), some (.lst (nats (made ++ [i]))), some (.lst (nats mvs)), o12, some (.int (i : Nat)), o14, some (.bl ag), some (.bl ag)] := by
    have x1 : evE pg.tb cf (.ite (.var 15) (.var 9) (.no (.var 9))) [o0, some (diceD a' b' c'), o2, o3, o4, some (.int (n : Nat)), some (.int s), some (bD y'), some (sD y'), some (.bl y.f), some (.lst (nats made)), some (.lst (nats mvs)), o12, some (.int (i : Nat)), o14, some (.bl ag), some (.bl ag)] = .ok (.bl yf) [o0, some (diceD a' b' c'), o2, o3, o4, some (.int (n : Nat)), some (.int s), some (bD y'), some (sD y'), some (.bl y.f), some (.lst (nats made)), some (.lst (nats mvs)), o12, some (.int (i : Nat)), o14, some (.bl ag), some (.bl ag)] := by
      rw [hf]
      cases ag <;> simp [get_lit, y_ite, y_no, y_var]
    have x2 : evE pg.tb cf (.op .add (.cons (.var 10) (.cons (.lst (.cons (.var 13) .nil)) .nil))) [o0, some (diceD a' b' c'), o2, o3, o4, some (.int (n : Nat)), some (.int s), some (bD y'), some (sD y'), some (.bl y.f), some (.lst (nats made)), some (.lst (nats mvs)), o12, some (.int (i : Nat)), o14, some (.bl ag), some (.bl ag)] = .ok (.lst (nats (made ++ [i]))) [o0, some (diceD a' b' c'), o2, o3, o4, some (.int (n : Nat)), some (.int s), some (bD y'), some (sD y'), some (.bl y.f), some (.lst (nats made)), some (.lst (nats mvs)), o12, some (.int (i : Nat)), o14, some (.bl ag), some (.bl ag)] := by
      refine ev_op2 rfl rfl (ev_var rfl) (y := .lst [.int (i : Nat)]) ?_ hadd
      simp [get_lit, y_lst, y_cons, y_nil, y_var, okLen]
    rw [v3, z_par2, x1, o_ok, x2, o_ok]
    simp [setO, Env.put]
  have q4 : evS pg.tb cf v4 [o0, some (diceD a' b' c'), o2, o3, o4, some (.int (n : Nat)), some (.int s), some (bD y'), some (sD y'), some (.bl yf), some (.lst (nats (made ++ [i]))), some (.lst (nats mvs)), o12, some (.int (i : Nat)), o14, some (.bl ag), some (.bl ag)] = .nx [o0, some (diceD a' b' c'), o2, o3, o4, some (.int (n : Nat)), some (.int s), some (bD y'), some (sD y'), some (.bl yf), some (.lst (nats (made ++ [i]))), some (.lst (nats mvs)), o12, some (.int (i : Nat)), o14, some (.bl ag), some (.bl ag)] := by
    unfold v4
    refine ite_no ?_
    rw [y_cmp, y_cons, late_var, lateK_none, ev_var (d := .bl ag) rfl, bind_ok, y_cons, late_var, lateK_none, ev_var (d := .bl ag) rfl, bind_ok, y_nil, bind_ok, bind_ok, bind_ok, two2_2, nb, of_some]
  rw [z_cons, q0, seq_nx, z_cons, q1, seq_nx, z_cons, q2, seq_nx, z_cons, q3, seq_nx, z_cons, q4, seq_nx, z_nil]
theorem seeds39 (h : Ok y n (2 * n * s)) (k : Nat) : (lev pg (k + 1)).c 0 5 [bD y] = .ok (.int (2 * n * s)) [] := by
  have := seeds_ok (x := y) k
  have hs := h.sum
  rw [this]
  congr 2; omega
theorem turn39 (h : Ok y n (2 * n * s)) (k : Nat) (a b c : Int) (made : List Nat) (hm : made.length ≤ 50) : ∃ y' made' a' b' c' o11' o13' o15' o16', ((y' = y ∧ made' = made) ∨ ∃ i ∈ mv 0 y.ms, y' = (sow n y i).1 ∧ made' = made ++ [i]) ∧ evSs pg.tb (lev pg (k + 3)) [w0, w1, w2, w3] [o0, some (diceD a b c), o2, o3, o4, some (.int (n : Nat)), some (.int s), some (bD y), some (sD y), some (.bl y.f), some (.lst (nats made)), o11, o12, o13, o14, o15, o16] = .nx [o0, some (diceD a' b' c'), o2, o3, o4, some (.int (n : Nat)), some (.int s), some (bD y'), some (sD y'), some (.bl y'.f), some (.lst (nats made')), o11', o12, o13', o14, o15', o16'] := by
  have f0 : evS pg.tb (lev pg (k + 3)) w0 [o0, some (diceD a b c), o2, o3, o4, some (.int (n : Nat)), some (.int s), some (bD y), some (sD y), some (.bl y.f), some (.lst (nats made)), o11, o12, o13, o14, o15, o16] = .nx [o0, some (diceD a b c), o2, o3, o4, some (.int (n : Nat)), some (.int s), some (bD y), some (sD y), some (.bl y.f), some (.lst (nats made)), some (.lst (nats (mv 0 y.ms))), o12, o13, o14, o15, o16] := by
    rw [w0, z_set, lcM_ok h rfl rfl rfl, o_ok]
    rfl
  have f1 : evS pg.tb (lev pg (k + 3)) w1 [o0, some (diceD a b c), o2, o3, o4, some (.int (n : Nat)), some (.int s), some (bD y), some (sD y), some (.bl y.f), some (.lst (nats made)), some (.lst (nats (mv 0 y.ms))), o12, o13, o14, o15, o16] = .nx [o0, some (diceD a b c), o2, o3, o4, some (.int (n : Nat)), some (.int s), some (bD y), some (sD y), some (.bl y.f), some (.lst (nats made)), some (.lst (nats (mv 0 y.ms))), o12, o13, o14, o15, o16] := ite_no (d1c_ok rfl rfl h.mp (moves_ok h (k + 2)) (over_ok (k + 2)))
  have hcond : ∀ cf, evE pg.tb cf (.cmp .ne (.cons (.var 11) (.cons (.lst (.nil)) .nil))) [o0, some (diceD a b c), o2, o3, o4, some (.int (n : Nat)), some (.int s), some (bD y), some (sD y), some (.bl y.f), some (.lst (nats made)), some (.lst (nats (mv 0 y.ms))), o12, o13, o14, o15, o16] = .ok (.bl (!(mv 0 y.ms).isEmpty)) [o0, some (diceD a b c), o2, o3, o4, some (.int (n : Nat)), some (.int s), some (bD y), some (sD y), some (.bl y.f), some (.lst (nats made)), some (.lst (nats (mv 0 y.ms))), o12, o13, o14, o15, o16] := fun cf => by
    have hn := ne_nats (mv 0 y.ms)
    simp [get_lit, y_cmp, y_cons, y_nil, y_var, y_lst, okLen, hn]
  by_cases he : mv 0 y.ms = []
  · refine ⟨y, made, a, b, c, some (.lst (nats (mv 0 y.ms))), o13, o15, o16, .inl ⟨rfl, rfl⟩, ?_⟩
    have f2 : evS pg.tb (lev pg (k + 3)) w2 [o0, some (diceD a b c), o2, o3, o4, some (.int (n : Nat)), some (.int s), some (bD y), some (sD y), some (.bl y.f), some (.lst (nats made)), some (.lst (nats (mv 0 y.ms))), o12, o13, o14, o15, o16] = .nx [o0, some (diceD a b c), o2, o3, o4, some (.int (n : Nat)), some (.int s), some (bD y), some (sD y), some (.bl y.f), some (.lst (nats made)), some (.lst (nats (mv 0 y.ms))), o12, o13, o14, o15, o16] := by
      refine ite_no ?_
      rw [hcond, he]
      rfl
    have f3 : evS pg.tb (lev pg (k + 3)) w3 [o0, some (diceD a b c), o2, o3, o4, some (.int (n : Nat)), some (.int s), some (bD y), some (sD y), some (.bl y.f), some (.lst (nats made)), some (.lst (nats (mv 0 y.ms))), o12, o13, o14, o15, o16] = .nx [o0, some (diceD a b c), o2, o3, o4, some (.int (n : Nat)), some (.int s), some (bD y), some (sD y), some (.bl y.f), some (.lst (nats made)), some (.lst (nats (mv 0 y.ms))), o12, o13, o14, o15, o16] := ite_no (d3c_ok h rfl rfl rfl rfl rfl (key_ok (k + 2)) (seeds39 h (k + 2)))
    rw [z_cons, f0, seq_nx, z_cons, f1, seq_nx, z_cons, f2, seq_nx, z_cons, f3, seq_nx, z_nil]
  · obtain ⟨i, a', b', c', him, hmv⟩ := move39 o0 o2 o3 o4 o12 o13 o14 o15 o16 h k a b c made hm he
    have e1 := h.m
    have hlt := ((mem_mv y.ms 0 i).mp him).2.1
    have hy := sow_ok' h (i := i) (by omega)
    refine ⟨(sow n y i).1, made ++ [i], a', b', c', some (.lst (nats (mv 0 y.ms))), some (.int (i : Nat)), some (.bl (sow n y i).2), some (.bl (sow n y i).2), .inr ⟨i, him, rfl, rfl⟩, ?_⟩
    have f2 : evS pg.tb (lev pg (k + 3)) w2 [o0, some (diceD a b c), o2, o3, o4, some (.int (n : Nat)), some (.int s), some (bD y), some (sD y), some (.bl y.f), some (.lst (nats made)), some (.lst (nats (mv 0 y.ms))), o12, o13, o14, o15, o16] = .nx [o0, some (diceD a' b' c'), o2, o3, o4, some (.int (n : Nat)), some (.int s), some (bD (sow n y i).1), some (sD (sow n y i).1), some (.bl (sow n y i).1.f), some (.lst (nats (made ++ [i]))), some (.lst (nats (mv 0 y.ms))), o12, some (.int (i : Nat)), o14, some (.bl (sow n y i).2), some (.bl (sow n y i).2)] := by
      have hi : (!(mv 0 y.ms).isEmpty) = true := by simpa using he
      rw [w2, z_ite, hcond, o_ok, hi, onBO_bl, cond_true, hmv]
    have f3 : evS pg.tb (lev pg (k + 3)) w3 [o0, some (diceD a' b' c'), o2, o3, o4, some (.int (n : Nat)), some (.int s), some (bD (sow n y i).1), some (sD (sow n y i).1), some (.bl (sow n y i).1.f), some (.lst (nats (made ++ [i]))), some (.lst (nats (mv 0 y.ms))), o12, some (.int (i : Nat)), o14, some (.bl (sow n y i).2), some (.bl (sow n y i).2)] = .nx [o0, some (diceD a' b' c'), o2, o3, o4, some (.int (n : Nat)), some (.int s), some (bD (sow n y i).1), some (sD (sow n y i).1), some (.bl (sow n y i).1.f), some (.lst (nats (made ++ [i]))), some (.lst (nats (mv 0 y.ms))), o12, some (.int (i : Nat)), o14, some (.bl (sow n y i).2), some (.bl (sow n y i).2)] := ite_no (d3c_ok hy rfl rfl rfl rfl rfl (key_ok (k + 2)) (seeds39 hy (k + 2)))
    rw [z_cons, f0, seq_nx, z_cons, f1, seq_nx, z_cons, f2, seq_nx, z_cons, f3, seq_nx, z_nil]
end
end Bh.K09
/-! text P40 -/
set_option linter.all false
set_option maxRecDepth 100000
set_option maxHeartbeats 4000000
/-! P40: the law: its start and its loop. -/
namespace Bh.K09
def l0 : S := .par2 5 false (.op .add (.cons (.con (.int 1)) (.cons (.call 17 (.cons (.io 1) (.cons (.con (.int 4)) .nil))) .nil))) 6 false (.call 17 (.cons (.io 1) (.cons (.con (.int 4)) .nil)))
def l1e : E := .tup (.cons (.call 11 (.cons (.var 5) (.cons (.var 6) .nil))) (.cons (.tup (.cons (.op .mul (.cons (.lst (.cons (.var 6) .nil)) (.cons (.var 5) .nil))) (.cons (.op .mul (.cons (.lst (.cons (.var 6) .nil)) (.cons (.var 5) .nil))) (.cons (.con (.int 0)) (.cons (.con (.int 0)) .nil))))) (.cons (.con (.bl true)) (.cons (.lst (.nil)) .nil))))
def l1 : S := .bind [7, 8, 9, 10] l1e
def l2 : S := .fors (.one 2) (.rng1 (.call 17 (.cons (.io 1) (.cons (.con (.int 9)) .nil)))) [w0, w1, w2, w3]
theorem okl {α : Type} (l : List α) (h : l.length ≤ 100) : okLen l.length = true := by
  simp only [okLen, decide_eq_true_eq]; omega
theorem lwB_012 : lwB = l0 :: l1 :: l2 :: lwB.drop 3 := rfl
section
variable {n : Nat} {s : Int} (o0 o2 o3 o4 o5 o6 o7 o8 o9 o10 o11 o12 o13 o14 o15 o16 : Option D)
theorem loop39 (x0 : B) (k : Nat) : ∀ (xs : List D) (made : List Nat) (a b c : Int) (o2 o11 o13 o15 o16 : Option D), made.length + xs.length ≤ 50 → letB n x0 made → Ok (sownB n x0 made) n (2 * n * s) → ∃ made' a' b' c' o2' o11' o13' o15' o16', made'.length ≤ 50 ∧ letB n x0 made' ∧ Ok (sownB n x0 made') n (2 * n * s) ∧ forL (.one 2) (evSs pg.tb (lev pg (k + 3)) [w0, w1, w2, w3]) xs [o0, some (diceD a b c), o2, o3, o4, some (.int (n : Nat)), some (.int s), some (bD (sownB n x0 made)), some (sD (sownB n x0 made)), some (.bl (sownB n x0 made).f), some (.lst (nats made)), o11, o12, o13, o14, o15, o16] = .nx [o0, some (diceD a' b' c'), o2', o3, o4, some (.int (n : Nat)), some (.int s), some (bD (sownB n x0 made')), some (sD (sownB n x0 made')), some (.bl (sownB n x0 made').f), some (.lst (nats made')), o11', o12, o13', o14, o15', o16']
  | [], made, a, b, c, o2, o11, o13, o15, o16, hl, h1, h2 => ⟨made, a, b, c, o2, o11, o13, o15, o16, by simpa using hl, h1, h2, rfl⟩
  | v :: xs, made, a, b, c, o2, o11, o13, o15, o16, hl, h1, h2 => by
    simp only [List.length_cons] at hl
    obtain ⟨y', made', a1, b1, c1, p11, p13, p15, p16, hy, t⟩ := turn39 o0 (some v) o3 o4 o11 o12 o13 o14 o15 o16 h2 k a b c made (by omega)
    have key : y' = sownB n x0 made' ∧ letB n x0 made' ∧ Ok (sownB n x0 made') n (2 * n * s) ∧ made'.length ≤ made.length + 1 := by
      rcases hy with ⟨rfl, rfl⟩ | ⟨i, hi, rfl, rfl⟩
      · exact ⟨rfl, h1, h2, by omega⟩
      · have e1 := h2.m
        have hlt := ((mem_mv _ 0 i).mp hi).2.1
        have := sow_ok' h2 (i := i) (by omega)
        rw [sownB_snoc]
        exact ⟨rfl, letB_snoc n made x0 i h1 hi, this, by simp⟩
    obtain ⟨rfl, k1, k2, k3⟩ := key
    obtain ⟨made2, a2, b2, c2, q2, q11, q13, q15, q16, g0, g1, g2, ih⟩ := loop39 x0 k xs made' a1 b1 c1 (some v) p11 p13 p15 p16 (by omega) k1 k2
    refine ⟨made2, a2, b2, c2, q2, q11, q13, q15, q16, g0, g1, g2, ?_⟩
    have e0 : bindT (.one 2) v [o0, some (diceD a b c), o2, o3, o4, some (.int (n : Nat)), some (.int s), some (bD (sownB n x0 made)), some (sD (sownB n x0 made)), some (.bl (sownB n x0 made).f), some (.lst (nats made)), o11, o12, o13, o14, o15, o16] = some [o0, some (diceD a b c), some v, o3, o4, some (.int (n : Nat)), some (.int s), some (bD (sownB n x0 made)), some (sD (sownB n x0 made)), some (.bl (sownB n x0 made).f), some (.lst (nats made)), o11, o12, o13, o14, o15, o16] := rfl
    rw [forL_go e0 t]
    exact ih
theorem l0_ok (k : Nat) (a b c : Int) : ∃ n : Nat, ∃ s a' b' c' : Int, 1 ≤ n ∧ n ≤ 4 ∧ 0 ≤ s ∧ s ≤ 3 ∧ evS pg.tb (lev pg (k + 1)) l0 [o0, some (diceD a b c), o2, o3, o4, o5, o6, o7, o8, o9, o10, o11, o12, o13, o14, o15, o16] = .nx [o0, some (diceD a' b' c'), o2, o3, o4, some (.int (n : Nat)), some (.int s), o7, o8, o9, o10, o11, o12, o13, o14, o15, o16] := by
  obtain ⟨r, a1, b1, c1, r0, r1, hr⟩ := roll_ev k (e := .con (.int 4)) (env := [o0, some (diceD a b c), o2, o3, o4, o5, o6, o7, o8, o9, o10, o11, o12, o13, o14, o15, o16]) (j := 1) (by decide) (by decide) rfl rfl rfl rfl y_con
  obtain ⟨s, a', b', c', s0, s1, hs⟩ := roll_ev k (e := .con (.int 4)) (env := [o0, some (diceD a1 b1 c1), o2, o3, o4, o5, o6, o7, o8, o9, o10, o11, o12, o13, o14, o15, o16]) (j := 1) (by decide) (by decide) rfl rfl rfl rfl y_con
  refine ⟨(1 + r).toNat, s, a', b', c', by omega, by omega, s0, by omega, ?_⟩
  have e : (((1 + r).toNat : Nat) : Int) = 1 + r := by omega
  have hr' := plus_ev (i := 1) rfl hr
  have hr2 : evE pg.tb (lev pg (k + 1)) (.op .add (.cons (.con (.int 1)) (.cons (.call 17 (.cons (.io 1) (.cons (.con (.int 4)) .nil))) .nil))) [o0, some (diceD a b c), o2, o3, o4, o5, o6, o7, o8, o9, o10, o11, o12, o13, o14, o15, o16] = .ok (.int (1 + r)) [o0, some (diceD a1 b1 c1), o2, o3, o4, o5, o6, o7, o8, o9, o10, o11, o12, o13, o14, o15, o16] := hr'
  rw [e, l0, z_par2, hr2, o_ok, hs, o_ok]
  simp [setO, Env.put]
theorem l1_ok (hn1 : 1 ≤ n) (hn2 : n ≤ 4) (hs1 : 0 ≤ s) (hs2 : s ≤ 3) (k : Nat) (d1 : D) : evS pg.tb (lev pg (k + 3)) l1 [o0, some d1, o2, o3, o4, some (.int (n : Nat)), some (.int s), o7, o8, o9, o10, o11, o12, o13, o14, o15, o16] = .nx [o0, some d1, o2, o3, o4, some (.int (n : Nat)), some (.int s), some (bD (newB n s)), some (sD (newB n s)), some (.bl true), some (.lst (nats [])), o11, o12, o13, o14, o15, o16] := by
  have hc := new_ok hn1 hn2 hs1 hs2 k
  have hE : evE pg.tb (lev pg (k + 3)) (.op .mul (.cons (.lst (.cons (.var 6) .nil)) (.cons (.var 5) .nil))) [o0, some d1, o2, o3, o4, some (.int (n : Nat)), some (.int s), o7, o8, o9, o10, o11, o12, o13, o14, o15, o16] = .ok (.lst (iz (List.replicate n s))) [o0, some d1, o2, o3, o4, some (.int (n : Nat)), some (.int s), o7, o8, o9, o10, o11, o12, o13, o14, o15, o16] := ev_op2 (x := .lst [.int s]) rfl rfl (by
    simp [get_lit, y_lst, y_cons, y_nil, y_var, okLen]) (ev_var rfl) (mul_rep s n (by omega))
  have hs : sD (newB n s) = .tup [.lst (iz (List.replicate n s)), .lst (iz (List.replicate n s)), .int 0, .int 0] := rfl
  rw [hs]
  generalize lev pg (k + 3) = cf at *
  generalize iz (List.replicate n s) = L at *
  generalize bD (newB n s) = bb at *
  have h1 : evE pg.tb cf l1e [o0, some d1, o2, o3, o4, some (.int (n : Nat)), some (.int s), o7, o8, o9, o10, o11, o12, o13, o14, o15, o16] = .ok (.tup [bb, .tup [.lst L, .lst L, .int 0, .int 0], .bl true, .lst []]) [o0, some d1, o2, o3, o4, some (.int (n : Nat)), some (.int s), o7, o8, o9, o10, o11, o12, o13, o14, o15, o16] := by
    have hcE : evE pg.tb cf (.call 11 (.cons (.var 5) (.cons (.var 6) .nil))) [o0, some d1, o2, o3, o4, some (.int (n : Nat)), some (.int s), o7, o8, o9, o10, o11, o12, o13, o14, o15, o16] = .ok bb [o0, some d1, o2, o3, o4, some (.int (n : Nat)), some (.int s), o7, o8, o9, o10, o11, o12, o13, o14, o15, o16] := by
      simp [get_lit, y_call, y_cons, y_nil, y_var, hc]
    have hT : evE pg.tb cf (.tup (.cons (.op .mul (.cons (.lst (.cons (.var 6) .nil)) (.cons (.var 5) .nil))) (.cons (.op .mul (.cons (.lst (.cons (.var 6) .nil)) (.cons (.var 5) .nil))) (.cons (.con (.int 0)) (.cons (.con (.int 0)) .nil))))) [o0, some d1, o2, o3, o4, some (.int (n : Nat)), some (.int s), o7, o8, o9, o10, o11, o12, o13, o14, o15, o16] = .ok (.tup [.lst L, .lst L, .int 0, .int 0]) [o0, some d1, o2, o3, o4, some (.int (n : Nat)), some (.int s), o7, o8, o9, o10, o11, o12, o13, o14, o15, o16] := by
      rw [y_tup, y_cons, late_op, lateK_none, hE, bind_ok, y_cons, late_op, lateK_none, hE, bind_ok, y_cons, late_con, lateK_none, y_con, bind_ok, y_cons, late_con, lateK_none, y_con, bind_ok, y_nil, bind_ok, bind_ok, bind_ok, bind_ok, bind_ok, if_pos (okl _ (by simp))]
    have hL : evE pg.tb cf (.lst .nil) [o0, some d1, o2, o3, o4, some (.int (n : Nat)), some (.int s), o7, o8, o9, o10, o11, o12, o13, o14, o15, o16] = .ok (.lst []) [o0, some d1, o2, o3, o4, some (.int (n : Nat)), some (.int s), o7, o8, o9, o10, o11, o12, o13, o14, o15, o16] := by
      rw [y_lst, y_nil, bind_ok, if_pos (okl _ (by simp))]
    rw [l1e, y_tup, y_cons, late_call, lateK_none, hcE, bind_ok, y_cons, late_tup, lateK_none, hT, bind_ok, y_cons, late_con, lateK_none, y_con, bind_ok, y_cons, late_lst, lateK_none, hL, bind_ok, y_nil, bind_ok, bind_ok, bind_ok, bind_ok, bind_ok, if_pos (okl _ (by simp))]
  rw [l1, z_bind, h1, o_ok]
  rfl
theorem l2_ok (x0 : B) (h : Ok x0 n (2 * n * s)) (hf : x0.f = true) (k : Nat) (a b c : Int) : ∃ made a' b' c' o2' o11' o13' o15' o16', made.length ≤ 50 ∧ letB n x0 made ∧ Ok (sownB n x0 made) n (2 * n * s) ∧ evS pg.tb (lev pg (k + 3)) l2 [o0, some (diceD a b c), o2, o3, o4, some (.int (n : Nat)), some (.int s), some (bD x0), some (sD x0), some (.bl true), some (.lst (nats [])), o11, o12, o13, o14, o15, o16] = .nx [o0, some (diceD a' b' c'), o2', o3, o4, some (.int (n : Nat)), some (.int s), some (bD (sownB n x0 made)), some (sD (sownB n x0 made)), some (.bl (sownB n x0 made).f), some (.lst (nats made)), o11', o12, o13', o14, o15', o16'] := by
  obtain ⟨r, a1, b1, c1, r0, r1, hr⟩ := roll_ev (k + 2) (e := .con (.int 9)) (env := [o0, some (diceD a b c), o2, o3, o4, some (.int (n : Nat)), some (.int s), some (bD x0), some (sD x0), some (.bl true), some (.lst (nats [])), o11, o12, o13, o14, o15, o16]) (j := 1) (by decide) (by decide) rfl rfl rfl rfl y_con
  obtain ⟨q, hq⟩ : ∃ q : Nat, r = (q : Int) := ⟨r.toNat, by omega⟩
  subst hq
  have hrng := rngN (m := q) (by omega)
  obtain ⟨made, a', b', c', p2, p11, p13, p15, p16, g0, g1, g2, e⟩ := loop39 (s := s) o0 o3 o4 o12 o14 x0 k ((List.range' 0 q).map fun (i : Nat) => D.int (i : Int)) [] a1 b1 c1 o2 o11 o13 o15 o16 (by simp; omega) trivial h
  refine ⟨made, a', b', c', p2, p11, p13, p15, p16, g0, g1, g2, ?_⟩
  generalize (List.range' 0 q).map (fun (i : Nat) => D.int (i : Int)) = L at *
  rw [show sownB n x0 [] = x0 from rfl, hf] at e
  rw [l2, z_fors, y_rng1, hr, bind_ok, hrng, of_some, o_ok]
  exact e
end
end Bh.K09
/-! text P41 -/
set_option linter.all false
set_option maxRecDepth 100000
set_option maxHeartbeats 4000000
/-! P41: the law: behind its turns. -/
namespace Bh.K09
def g3 : E := .cmp .ne (.cons (.meth 9 (.call 12 (.cons (.call 11 (.cons (.var 5) (.cons (.var 6) .nil))) (.cons (.var 10) .nil))) (.nil)) (.cons (.meth 9 (.var 7) (.nil)) .nil))
def l3 : S := .ite g3 [.ret (.con (.bl false))] []
def l4 : S := .set 3 (.tup (.cons (.op .add (.cons (.idx (.cons (.var 8) (.cons (.con (.int 2)) .nil))) (.cons (.bf .sum (.cons (.idx (.cons (.var 8) (.cons (.con (.int 0)) .nil))) .nil)) .nil))) (.cons (.op .add (.cons (.idx (.cons (.var 8) (.cons (.con (.int 3)) .nil))) (.cons (.bf .sum (.cons (.idx (.cons (.var 8) (.cons (.con (.int 1)) .nil))) .nil)) .nil))) .nil)))
def g5 : E := .cmp .ne (.cons (.meth 3 (.var 7) (.nil)) (.cons (.ite (.var 9) (.var 3) (.tup (.cons (.idx (.cons (.var 3) (.cons (.con (.int 1)) .nil))) (.cons (.idx (.cons (.var 3) (.cons (.con (.int 0)) .nil))) .nil)))) .nil))
def l5 : S := .ite g5 [.ret (.con (.bl false))] []
def l6 : S := .set 4 (.call 17 (.cons (.io 1) (.cons (.con (.int 4)) .nil)))
def g7 : E := .cmp .ne (.cons (.meth 5 (.var 7) (.cons (.var 4) .nil)) (.cons (.call 19 (.cons (.var 8) (.cons (.var 4) .nil))) .nil))
def l7 : S := .ite g7 [.ret (.con (.bl false))] []
def l8 : S := .par2 11 false lcM 12 false (.call 20 (.cons (.var 8) (.cons (.con (.int 2)) .nil)))
def b9e : E := .meth 6 (.var 7) (.cons (.con (.int 2)) .nil)
def h9e : E := .ite (.cmp .ne (.cons (.var 11) (.cons (.lst (.nil)) .nil))) (.idx (.cons (.var 11) (.cons (.lm .index (.var 12) (.cons (.bf .max (.cons (.var 12) .nil)) .nil)) .nil))) (.con (.str [109, 111, 118, 101]))
def g9 : E := .cmp .ne (.cons (.told b9e) (.cons h9e .nil))
def l9 : S := .ite g9 [.ret (.con (.bl false))] []
def lc10 : E := .lc (.one 14) (.seq (.var 11)) (some (.idx (.cons (.call 18 (.cons (.var 8) (.cons (.var 14) .nil))) (.cons (.con (.int 1)) .nil)))) (.var 14)
def g10 : E := .cmp .ne (.cons (.bf .list (.cons (.meth 7 (.var 7) (.nil)) .nil)) (.cons lc10 .nil))
def l10 : S := .ite g10 [.ret (.con (.bl false))] []
def l11 : S := .ite (.no (.call 22 (.cons (.io 1) (.cons (.var 5) (.cons (.var 7) (.cons (.var 8) (.cons (.var 11) .nil))))))) [.ret (.con (.bl false))] []
theorem lwB_end : lwB.drop 3 = [l3, l4, l5, l6, l7, l8, l9, l10, l11] := rfl
theorem ne_two (a b : Int) : cmpB .ne (.tup [.int a, .int b]) (.tup [.int a, .int b]) = some (.bl false) := ne_self (by simp [plain, plains]) (by simp [dep, deps])
theorem cmp_ev {tb : Tb} {cf : CF} {o : Cm} {a b : E} {env : Env} {x y r : D} (h1 : lateOf a = none) (h2 : lateOf b = none) (h3 : evE tb cf a env = .ok x env) (h4 : evE tb cf b env = .ok y env) (h5 : cmpB o x y = some r) : evE tb cf (.cmp o (.cons a (.cons b .nil))) env = .ok r env := by
  rw [y_cmp, y_cons, h1, lateK_none, h3, bind_ok, y_cons, h2, lateK_none, h4, bind_ok, y_nil, bind_ok, bind_ok, bind_ok, two2_2, h5, of_some]
section
variable {x0 y : B} {n : Nat} {t s : Int} {made : List Nat} {cf : CF} {env : Env}
theorem g3_ok (h5 : env.get 5 = some (.int (n : Nat))) (h6 : env.get 6 = some (.int s)) (h7 : env.get 7 = some (bD y)) (h10 : env.get 10 = some (.lst (nats made))) (hn : cf.c 0 11 [.int (n : Nat), .int s] = .ok (bD x0) []) (hs : cf.c 0 12 [bD x0, .lst (nats made)] = .ok (bD y) []) (hk : cf.c 0 10 [bD y] = .ok (keyD y) []) : evE pg.tb cf g3 env = .ok (.bl false) env := by
  have c1 : evE pg.tb cf (.call 11 (.cons (.var 5) (.cons (.var 6) .nil))) env = .ok (bD x0) env := by
    simp [y_call, y_cons, y_nil, y_var, h5, h6, hn]
  have c2 : evE pg.tb cf (.call 12 (.cons (.call 11 (.cons (.var 5) (.cons (.var 6) .nil))) (.cons (.var 10) .nil))) env = .ok (bD y) env := by
    rw [y_call, y_cons, late_call, lateK_none, c1, bind_ok, y_cons, late_var, lateK_none, ev_var h10, bind_ok, y_nil, bind_ok, bind_ok, bind_ok, hs, callRes_ok]
    simp
  have m1 := meth0 cf y (m := 9) (o := .call 12 (.cons (.call 11 (.cons (.var 5) (.cons (.var 6) .nil))) (.cons (.var 10) .nil))) rfl c2 rfl hk rfl
  have m2 := meth0 cf y (m := 9) (o := .var 7) rfl (ev_var h7) rfl hk rfl
  exact cmp_ev rfl rfl m1 m2 (ne_key y)
theorem l4_ev (h8 : env.get 8 = some (sD y)) : evE pg.tb cf (.tup (.cons (.op .add (.cons (.idx (.cons (.var 8) (.cons (.con (.int 2)) .nil))) (.cons (.bf .sum (.cons (.idx (.cons (.var 8) (.cons (.con (.int 0)) .nil))) .nil)) .nil))) (.cons (.op .add (.cons (.idx (.cons (.var 8) (.cons (.con (.int 3)) .nil))) (.cons (.bf .sum (.cons (.idx (.cons (.var 8) (.cons (.con (.int 1)) .nil))) .nil)) .nil))) .nil))) env = .ok (.tup [.int (y.a + y.ms.sum), .int (y.b + y.os.sum)]) env := by
  have u1 := sum_lst y.ms
  have u2 := sum_lst y.os
  simp [y_tup, y_op, y_idx, y_bf, y_cons, y_nil, y_var, y_con, okLen, h8, s_idx, u1, u2]
theorem g5_ok (h3 : env.get 3 = some (.tup [.int (y.a + y.ms.sum), .int (y.b + y.os.sum)])) (h7 : env.get 7 = some (bD y)) (h9 : env.get 9 = some (.bl y.f)) (hc : cf.c 0 4 [bD y] = .ok (if y.f then .tup [.int (y.a + y.ms.sum), .int (y.b + y.os.sum)] else .tup [.int (y.b + y.os.sum), .int (y.a + y.ms.sum)]) []) : evE pg.tb cf g5 env = .ok (.bl false) env := by
  have m := meth0 cf y (m := 3) (o := .var 7) rfl (ev_var h7) rfl hc rfl
  generalize y.a + y.ms.sum = p at *
  generalize y.b + y.os.sum = q at *
  generalize y.f = f at *
  have i0 : idxD (.tup [.int p, .int q]) (.int 0) = some (.int p) := rfl
  have i1 : idxD (.tup [.int p, .int q]) (.int 1) = some (.int q) := rfl
  cases f with
  | true => exact cmp_ev rfl rfl m (by simp [y_ite, y_var, h9, h3]) (ne_two p q)
  | false => exact cmp_ev rfl rfl m (by simp [y_ite, y_var, y_tup, y_idx, y_cons, y_nil, y_con, okLen, h9, h3, i0, i1]) (ne_two q p)
theorem g7_ok (d v : Int) (h4 : env.get 4 = some (.int d)) (h7 : env.get 7 = some (bD y)) (h8 : env.get 8 = some (sD y)) (hc : cf.c 0 6 [bD y, .int d] = .ok (.int v) []) (hl : cf.c 0 19 [sD y, .int d] = .ok (.int v) []) : evE pg.tb cf g7 env = .ok (.bl false) env := by
  have m := meth_ok cf y (m := 5) (f := 6) (o := .var 7) (es := .cons (.var 4) .nil) (env := env) (env1 := env) (env2 := env) rfl (ev_var h7) rfl (by simp [y_cons, y_nil, y_var, h4]) hc (by simp)
  have m2 : evE pg.tb cf (.call 19 (.cons (.var 8) (.cons (.var 4) .nil))) env = .ok (.int v) env := by
    simp [y_call, y_cons, y_nil, y_var, h4, h8, hl]
  exact cmp_ev rfl rfl m m2 (ne_self rfl (by simp [dep]))
theorem g9_ok (h : Ok y n t) (k : Nat) (h7 : env.get 7 = some (bD y)) (h11 : env.get 11 = some (.lst (nats (mv 0 y.ms)))) (h12 : env.get 12 = some (.lst (iz (valI n 1 y)))) : evE pg.tb (lev pg (k + 8)) g9 env = .ok (.bl false) env := by
  have hcond : evE pg.tb (lev pg (k + 8)) (.cmp .ne (.cons (.var 11) (.cons (.lst (.nil)) .nil))) env = .ok (.bl (!(mv 0 y.ms).isEmpty)) env := by
    have hn := ne_nats (mv 0 y.ms)
    simp [y_cmp, y_cons, y_nil, y_var, y_lst, okLen, h11, hn]
  by_cases he : mv 0 y.ms = []
  · have h0 : y.ms.sum = 0 := by
      by_cases z : y.ms.sum = 0
      · exact z
      · exact (mv_ne 0 h.mp z he).elim
    have hb := best_over (x := y) h0 (k + 4) 2
    have hm : pg.tb.meth 8 6 = some 7 := rfl
    have hbd : bD y = .obj 8 [(0, .tup (iz y.ms)), (1, .tup (iz y.os)), (2, .tup [.int y.a, .int y.b]), (3, .bl y.f)] := rfl
    have q : evE pg.tb (lev pg (k + 6)) b9e env = .exc 2 env := by
      generalize lev pg (k + 6) = cf at *
      rw [b9e, y_meth, late_var, lateK_none, ev_var h7, bind_ok]
      rw [hbd] at hb ⊢
      rw [onObj_obj, hm, onSome_some, y_cons, late_con, lateK_none, y_con, bind_ok, y_nil, bind_ok, bind_ok, hb, callRes_exc]
      simp
    refine cmp_ev rfl rfl (told_exc (k + 6) q t2) (y := .str [109, 111, 118, 101]) ?_ (ne_self rfl (by simp [dep]))
    rw [h9e, y_ite, hcond, bind_ok, he]
    simp [y_con]
  · have hsn := sum_ne h.mp he
    have hb := best_ok h hsn k 1
    have hne := val_ne (n := n) (d := 1) h.mp hsn
    have q : evE pg.tb (lev pg (k + 6)) b9e env = .ok (.int (bestI n 1 y : Nat)) env := meth_ok (lev pg (k + 6)) y (m := 6) (f := 7) (o := .var 7) (es := .cons (.con (.int 2)) .nil) (env1 := env) rfl (ev_var h7) rfl (by simp [y_cons, y_nil, y_con]) hb (by simp)
    refine cmp_ev rfl rfl (told_no (k + 6) q) (y := .int (bestI n 1 y : Nat)) ?_ (ne_self rfl (by simp [dep]))
    have hlt : ixI (valI n 1 y) < (mv 0 y.ms).length := by
      have := ixI_lt hne
      rwa [val_len] at this
    have hidx := nats_at' hlt
    have hmx := max_lst hne
    have hix := idx_max hne
    have hbe : (mv 0 y.ms).getD (ixI (valI n 1 y)) 0 = bestI n 1 y := rfl
    rw [hbe] at hidx
    have hi : (!(mv 0 y.ms).isEmpty) = true := by simpa using he
    rw [h9e, y_ite, hcond, bind_ok, hi, onB_bl, cond_true]
    generalize valI n 1 y = vl at *
    generalize bestI n 1 y = bi at *
    generalize ixI vl = jx at *
    generalize maxL vl = mx at *
    have hlm : lmD .index (.lst (iz vl)) [.int mx] = some (.int (jx : Nat)) := hix
    have hlt : lmT .index (.lst (iz vl)) = true := rfl
    simp [y_idx, y_cons, y_nil, y_lm, y_bf, y_var, h11, h12, hmx, hlm, hlt, hidx]
theorem lc10_ok (h : Ok y n t) (hl17 : env.length = 17) (h8 : env.get 8 = some (sD y)) (h11 : env.get 11 = some (.lst (nats (mv 0 y.ms)))) (hc : ∀ i ∈ mv 0 y.ms, cf.c 0 18 [sD y, .int (i : Nat)] = .ok (.tup [sD (sow n y i).1, .bl (sow n y i).2]) []) : evE pg.tb cf lc10 env = .ok (.lst (nats ((mv 0 y.ms).filter fun i => (sow n y i).2))) env := by
  have e1 := h.m
  have e2 := h.h2
  have ml := mv_len y.ms 0
  have i1 : ∀ a b : D, idxD (.tup [a, b]) (.int 1) = some b := fun a b => rfl
  have e := ev_lcM (tb := pg.tb) (cf := cf) (env := env) (env0 := env) (fun (i : Nat) => D.int (i : Int)) (i := 14) (it := .seq (.var 11)) (c := some (.idx (.cons (.call 18 (.cons (.var 8) (.cons (.var 14) .nil))) (.cons (.con (.int 1)) .nil)))) (e := .var 14) (xs := mv 0 y.ms)
    (fun i => if (sow n y i).2 then some (D.int (i : Nat)) else none) (by rw [y_seq, ev_var h11, bind_ok, items_lst, of_some]; rfl) (by simp [okLen]; omega) (fun i hi => by
      have hci := hc i hi
      have g8 : Env.get (List.set env 14 (some (.int (i : Nat)))) 8 = some (sD y) := by
        rw [← h8]; simp [Env.get, List.getElem?_set]
      have g14 : Env.get (List.set env 14 (some (.int (i : Nat)))) 14 = some (.int (i : Nat)) := by
        simp [Env.get, List.getElem?_set, hl17]
      generalize List.set env 14 (some (.int (i : Nat))) = en at *
      cases hs : (sow n y i).2 <;> rw [hs] at hci <;> simp [y_lcTurn, y_c1, y_idx, y_cons, y_nil, y_con, y_var, y_call, g8, g14, hci, i1])
  rw [fm_if (fun i => (sow n y i).2) (fun (i : Nat) => D.int (i : Int))] at e
  exact e
theorem g10_ok (h : Ok y n t) (hl17 : env.length = 17) (h7 : env.get 7 = some (bD y)) (h8 : env.get 8 = some (sD y)) (h11 : env.get 11 = some (.lst (nats (mv 0 y.ms)))) (hst : cf.c 0 8 [bD y] = .ok (.tup (nats ((mv 0 y.ms).filter fun i => (sow n y i).2))) []) (hc : ∀ i ∈ mv 0 y.ms, cf.c 0 18 [sD y, .int (i : Nat)] = .ok (.tup [sD (sow n y i).1, .bl (sow n y i).2]) []) : evE pg.tb cf g10 env = .ok (.bl false) env := by
  have m := meth0 cf y (m := 7) (o := .var 7) rfl (ev_var h7) rfl hst rfl
  have hb : ∀ l, bfD .list [.tup (nats l)] = some (.lst (nats l)) := fun _ => rfl
  have m2 : evE pg.tb cf (.bf .list (.cons (.meth 7 (.var 7) (.nil)) .nil)) env = .ok (.lst (nats ((mv 0 y.ms).filter fun i => (sow n y i).2))) env := by
    rw [y_bf, y_cons, late_meth, lateK_none, m, bind_ok, y_nil, bind_ok, bind_ok, hb, of_some]
  exact cmp_ev rfl rfl m2 (lc10_ok h hl17 h8 h11 hc) (ne_same _)
end
end Bh.K09
/-! text P42 -/
set_option linter.all false
set_option maxRecDepth 100000
set_option maxHeartbeats 4000000
/-! P42: the law holds. -/
namespace Bh.K09
section
variable {n : Nat} {s : Int} (o0 o2 o3 o4 o11 o12 o13 o14 o15 o16 : Option D)
theorem end42 (x0 : B) (made : List Nat) (hx0 : Ok x0 n (2 * n * s)) (hnew : (lev pg 17).c 0 11 [.int (n : Nat), .int s] = .ok (bD x0) []) (hlet : letB n x0 made) (hy : Ok (sownB n x0 made) n (2 * n * s)) (a b c : Int) : ∃ e, evSs pg.tb (lev pg 17) [l3, l4, l5, l6, l7, l8, l9, l10, l11] [o0, some (diceD a b c), o2, o3, o4, some (.int (n : Nat)), some (.int s), some (bD (sownB n x0 made)), some (sD (sownB n x0 made)), some (.bl (sownB n x0 made).f), some (.lst (nats made)), o11, o12, o13, o14, o15, o16] = .nx e := by
  have hsn := sown_ok hx0 hlet 13 (.lst (nats made)) rfl
  generalize sownB n x0 made = y at *
  have q3 := g3_ok (x0 := x0) (y := y) (n := n) (s := s) (made := made) (cf := lev pg 17) (env := [o0, some (diceD a b c), o2, o3, o4, some (.int (n : Nat)), some (.int s), some (bD y), some (sD y), some (.bl y.f), some (.lst (nats made)), o11, o12, o13, o14, o15, o16]) rfl rfl rfl rfl hnew hsn (key_ok 16)
  have q4 := l4_ev (y := y) (cf := lev pg 17) (env := [o0, some (diceD a b c), o2, o3, o4, some (.int (n : Nat)), some (.int s), some (bD y), some (sD y), some (.bl y.f), some (.lst (nats made)), o11, o12, o13, o14, o15, o16]) rfl
  have q5 := g5_ok (y := y) (cf := lev pg 17) (env := [o0, some (diceD a b c), o2, some (.tup [.int (y.a + y.ms.sum), .int (y.b + y.os.sum)]), o4, some (.int (n : Nat)), some (.int s), some (bD y), some (sD y), some (.bl y.f), some (.lst (nats made)), o11, o12, o13, o14, o15, o16]) rfl rfl rfl (totals_ok 16)
  generalize hT : (D.tup [.int (y.a + y.ms.sum), .int (y.b + y.os.sum)]) = T3 at *
  obtain ⟨r, a1, b1, c1, r0, r1, hr⟩ := roll_ev 16 (e := .con (.int 4)) (env := [o0, some (diceD a b c), o2, some T3, o4, some (.int (n : Nat)), some (.int s), some (bD y), some (sD y), some (.bl y.f), some (.lst (nats made)), o11, o12, o13, o14, o15, o16]) (j := 1) (by decide) (by decide) rfl rfl rfl rfl y_con
  obtain ⟨d, hd⟩ : ∃ d : Nat, r = (d : Int) := ⟨r.toNat, by omega⟩
  subst hd
  have hd3 : d ≤ 3 := by omega
  have k1 : (lev pg 17).c 0 6 [bD y, .int (d : Nat)] = .ok (.int (lookI n d y)) [] := by
    have := look_ok d (13 - d) hy
    rw [show 13 - d + d + 4 = 17 by omega] at this
    exact this
  have k2 : (lev pg 17).c 0 19 [sD y, .int (d : Nat)] = .ok (.int (lookI n d y)) [] := by
    have := llook_ok d (16 - 2 * d) hy
    rw [show 16 - 2 * d + 2 * d + 1 = 17 by omega] at this
    exact this
  have q7 := g7_ok (y := y) (cf := lev pg 17) (env := [o0, some (diceD a1 b1 c1), o2, some T3, some (.int (d : Nat)), some (.int (n : Nat)), some (.int s), some (bD y), some (sD y), some (.bl y.f), some (.lst (nats made)), o11, o12, o13, o14, o15, o16]) (d : Int) (lookI n d y) rfl rfl rfl k1 k2
  have q8 := lcM_ok (cf := lev pg 17) (env := [o0, some (diceD a1 b1 c1), o2, some T3, some (.int (d : Nat)), some (.int (n : Nat)), some (.int s), some (bD y), some (sD y), some (.bl y.f), some (.lst (nats made)), o11, o12, o13, o14, o15, o16]) hy rfl rfl rfl
  have hv : (lev pg 17).c 0 20 [sD y, .int 2] = .ok (.lst (iz (valI n 1 y))) [] := lval_ok 1 13 hy
  have q9 := g9_ok (env := [o0, some (diceD a1 b1 c1), o2, some T3, some (.int (d : Nat)), some (.int (n : Nat)), some (.int s), some (bD y), some (sD y), some (.bl y.f), some (.lst (nats made)), some (.lst (nats (mv 0 y.ms))), some (.lst (iz (valI n 1 y))), o13, o14, o15, o16]) hy 9 rfl rfl rfl
  have q10 := g10_ok (cf := lev pg 17) (env := [o0, some (diceD a1 b1 c1), o2, some T3, some (.int (d : Nat)), some (.int (n : Nat)), some (.int s), some (bD y), some (sD y), some (.bl y.f), some (.lst (nats made)), some (.lst (nats (mv 0 y.ms))), some (.lst (iz (valI n 1 y))), o13, o14, o15, o16]) hy rfl rfl rfl rfl (to_store_ok hy 13) (fun i hi => by
    have e1 := hy.m
    have hlt := ((mem_mv y.ms 0 i).mp hi).2.1
    exact lsow_ok hy 16 (by omega))
  obtain ⟨a2, b2, c2, hrest⟩ := rest_ok hy 10 a1 b1 c1
  have hrest : (lev pg 17).c 0 22 [diceD a1 b1 c1, .int (n : Nat), bD y, sD y, .lst (nats (mv 0 y.ms))] = .ok (.bl true) [diceD a2 b2 c2] := hrest
  refine ⟨[o0, some (diceD a2 b2 c2), o2, some T3, some (.int (d : Nat)), some (.int (n : Nat)), some (.int s), some (bD y), some (sD y), some (.bl y.f), some (.lst (nats made)), some (.lst (nats (mv 0 y.ms))), some (.lst (iz (valI n 1 y))), o13, o14, o15, o16], ?_⟩
  have q9 : evE pg.tb (lev pg 17) g9 [o0, some (diceD a1 b1 c1), o2, some T3, some (.int (d : Nat)), some (.int (n : Nat)), some (.int s), some (bD y), some (sD y), some (.bl y.f), some (.lst (nats made)), some (.lst (nats (mv 0 y.ms))), some (.lst (iz (valI n 1 y))), o13, o14, o15, o16] = .ok (.bl false) [o0, some (diceD a1 b1 c1), o2, some T3, some (.int (d : Nat)), some (.int (n : Nat)), some (.int s), some (bD y), some (sD y), some (.bl y.f), some (.lst (nats made)), some (.lst (nats (mv 0 y.ms))), some (.lst (iz (valI n 1 y))), o13, o14, o15, o16] := q9
  have hr : evE pg.tb (lev pg 17) (.call 17 (.cons (.io 1) (.cons (.con (.int 4)) .nil))) [o0, some (diceD a b c), o2, some T3, o4, some (.int (n : Nat)), some (.int s), some (bD y), some (sD y), some (.bl y.f), some (.lst (nats made)), o11, o12, o13, o14, o15, o16] = .ok (.int (d : Nat)) [o0, some (diceD a1 b1 c1), o2, some T3, o4, some (.int (n : Nat)), some (.int s), some (bD y), some (sD y), some (.bl y.f), some (.lst (nats made)), o11, o12, o13, o14, o15, o16] := hr
  generalize lev pg 17 = cf at *
  have s4 : evS pg.tb cf l4 [o0, some (diceD a b c), o2, o3, o4, some (.int (n : Nat)), some (.int s), some (bD y), some (sD y), some (.bl y.f), some (.lst (nats made)), o11, o12, o13, o14, o15, o16] = .nx [o0, some (diceD a b c), o2, some T3, o4, some (.int (n : Nat)), some (.int s), some (bD y), some (sD y), some (.bl y.f), some (.lst (nats made)), o11, o12, o13, o14, o15, o16] := by
    rw [l4, z_set, q4, o_ok]
    rfl
  have s6 : evS pg.tb cf l6 [o0, some (diceD a b c), o2, some T3, o4, some (.int (n : Nat)), some (.int s), some (bD y), some (sD y), some (.bl y.f), some (.lst (nats made)), o11, o12, o13, o14, o15, o16] = .nx [o0, some (diceD a1 b1 c1), o2, some T3, some (.int (d : Nat)), some (.int (n : Nat)), some (.int s), some (bD y), some (sD y), some (.bl y.f), some (.lst (nats made)), o11, o12, o13, o14, o15, o16] := by
    rw [l6, z_set, hr, o_ok]
    rfl
  have s8 : evS pg.tb cf l8 [o0, some (diceD a1 b1 c1), o2, some T3, some (.int (d : Nat)), some (.int (n : Nat)), some (.int s), some (bD y), some (sD y), some (.bl y.f), some (.lst (nats made)), o11, o12, o13, o14, o15, o16] = .nx [o0, some (diceD a1 b1 c1), o2, some T3, some (.int (d : Nat)), some (.int (n : Nat)), some (.int s), some (bD y), some (sD y), some (.bl y.f), some (.lst (nats made)), some (.lst (nats (mv 0 y.ms))), some (.lst (iz (valI n 1 y))), o13, o14, o15, o16] := by
    have hvE : evE pg.tb cf (.call 20 (.cons (.var 8) (.cons (.con (.int 2)) .nil))) [o0, some (diceD a1 b1 c1), o2, some T3, some (.int (d : Nat)), some (.int (n : Nat)), some (.int s), some (bD y), some (sD y), some (.bl y.f), some (.lst (nats made)), o11, o12, o13, o14, o15, o16] = .ok (.lst (iz (valI n 1 y))) [o0, some (diceD a1 b1 c1), o2, some T3, some (.int (d : Nat)), some (.int (n : Nat)), some (.int s), some (bD y), some (sD y), some (.bl y.f), some (.lst (nats made)), o11, o12, o13, o14, o15, o16] := by
      rw [y_call, y_cons, late_var, lateK_none, ev_var (d := sD y) rfl, bind_ok, y_cons, late_con, lateK_none, y_con, bind_ok, y_nil, bind_ok, bind_ok, bind_ok, hv, callRes_ok, lentOk_cons, lentOk_cons, lentOk_nil]
      rfl
    rw [l8, z_par2, q8, o_ok, hvE, o_ok]
    rfl
  have s11 : evS pg.tb cf l11 [o0, some (diceD a1 b1 c1), o2, some T3, some (.int (d : Nat)), some (.int (n : Nat)), some (.int s), some (bD y), some (sD y), some (.bl y.f), some (.lst (nats made)), some (.lst (nats (mv 0 y.ms))), some (.lst (iz (valI n 1 y))), o13, o14, o15, o16] = .nx [o0, some (diceD a2 b2 c2), o2, some T3, some (.int (d : Nat)), some (.int (n : Nat)), some (.int s), some (bD y), some (sD y), some (.bl y.f), some (.lst (nats made)), some (.lst (nats (mv 0 y.ms))), some (.lst (iz (valI n 1 y))), o13, o14, o15, o16] := by
    have hg : Env.get [o0, some (diceD a1 b1 c1), o2, some T3, some (.int (d : Nat)), some (.int (n : Nat)), some (.int s), some (bD y), some (sD y), some (.bl y.f), some (.lst (nats made)), some (.lst (nats (mv 0 y.ms))), some (.lst (iz (valI n 1 y))), o13, o14, o15, o16] 1 = some (diceD a1 b1 c1) := rfl
    have hcall : evE pg.tb cf (.call 22 (.cons (.io 1) (.cons (.var 5) (.cons (.var 7) (.cons (.var 8) (.cons (.var 11) .nil)))))) [o0, some (diceD a1 b1 c1), o2, some T3, some (.int (d : Nat)), some (.int (n : Nat)), some (.int s), some (bD y), some (sD y), some (.bl y.f), some (.lst (nats made)), some (.lst (nats (mv 0 y.ms))), some (.lst (iz (valI n 1 y))), o13, o14, o15, o16] = .ok (.bl true) [o0, some (diceD a2 b2 c2), o2, some T3, some (.int (d : Nat)), some (.int (n : Nat)), some (.int s), some (bD y), some (sD y), some (.bl y.f), some (.lst (nats made)), some (.lst (nats (mv 0 y.ms))), some (.lst (iz (valI n 1 y))), o13, o14, o15, o16] := by
      rw [y_call, y_cons, late_io, lateK_some, hg, of_some, bind_ok, y_cons, late_var, lateK_none, ev_var (d := .int (n : Nat)) rfl, bind_ok, y_cons, late_var, lateK_none, ev_var (d := bD y) rfl, bind_ok, y_cons, late_var, lateK_none, ev_var (d := sD y) rfl, bind_ok, y_cons, late_var, lateK_none, ev_var (d := .lst (nats (mv 0 y.ms))) rfl, bind_ok, y_nil, bind_ok, bind_ok, bind_ok, bind_ok, bind_ok, hg, of_some, bind_ok, bind_ok, hrest, callRes_ok]
      rfl
    rw [l11, z_ite, y_no, hcall, bind_ok, notD_bl, of_some, o_ok, onBO_bl]
    rfl
  rw [z_cons, l3, ite_no q3, seq_nx, z_cons, s4, seq_nx, z_cons, l5, ite_no q5, seq_nx, z_cons, s6, seq_nx, z_cons, l7, ite_no q7, seq_nx, z_cons, s8, seq_nx, z_cons, l9, ite_no q9, seq_nx, z_cons, l10, ite_no q10, seq_nx, z_cons, s11, seq_nx, z_nil]
end
theorem lw_ok (a b c : Int) : ∃ e, evSs pg.tb (lev pg 17) lwB (Env.put (List.replicate 17 none) 1 (diceD a b c)) = .nx e := by
  obtain ⟨n, s, a1, b1, c1, n1, n2, s1, s2, e0⟩ := l0_ok none none none none none none none none none none none none none none none none 16 a b c
  have hx0 := newB_ok n1 n2 s1 s2
  obtain ⟨made, a2, b2, c2, q2, q11, q13, q15, q16, g0, g1, g2, e2⟩ := l2_ok none none none none none none none none none none (newB n s) hx0 rfl 14 a1 b1 c1
  obtain ⟨e, he⟩ := end42 none q2 none none q11 none q13 none q15 q16 (newB n s) made hx0 (new_ok n1 n2 s1 s2 14) g1 g2 a2 b2 c2
  refine ⟨e, ?_⟩
  have e1 := l1_ok none none none none none none none none none none none none none none n1 n2 s1 s2 14 (diceD a1 b1 c1)
  show evSs pg.tb (lev pg 17) lwB [none, some (diceD a b c), none, none, none, none, none, none, none, none, none, none, none, none, none, none, none] = _
  have e0 : evS pg.tb (lev pg 17) l0 [none, some (diceD a b c), none, none, none, none, none, none, none, none, none, none, none, none, none, none, none] = _ := e0
  have e1 : evS pg.tb (lev pg 17) l1 _ = _ := e1
  have e2 : evS pg.tb (lev pg 17) l2 _ = _ := e2
  generalize lev pg 17 = cf at *
  rw [lwB_012, z_cons, e0, seq_nx, z_cons, e1, seq_nx, z_cons, e2, seq_nx, lwB_end, he]
end Bh.K09
/-! text K09end -/
set_option Elab.async false
set_option maxRecDepth 1000000
set_option maxHeartbeats 4000000
namespace Bh.K09
open PySem PySem.W L2 PyProof.Rows
def nms : Nms where
  gn := []
  dn := ["__init__", "moves", "sow", "is_over", "totals", "seeds", "look", "best", "to_store", "most_now", "key", "new_sowing", "sown", "played_out", "marching", "until_same", "_law_dice", "_law_roll", "_law_sow", "_law_look", "_law_values", "_law_cases1", "_law_rest1"]
  pl := [some 8, some 8, some 8, some 8, some 8, some 8, some 8, some 8, some 8, some 8, some 8, none, none, none, none, none, none, none, none, none, none, none, none]
  nm := [["self", "mine", "others", "stores", "first"], ["self", "k", "many"], ["self", "hole", "size", "ring", "k", "again", "stores", "many", "place", "mine", "others"], ["self"], ["self", "mine", "others"], ["self"], ["self", "depth", "best", "hole", "value", "after", "again"], ["self", "depth", "values", "hole", "value", "after", "again"], ["self", "hole"], ["self", "best", "work", "hole", "here", "holes", "gained", "way", "after", "again"], ["self"], ["holes", "seeds"], ["board", "holes", "hole"], ["board", "depth", "most", "holes"], ["seeds", "turns", "here", "found", "k", "place", "many"], ["seeds", "most", "rows", "k", "row", "first"], ["cell"], ["dice", "many", "found"], ["state", "hole", "size", "k", "last", "mine", "others", "stored", "theirs", "ring", "many"], ["state", "depth", "mine", "others", "stored", "theirs"], ["state", "depth", "found", "hole", "k", "after", "again"], [], ["dice", "holes", "board", "state", "moves", "turn", "rows", "k", "round_rows", "work", "ways", "fresh", "over", "turns", "heaps", "many", "start", "size", "here", "way", "hole", "rest", "row", "after", "again", "j"]]
  tl := [false, false, false, false, false, false, false, false, false, false, false, false, false, false, false, false, false, false, false, false, false, true, true]
  cn := ["BoardFault", "BadSpot", "BadMove", "BadCount", "BadRow", "NoWay", "TooLarge", "BadText", "Sowing"]
  exs := [1, 2, 3, 4, 5, 6]
  mn := ["moves", "sow", "is_over", "totals", "seeds", "look", "best", "to_store", "most_now", "key"]
  fn := ["mine", "others", "stores", "first"]
  told := "_law_told"
  ex := ["law"]
def law : Lw := ⟨rwOf tab nms, "_law_rounds", ["script", "most", "cells", "cell"], rdB, ["script", "dice", "step", "ends", "depth", "holes", "seeds", "board", "state", "first", "made", "moves", "values", "hole", "k", "again", "told"], [1], lwB, 1, true⟩
theorem good : law.Good 16 := ⟨rd_ok, lw_ok⟩
end Bh.K09
open PySem PySem.W PyProof.Rows
set_option maxRecDepth 100000 in
set_option maxHeartbeats 0 in
theorem PySem.Challenge.cw_boardhall_k09_sows_holds : PySem.Challenge.rw_boardhall_k09_sows.Holds := by
  w_on; o_law; k_head; (case hw => w_witness2)
  k_fill
  refine LamX.walk_ofTs (l := PySem.Challenge.rw_boardhall_k09_sows) (n := 63) (k := 18) (x := "script") (CX := fun w => L2.CX PySem.Challenge.rw_boardhall_k09_sows.prog w) rfl (by decide) rfl ⟨rfl, by decide, by decide⟩ (fun w h Y => PySem.W.km_in_of Y) ?F (fun w => Bh.cx_no w)
  case F =>
    intro w mg fa h Y KX G hmg
    exact Bh.law_at (L := Bh.K09.law) (Bh.rwOf_ok rfl rfl) Bh.K09.good KX G (PySem.W.km_tabs_of Y) (by kernel_rfl) hmg
