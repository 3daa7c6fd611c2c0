import PyProof.Rows.All
import Wide.All
import OpenK.AllK
import Wide.FinOn
import PySem.Challenge.RW_boardhall_k16_hunts
import HandS.Words
import HandS.ForMost
import HandS.ForExc
import KE.DataEq
import KE.SortData
import HandS.TupAny
import HandS.Lambda
import KE.KDictKeyed
import KE.KDictPairs
import HandS.ExcOwn
import HandS.CallSlots
import HandS.NoneIn
import HandS.TryMany
import HandS.EndTab
/-! text Bh1 -/
set_option linter.all false
set_option maxRecDepth 100000
/-! Bh1: data, core syntax, and the evaluator. Plain Lean: no program of the row in sight. -/
namespace Bh

/-! ### data -/
inductive D where
  | non
  | bl (b : Bool)
  | int (i : Int)
  | str (s : List Nat)
  | tup (xs : List D)
  | lst (xs : List D)
  | dct (kvs : List (D × D))
  | obj (c : Nat) (fs : List (Nat × D))
  deriving Inhabited

/-- True is 1 -/
def b2i (b : Bool) : Int := if b then 1 else 0
mutual
def eqv : D → D → Bool
  | .non, .non => true
  | .bl a, .bl b => a == b
  | .bl a, .int j => b2i a == j
  | .int i, .bl b => i == b2i b
  | .int i, .int j => i == j
  | .str x, .str y => x == y
  | .lst xs, .lst ys => eqvs xs ys
  | .tup xs, .tup ys => eqvs xs ys
  | _, _ => false
def eqvs : List D → List D → Bool
  | [], [] => true
  | x :: xs, y :: ys => eqv x y && eqvs xs ys
  | _, _ => false
end
mutual
/-- how deep -/
def dep : D → Nat
  | .tup xs => deps xs + 1
  | .lst xs => deps xs + 1
  | _ => 0
def deps : List D → Nat
  | [] => 0
  | x :: xs => max (dep x) (deps xs)
end
mutual
/-- no dict, no object within -/
def plain : D → Bool
  | .tup xs => plains xs
  | .lst xs => plains xs
  | .dct _ => false
  | .obj _ _ => false
  | _ => true
def plains : List D → Bool
  | [] => true
  | x :: xs => plain x && plains xs
end
/-- what == may be asked of -/
def eqOk (a b : D) : Bool := plain a && plain b && decide (min (dep a) (dep b) ≤ 100)
/-- the least size that is too much: 2 ^ 24 -/
def okLen (n : Nat) : Bool := decide (n ≤ 16777216)

/-! ### places, slices -/
def ixN (n : Nat) (i : Int) : Option Nat := if 0 ≤ i then (if i < n then some i.toNat else none) else if -(n : Int) ≤ i then some (i + n).toNat else none
def atI {α : Type} (xs : List α) (i : Int) : Option α := (ixN xs.length i).bind fun j => xs[j]?
def sIx (n d : Nat) : Option Int → Nat
  | none => d
  | some v => if v < 0 then (v + n).toNat else min v.toNat n
def cut {α : Type} (xs : List α) (lo hi : Option Int) : List α := (xs.drop (sIx xs.length 0 lo)).take (sIx xs.length xs.length hi - sIx xs.length 0 lo)
def part : D → Option (Option Int)
  | .non => some none
  | .int i => some (some i)
  | _ => none

/-! ### dicts: pairs in the order of insertion -/
/-- what may be a key: intsD, texts, or tuples of such -/
inductive Kk | flat | tup | bad
mutual
def keyOk : D → Bool
  | .int _ => true
  | .str _ => true
  | .tup xs => keyOks xs
  | .non => true
  | _ => false
def keyOks : List D → Bool
  | [] => true
  | x :: xs => keyOk x && keyOks xs
end
def isFlat : D → Bool
  | .int _ => true
  | .str _ => true
  | _ => false
def isTup : D → Bool
  | .tup _ => true
  | _ => false
/-- a key beside the keys of a dict: all ints and texts, or all tuples, not deeper than 8 -/
def keyFits (k : D) (kvs : List (D × D)) : Bool :=
  (isFlat k && kvs.all fun p => isFlat p.1) || (isTup k && keyOk k && decide (dep k ≤ 8) && kvs.all fun p => isTup p.1)
def dlook (k : D) : List (D × D) → Option D
  | [] => none
  | (a, v) :: r => if eqv a k then some v else dlook k r
def dput (k v : D) : List (D × D) → List (D × D)
  | [] => [(k, v)]
  | (a, u) :: r => if eqv a k then (a, v) :: r else (a, u) :: dput k v r
def ddel (k : D) : List (D × D) → List (D × D)
  | [] => []
  | (a, u) :: r => if eqv a k then r else (a, u) :: ddel k r
/-- dict(pairs) -/
def dmake : List D → List (D × D) → Option (List (D × D))
  | [], acc => some acc
  | .tup [k, v] :: r, acc => if keyFits k acc then dmake r (dput k v acc) else none
  | _ :: _, _ => none

/-- a tuple that may be a key -/
def keyT (k : D) : Bool := isTup k && keyOk k && decide (dep k ≤ 8)
/-- dict(pairs), the keys being tuples -/
def dmkT : List D → List (D × D) → Option (List (D × D))
  | [], acc => some acc
  | .tup [k, v] :: r, acc => if keyT k then dmkT r (dput k v acc) else none
  | _ :: _, _ => none
def dictD : D → Option D
  | .lst xs => (dmkT xs []).map .dct
  | _ => none

/-! ### operators -/
inductive Op2 | add | sub | mul | fdiv | mod | pow
inductive Cm | eq | ne | lt | le | gt | ge | isin | notin | is | isnot

def small64 (i : Int) : Bool := decide (-(2 ^ 64) < i) && decide (i < 2 ^ 64)
def addD : D → D → Option D
  | .int i, .int j => some (.int (i + j))
  | .str a, .str b => if okLen (a.length + b.length) then some (.str (a ++ b)) else none
  | .tup a, .tup b => if okLen (a.length + b.length) then some (.tup (a ++ b)) else none
  | .lst a, .lst b => if okLen (a.length + b.length) then some (.lst (a ++ b)) else none
  | _, _ => none
def subD : D → D → Option D
  | .int i, .int j => some (.int (i - j))
  | _, _ => none
def mulD : D → D → Option D
  | .int i, .int j => if small64 i || small64 j then some (.int (i * j)) else none
  | .lst a, .int k => if decide (-(2 ^ 62) ≤ k) && decide (k < 2 ^ 62) && okLen (a.length * k.toNat) then some (.lst (List.replicate k.toNat a).flatten) else none
  | _, _ => none
def fdivD : D → D → Option D
  | .int i, .int j => if decide (0 < j) && decide (j < 1073741824) then some (.int (i / j)) else none
  | _, _ => none
def modD : D → D → Option D
  | .int i, .int j => if decide (0 < j) then some (.int (i % j)) else none
  | _, _ => none
def powD : D → D → Option D
  | .int i, .int j => if small64 i && decide (0 ≤ j) && decide (j ≤ 1000000) then some (.int (i ^ j.toNat)) else none
  | _, _ => none
def opD : Op2 → D → D → Option D
  | .add => addD
  | .sub => subD
  | .mul => mulD
  | .fdiv => fdivD
  | .mod => modD
  | .pow => powD

def intC (p : Int → Int → Bool) : D → D → Option Bool
  | .int i, .int j => some (p i j)
  | _, _ => none
def inD : D → D → Option Bool
  | a, .tup xs => if plain a && plains xs && decide (dep a ≤ 100) then some (xs.any fun x => eqv x a) else none
  | a, .lst xs => if plain a && plains xs && decide (dep a ≤ 100) then some (xs.any fun x => eqv x a) else none
  | _, _ => none
def isNonD : D → D → Option Bool
  | .non, .non => some true
  | _, .non => some false
  | _, _ => none
def cmpD : Cm → D → D → Option Bool
  | .eq => fun a b => if eqOk a b then some (eqv a b) else none
  | .ne => fun a b => if eqOk a b then some (!eqv a b) else none
  | .lt => intC fun i j => decide (i < j)
  | .le => intC fun i j => decide (i ≤ j)
  | .gt => intC fun i j => decide (j < i)
  | .ge => intC fun i j => decide (j ≤ i)
  | .isin => inD
  | .notin => fun a b => (inD a b).map (!·)
  | .is => isNonD
  | .isnot => fun a b => (isNonD a b).map (!·)

def idxD : D → D → Option D
  | .lst xs, .int i => atI xs i
  | .tup xs, .int i => atI xs i
  | .str s, .int i => if okLen s.length then (atI s i).map fun c => .str [c] else none
  | _, _ => none
def sliceD (a : D) (lo hi : Option Int) : Option D := match a with
  | .lst xs => some (.lst (cut xs lo hi))
  | .tup xs => some (.tup (cut xs lo hi))
  | .str s => if okLen s.length then some (.str (cut s lo hi)) else none
  | _ => none

/-! ### built-in functions -/
inductive Bf | len | abs | int | list | tuple | sorted | max | min | dict
def intsD : List D → Option (List Int)
  | [] => some []
  | .int i :: r => (intsD r).map (i :: ·)
  | _ :: _ => none
/-! the order of data: by tokens -/
mutual
def toks : D → List (Int ⊕ List Nat)
  | .bl b => [.inl (b2i b)]
  | .int n => [.inl n]
  | .str x => [.inr x]
  | .lst xs => tokss xs
  | .tup xs => tokss xs
  | _ => []
def tokss : List D → List (Int ⊕ List Nat)
  | [] => [.inl 0]
  | x :: xs => .inl 1 :: (toks x ++ tokss xs)
end
def ltNs (a b : List Nat) : Bool := decide (a < b)
def ltTok : Int ⊕ List Nat → Int ⊕ List Nat → Bool
  | .inl a, .inl b => decide (a < b)
  | .inl _, .inr _ => true
  | .inr _, .inl _ => false
  | .inr a, .inr b => ltNs a b
def ltToks : List (Int ⊕ List Nat) → List (Int ⊕ List Nat) → Bool
  | [], [] => false
  | [], _ :: _ => true
  | _ :: _, [] => false
  | x :: r, y :: t => ltTok x y || (!ltTok y x && ltToks r t)
def leD (a b : D) : Bool := !ltToks (toks b) (toks a)
mutual
/-- of one shape -/
def alike : D → D → Bool
  | .non, .non => true
  | .bl _, .bl _ => true
  | .int _, .int _ => true
  | .str _, .str _ => true
  | .lst xs, .lst ys => alikes xs ys
  | .tup xs, .tup ys => alikes xs ys
  | _, _ => false
def alikes : List D → List D → Bool
  | x :: xs, y :: ys => alike x y && alikes xs ys
  | [], _ => true
  | _ :: _, [] => true
end
def tup1 : D → Bool
  | .tup (_ :: _) => true
  | _ => false
def noTup : D → Bool
  | .tup _ => false
  | .non => false
  | _ => true
/-- all of one shape: tuples with an item at least, or neither tuples nor None -/
def sortable (xs : List D) : Bool := xs.all (fun a => xs.all (alike a)) && xs.all (fun a => plain a && decide (dep a ≤ 100)) && (xs.all tup1 || xs.all noTup)
def insD (x : D) : List D → List D
  | [] => [x]
  | y :: ys => if leD x y then x :: y :: ys else y :: insD x ys
def sortD : List D → List D
  | [] => []
  | x :: xs => insD x (sortD xs)
def maxI : List Int → Option Int
  | [] => none
  | x :: xs => some (xs.foldl (fun m y => if y > m then y else m) x)
def minI : List Int → Option Int
  | [] => none
  | x :: xs => some (xs.foldl (fun m y => if y < m then y else m) x)
def itemsD : D → Option (List D)
  | .lst xs => some xs
  | .tup xs => some xs
  | _ => none
def lenD : D → Option Nat
  | .lst xs => some xs.length
  | .tup xs => some xs.length
  | .str s => if okLen s.length then some s.length else none
  | .dct kvs => some kvs.length
  | _ => none
def absD : List D → Option D
  | [.int i] => some (.int (if i < 0 then -i else i))
  | _ => none
def intD : List D → Option D
  | [.int i] => some (.int i)
  | [.bl b] => some (.int (if b then 1 else 0))
  | _ => none
def one1 (g : D → Option D) : List D → Option D
  | [d] => g d
  | _ => none
def maxD : List D → Option D
  | [.int i, .int j] => some (.int (if j > i then j else i))
  | [.lst xs] => (intsD xs).bind fun ns => (maxI ns).map .int
  | _ => none
def minD : List D → Option D
  | [.int i, .int j] => some (.int (if j < i then j else i))
  | [.lst xs] => (intsD xs).bind fun ns => (minI ns).map .int
  | _ => none
def bfD : Bf → List D → Option D
  | .len => one1 fun d => (lenD d).map fun n => .int n
  | .abs => absD
  | .int => intD
  | .list => one1 fun d => (itemsD d).map .lst
  | .tuple => one1 fun d => (itemsD d).map .tup
  | .sorted => one1 fun d => (itemsD d).bind fun xs => if sortable xs then some (.lst (sortD xs)) else none
  | .max => maxD
  | .min => minD
  | .dict => one1 dictD

/-! ### methods -/
/-- methods that change an owned slot's list or dict: what is handed back, what it is then -/
inductive Mm | append | pop | popAt
def appD : D → List D → Option (D × D)
  | .lst xs, [v] => if okLen (xs.length + 1) then some (.non, .lst (xs ++ [v])) else none
  | _, _ => none
def popD : D → List D → Option (D × D)
  | .lst xs, [] => match xs.getLast? with
    | some v => some (v, .lst xs.dropLast)
    | none => none
  | _, _ => none
def popAtD : D → List D → Option (D × D)
  | .lst xs, [.int i] => (ixN xs.length i).bind fun j => (xs[j]?).map fun v => (v, .lst (xs.eraseIdx j))
  | _, _ => none
def mmD : Mm → D → List D → Option (D × D)
  | .append => appD
  | .pop => popD
  | .popAt => popAtD

/-! ### core syntax -/
/-- targets -/
inductive T | one (i : Nat) | many (is : List Nat)
mutual
inductive E where
  | var (i : Nat) | own (i : Nat)
  | con (d : D) | glob (g : Nat)
  | op (o : Op2) (es : Es) | cmp (c : Cm) (es : Es) | chain (c1 c2 : Cm) (es : Es) (c : E)
  | neg (a : E) | no (a : E) | and (a b : E) | or (a b : E) | ite (c a b : E)
  | tup (es : Es) | lst (es : Es)
  | idx (es : Es) | slice (es : Es) (lo hi : Option Int)
  | bf (f : Bf) (es : Es) | mm (m : Mm) (i : Nat) (es : Es)
  | call (f : Nat) (es : Es) | meth (m : Nat) (o : E) (es : Es) | make (c : Nat) (es : Es)
  | io (i : Nat) | bor (i : Nat)
  | fld (es : Es) (f : Nat)
  | lc (t : T) (it : It) (c : Option E) (e : E)
  | told (e : E)
  | pick (ks : List (List Nat)) (es : Es) (k : E)
inductive Es where
  | nil | cons (e : E) (es : Es)
inductive It where
  | seq (e : E) | rng1 (a : E) | rng2 (es : Es)
end
inductive S where
  | set (i : Nat) (e : E) | thaw (i : Nat) (e : E) | bind (is : List Nat) (e : E)
  | par2 (i : Nat) (fi : Bool) (a : E) (j : Nat) (fj : Bool) (b : E)
  | aug (i : Nat) (o : Op2) (e : E)
  | setIx (i : Nat) (k v : E)
  | setFld (i f : Nat) (e : E)
  | expr (e : E) | ret (e : E) | retO (i : Nat) | raise (c : Nat) | pass | brk | cont
  | ite (c : E) (a b : List S)
  | whil (n : Nat) (c : E) (b : List S)
  | fors (t : T) (it : It) (b : List S)

/-! ### results -/
abbrev Env := List (Option D)
inductive R (α : Type) where
  | ok (a : α) (e : Env) | exc (c : Nat) (e : Env) | err
def R.bind {α β : Type} : R α → (α → Env → R β) → R β
  | .ok a e, k => k a e
  | .exc c e, _ => .exc c e
  | .err, _ => .err
def R.of {α : Type} (o : Option α) (e : Env) : R α := match o with
  | some a => .ok a e
  | none => .err
/-- a call's result: what is handed back, what the inout parameters are then -/
inductive CR where
  | ok (r : D) (outs : List D) | exc (c : Nat) (outs : List D) | err
/-- what a call of a def gives, at each level downwards -/
structure CF where
  lv : Nat
  c : Nat → Nat → List D → CR
def noC : Nat → List D → CR := fun _ _ => .err
def low (c : CF) : CF := ⟨c.lv - 2, fun j => c.c (j + 2)⟩
/-- what the program's tables say -/
structure Tb where
  glob : Nat → Option D
  meth : Nat → Nat → Option Nat
  init : Nat → Option Nat
  told : Nat → Option D
  fresh : Nat → Bool
  fld : Nat → Nat → Bool

def Env.get (env : Env) (i : Nat) : Option D := (env[i]?).getD none
def Env.put (env : Env) (i : Nat) (d : D) : Env := env.set i (some d)
def lateOf : E → Option Nat
  | .own i => some i
  | .io i => some i
  | .bor i => some i
  | _ => none
/-- the inout arguments' slots behind a call -/
def putBack : Es → List D → Env → Env
  | .cons (.io i) es, o :: os, env => putBack es os (env.put i o)
  | .cons _ es, os, env => putBack es os env
  | .nil, _, env => env
/-- the kind of a thing that may be changed -/
def kindOf : D → Nat
  | .lst _ => 1
  | .dct _ => 2
  | .obj _ _ => 3
  | _ => 0
mutual
def hasK (k : Nat) : D → Bool
  | .tup xs => hasKs k xs
  | .lst xs => k == 1 || hasKs k xs
  | .dct _ => true
  | .obj _ _ => true
  | _ => false
def hasKs (k : Nat) : List D → Bool
  | [] => false
  | x :: xs => hasK k x || hasKs k xs
end
/-- what was lent does not come back -/
def lentOk : Es → List D → D → Bool
  | .cons (.bor _) es, d :: ds, r => !hasK (kindOf d) r && lentOk es ds r
  | .cons _ es, _ :: ds, r => lentOk es ds r
  | _, _, _ => true
/-- within it -/
def kidK (k : Nat) : D → Bool
  | .lst xs => hasKs k xs
  | _ => true
/-- nor is it within what was changed -/
def lentOut : Es → List D → D → Bool
  | .cons (.bor _) es, d :: ds, r => !kidK (kindOf d) r && lentOut es ds r
  | .cons _ es, _ :: ds, r => lentOut es ds r
  | _, _, _ => true
def bindT : T → D → Env → Option Env
  | .one i, d, env => some (env.put i d)
  | .many is, d, env => (itemsD d).bind fun xs => if xs.length = is.length then some ((is.zip xs).foldl (fun e p => e.put p.1 p.2) env) else none
def T.slots : T → List Nat
  | .one i => [i]
  | .many is => is
/-- the slots is, forgotten -/
def Env.wipe (env : Env) : List Nat → Env
  | [] => env
  | i :: is => (Env.wipe env is).set i none
/-- the slots is as they were in env0 -/
def Env.back (env env0 : Env) : List Nat → Env
  | [] => env
  | i :: is => (Env.back env env0 is).set i (env0.get i)
def rangeD (a b : Int) : List D := (List.range (b - a).toNat).map fun k => .int (a + (k : Nat))
def rngOk (a b : Int) : Bool := decide (-(2 ^ 62) ≤ a) && decide (a < 2 ^ 62) && decide (-(2 ^ 62) ≤ b) && decide (b < 2 ^ 62)
def pickD (ks : List (List Nat)) (ds : List D) : D → Option D
  | .str s => (ks.zip ds).lookup s
  | _ => none

section
variable (tb : Tb)
def isNew : E → Nat → Bool
  | .op _ _ => fun k => k == 1 || k == 2
  | .lst _ => fun k => k == 1 || k == 2
  | .lc _ _ _ _ => fun k => k == 1 || k == 2
  | .bf _ _ => fun k => k == 1 || k == 2
  | .slice _ _ _ => fun k => k == 1 || k == 2
  | .make _ _ => fun _ => true
  | .call f _ => fun k => (k == 1 || k == 2) && tb.fresh f
  | _ => fun _ => false
def callRes (es : Es) (ds : List D) (env : Env) : CR → R D
  | .ok r outs => if lentOk es ds r && outs.all (lentOut es ds) then .ok r (putBack es outs env) else .err
  | .exc c outs => if outs.all (lentOut es ds) then .exc c (putBack es outs env) else .err
  | .err => .err
/-- an object made by its __init__ (self is the first inout) -/
def makeRes (es : Es) (ds : List D) (env : Env) : CR → R D
  | .ok .non (o :: outs) => if lentOk es ds o && outs.all (lentOut es ds) then .ok o (putBack es outs env) else .err
  | .ok _ _ => .err
  | .exc c (_ :: outs) => if outs.all (lentOut es ds) then .exc c (putBack es outs env) else .err
  | .exc _ [] => .err
  | .err => .err
def lcLoop (t : T) (turn : Env → R (Option D)) : List D → Env → List D → R (List D)
  | [], env, acc => .ok acc env
  | x :: xs, env, acc => match bindT t x (env.wipe t.slots) with
    | none => .err
    | some env1 => match turn env1 with
      | .ok none env2 => lcLoop t turn xs env2 acc
      | .ok (some y) env2 => if okLen (acc.length + 1) then lcLoop t turn xs env2 (acc ++ [y]) else .err
      | _ => .err
mutual
def evE : CF → E → Env → R D
  | _, .var i, env => R.of (env.get i) env
  | _, .own _, _ => .err
  | _, .con d, env => .ok d env
  | _, .glob g, env => R.of (tb.glob g) env
  | cf, .op o es, env => (evEs cf es env).bind fun ds env => match ds with
    | [x, y] => R.of (opD o x y) env
    | _ => .err
  | cf, .cmp c es, env => (evEs cf es env).bind fun ds env => match ds with
    | [x, y] => R.of ((cmpD c x y).map .bl) env
    | _ => .err
  | cf, .chain c1 c2 es c, env => (evEs cf es env).bind fun ds env => match ds with
    | [x, y] => match cmpD c1 x y with
      | some true => (evE cf c env).bind fun z env => R.of ((cmpD c2 y z).map .bl) env
      | some false => .ok (.bl false) env
      | none => .err
    | _ => .err
  | cf, .neg a, env => (evE cf a env).bind fun x env => match x with
    | .int i => .ok (.int (-i)) env
    | _ => .err
  | cf, .no a, env => (evE cf a env).bind fun x env => match x with
    | .bl q => .ok (.bl (!q)) env
    | _ => .err
  | cf, .and a b, env => (evE cf a env).bind fun x env => match x with
    | .bl true => evE cf b env
    | .bl false => .ok (.bl false) env
    | _ => .err
  | cf, .or a b, env => (evE cf a env).bind fun x env => match x with
    | .bl true => .ok (.bl true) env
    | .bl false => evE cf b env
    | _ => .err
  | cf, .ite c a b, env => (evE cf c env).bind fun x env => match x with
    | .bl true => evE cf a env
    | .bl false => evE cf b env
    | _ => .err
  | cf, .tup es, env => (evEs cf es env).bind fun ds env => if okLen ds.length then .ok (.tup ds) env else .err
  | cf, .lst es, env => (evEs cf es env).bind fun ds env => if okLen ds.length then .ok (.lst ds) env else .err
  | cf, .idx es, env => (evEs cf es env).bind fun ds env => match ds with
    | [x, y] => R.of (idxD x y) env
    | _ => .err
  | cf, .slice es lo hi, env => (evEs cf es env).bind fun ds env => match ds with
    | [x] => R.of (sliceD x lo hi) env
    | _ => .err
  | cf, .bf f es, env => (evEs cf es env).bind fun ds env => R.of (bfD f ds) env
  | cf, .mm m i es, env => match env.get i with
    | some (.lst _) => (evEs cf es env).bind fun ds env => match env.get i with
      | some x => match mmD m x ds with
        | some r => .ok r.1 (env.put i r.2)
        | none => .err
      | none => .err
    | _ => .err
  | cf, .call f es, env => (evEs cf es env).bind fun ds env => callRes es ds env (cf.c 0 f ds)
  | cf, .meth m o es, env => match lateOf o with
    | some i => match env.get i with
      | some (.obj c _) => match tb.meth c m with
        | some f => (evEs cf es env).bind fun ds env => match env.get i with
          | some (.obj c' fs) => if c' = c then callRes (.cons o es) (.obj c' fs :: ds) env (cf.c 0 f (.obj c' fs :: ds)) else .err
          | _ => .err
        | none => .err
      | _ => .err
    | none => (evE cf o env).bind fun x env => match x with
      | .obj c fs => match tb.meth c m with
        | some f => (evEs cf es env).bind fun ds env => callRes (.cons o es) (.obj c fs :: ds) env (cf.c 0 f (.obj c fs :: ds))
        | none => .err
      | _ => .err
  | cf, .make c es, env => (evEs cf es env).bind fun ds env => match tb.init c with
    | some f => makeRes es ds env (cf.c 1 f (.obj c [] :: ds))
    | none => .err
  | _, .io _, _ => .err
  | _, .bor _, _ => .err
  | cf, .fld es f, env => (evEs cf es env).bind fun ds env => match ds with
    | [.obj c fs] => if tb.fld c f then R.of (fs.lookup f) env else .err
    | _ => .err
  | cf, .lc t it c e, env => (evI cf it env).bind fun xs env0 =>
      (lcLoop t (fun env1 => (evC cf c env1).bind fun q env2 => match q with
        | .bl true => (evE cf e env2).bind fun y env3 => .ok (some y) env3
        | .bl false => .ok none env2
        | _ => .err) xs env0 []).bind fun ys env => .ok (.lst ys) (env.back env0 t.slots)
  | cf, .told e, env => if 2 ≤ cf.lv then (match evE (low cf) e env with
    | .ok d env => .ok d env
    | .exc c env => match tb.told c with
      | some d => .ok d env
      | none => .err
    | .err => .err) else .err
  | cf, .pick ks es k, env => (evEs cf es env).bind fun ds env => (evE cf k env).bind fun x env => R.of (pickD ks ds x) env
def evC : CF → Option E → Env → R D
  | _, none, env => .ok (.bl true) env
  | cf, some c, env => evE cf c env
def evEs : CF → Es → Env → R (List D)
  | _, .nil, env => .ok [] env
  | cf, .cons e es, env => match lateOf e with
    | some i => (R.of (env.get i) env).bind fun _ env => (evEs cf es env).bind fun ds env => (R.of (env.get i) env).bind fun d env => .ok (d :: ds) env
    | none => (evE cf e env).bind fun d env => (evEs cf es env).bind fun ds env => .ok (d :: ds) env
def evI : CF → It → Env → R (List D)
  | cf, .seq e, env => (evE cf e env).bind fun d env => R.of (itemsD d) env
  | cf, .rng1 a, env => (evE cf a env).bind fun x env => match x with
    | .int j => if rngOk 0 j then .ok (rangeD 0 j) env else .err
    | _ => .err
  | cf, .rng2 es, env => (evEs cf es env).bind fun ds env => match ds with
    | [.int i, .int j] => if rngOk i j then .ok (rangeD i j) env else .err
    | _ => .err
end
inductive O where
  | nx (e : Env) | ret (d : D) (e : Env) | brk (e : Env) | cont (e : Env) | exc (c : Nat) (e : Env) | err
def R.o {α : Type} : R α → (α → Env → O) → O
  | .ok a e, k => k a e
  | .exc c e, _ => .exc c e
  | .err, _ => .err
def whileL (c : Env → R D) (b : Env → O) : Nat → Env → O
  | 0, _ => .err
  | n + 1, env => (c env).o fun q env => match q with
    | .bl true => match b env with
      | .nx e => whileL c b n e
      | .cont e => whileL c b n e
      | .brk e => .nx e
      | r => r
    | .bl false => .nx env
    | _ => .err
def forL (t : T) (b : Env → O) : List D → Env → O
  | [], env => .nx env
  | x :: xs, env => match bindT t x env with
    | none => .err
    | some env => match b env with
      | .nx e => forL t b xs e
      | .cont e => forL t b xs e
      | .brk e => .nx e
      | r => r
/-- a slot is set; with fr: it owns from now on -/
def setO (fr : Bool) (nw : Nat → Bool) (env : Env) (i : Nat) (d : D) (k : Env → O) : O := if fr && !(nw (kindOf d) && !(kindOf d == 0)) then .err else k (env.put i d)
mutual
def evS (cf : CF) : S → Env → O
  | .set i e, env => (evE tb cf e env).o fun d env => .nx (env.put i d)
  | .thaw i e, env => (evE tb cf e env).o fun d env => setO true (isNew tb e) env i d .nx
  | .bind is e, env => (evE tb cf e env).o fun d env => match bindT (.many is) d env with
    | some env => .nx env
    | none => .err
  | .par2 i fi a j fj b, env => (evE tb cf a env).o fun x env => (evE tb cf b env).o fun y env => setO fi (isNew tb a) env i x fun env => setO fj (isNew tb b) env j y .nx
  | .aug i o e, env => match env.get i with
    | none => .err
    | some x => (evE tb cf e env).o fun y env => (R.of (opD o x y) env).o fun z env => .nx (env.put i z)
  | .setIx i k v, env => (evE tb cf v env).o fun y env => match env.get i with
    | none => .err
    | some _ => (evE tb cf k env).o fun x env => match env.get i with
      | some (.lst xs) => match x with
        | .int n => match ixN xs.length n with
          | some j => .nx (env.put i (.lst (xs.set j y)))
          | none => .err
        | _ => .err
      | _ => .err
  | .setFld i f e, env => (evE tb cf e env).o fun y env => match env.get i with
    | some (.obj c fs) => if tb.fld c f && (decide (fs.length < 100) && (fs.lookup f).isNone) then .nx (env.put i (.obj c (fs ++ [(f, y)]))) else .err
    | _ => .err
  | .expr e, env => (evE tb cf e env).o fun _ env => .nx env
  | .ret e, env => (evE tb cf e env).o fun d env => .ret d env
  | .retO i, env => (R.of (env.get i) env).o fun d env => .ret d env
  | .raise c, env => .exc c env
  | .pass, env => .nx env
  | .brk, env => .brk env
  | .cont, env => .cont env
  | .ite c a b, env => (evE tb cf c env).o fun q env => match q with
    | .bl true => evSs cf a env
    | .bl false => evSs cf b env
    | _ => .err
  | .whil n c b, env => whileL (evE tb cf c) (evSs cf b) n env
  | .fors t it b, env => (evI tb cf it env).o fun xs env => forL t (evSs cf b) xs env
def evSs (cf : CF) : List S → Env → O
  | [], env => .nx env
  | s :: ss, env => match evS cf s env with
    | .nx env => evSs cf ss env
    | r => r
end
end

/-! ### defs -/
structure Def where
  np : Nat            -- parameters
  nl : Nat            -- names
  ow : List Nat     -- owned slots
  io : List Nat      -- inout parameters
  fr : Bool          -- what is handed back is new
  body : List S
structure Pg where
  tb : Tb
  defs : Nat → Option Def
def outsOf (env : Env) : List Nat → Option (List D)
  | [] => some []
  | i :: is => match env.get i, outsOf env is with
    | some d, some ds => some (d :: ds)
    | _, _ => none
def endD (df : Def) : O → CR
  | .ret r env => match outsOf env df.io with
    | some os => .ok r os
    | none => .err
  | .nx env => match outsOf env df.io with
    | some os => .ok .non os
    | none => .err
  | .exc c env => match outsOf env df.io with
    | some os => .exc c os
    | none => .err
  | _ => .err
def startE (df : Def) (ds : List D) : Env := ds.map some ++ List.replicate (df.nl - ds.length) none
def call1 (pg : Pg) (cf : CF) (f : Nat) (ds : List D) : CR := match pg.defs f with
  | none => .err
  | some df => if ds.length = df.np then endD df (evSs pg.tb cf df.body (startE df ds)) else .err
def lev (pg : Pg) : Nat → CF
  | 0 => ⟨0, fun _ => noC⟩
  | k + 1 => ⟨k + 1, fun j => match j with
    | 0 => call1 pg (lev pg k)
    | j + 1 => (lev pg k).c j⟩
theorem lev_lv (pg : Pg) (k : Nat) : (lev pg k).lv = k := by cases k <;> rfl
theorem lev_low (pg : Pg) (k : Nat) : low (lev pg (k + 2)) = lev pg k := by
  have h : low (lev pg (k + 2)) = ⟨k, (lev pg k).c⟩ := rfl
  rw [h]
  have h2 := lev_lv pg k
  generalize lev pg k = c at h2 ⊢
  cases c
  cases h2
  rfl
theorem lev_one (pg : Pg) (k : Nat) : (lev pg (k + 1)).c 1 = (lev pg k).c 0 := rfl
end Bh
/-! text Bh2 -/
set_option Elab.async false
set_option linter.all false
set_option maxRecDepth 100000
set_option maxHeartbeats 1000000
/-! Bh2: how data stand in the abstract heap. -/
namespace Bh
open PySem L2

/-- a tracked thing whose very object is told -/
def pin (a : Addr) (o : Obj) : HO := .ext fun h => h.get? a = some o
mutual
/-- a key as the library's nested key -/
def nk : D → NestedKey
  | .int i => .num i
  | .str s => .text ⟨s.toArray⟩
  | .tup xs => .tup (nks xs)
  | _ => .none
def nks : List D → List NestedKey
  | [] => []
  | x :: xs => nk x :: nks xs
end
/-- the program's facts that data lean on: the world, the written part, where the classes stand, the fields' names -/
structure Gx where
  w : World
  K : PySem.W.Frag
  ca : Nat → Addr
  fnm : Nat → Str

/-- a tuple of the written part -/
def KTup (K : PySem.W.Frag) (a : Addr) (vs : List V) : Prop :=
  ∃ (o : Obj) (its : Array Value) (n : Nat), K.lookup a = some o ∧ o.cls = .type "tuple" ∧ o.data = .seq its n ∧ its.size ≤ sizeLine ∧ Vals vs its.toList

mutual
/-- the value v is the data d in the abstract heap H, clear of what O tells -/
inductive FR (G : Gx) (H : Hp) (O : Addr → Prop) : V → D → Prop
  | non : FR G H O .non .non
  | bl (b : Bool) : FR G H O (.bl b) (.bl b)
  | int (i : Int) : FR G H O (.int i) (.int i)
  | str (s : List Nat) : FR G H O (.str ⟨s.toArray⟩) (.str s)
  | tup {a : Addr} {vs : List V} {ds : List D} : H a = some (.tup vs) → ¬ O a → FRs G H O vs ds → FR G H O (.ref a) (.tup ds)
  | tupk {a : Addr} {vs : List V} {ds : List D} : KTup G.K a vs → FRs G H O vs ds → FR G H O (.ref a) (.tup ds)
  | lst {a : Addr} {vs : List V} {ds : List D} : H a = some (.lst vs) → ¬ O a → FRs G H O vs ds → FR G H O (.ref a) (.lst ds)
  | dct {a : Addr} {o : Obj} {es : Array DictEntry} {ep : Nat} {kvs : List (D × D)} : H a = some (pin a o) → ¬ O a → o.ExactDict → o.data = .dict es ep → es.size ≤ sizeLine → (a == sysModules) = false →
      FRe G H O es.toList kvs → (kvs.map fun p => nk p.1).Nodup → FR G H O (.ref a) (.dct kvs)
  | obj {a dx : Addr} {c : Nat} {vs : List (Str × V)} {fs : List (Nat × D)} : H a = some (.ins (G.ca c) dx vs) → ¬ O a → FRf G H O vs fs → FR G H O (.ref a) (.obj c fs)
inductive FRs (G : Gx) (H : Hp) (O : Addr → Prop) : List V → List D → Prop
  | nil : FRs G H O [] []
  | cons {v : V} {vs : List V} {d : D} {ds : List D} : FR G H O v d → FRs G H O vs ds → FRs G H O (v :: vs) (d :: ds)
inductive FRe (G : Gx) (H : Hp) (O : Addr → Prop) : List DictEntry → List (D × D) → Prop
  | nil : FRe G H O [] []
  | cons {e : DictEntry} {es : List DictEntry} {k v : V} {dk dv : D} {r : List (D × D)} : e.hash = (nk dk).hash G.w → RelV k e.key → FR G H O k dk → RelV v e.val → FR G H O v dv → FRe G H O es r → FRe G H O (e :: es) ((dk, dv) :: r)
inductive FRf (G : Gx) (H : Hp) (O : Addr → Prop) : List (Str × V) → List (Nat × D) → Prop
  | nil : FRf G H O [] []
  | cons {f : Nat} {v : V} {vs : List (Str × V)} {d : D} {fs : List (Nat × D)} : FR G H O v d → FRf G H O vs fs → FRf G H O ((G.fnm f, v) :: vs) ((f, d) :: fs)
end

/-- no table of code objects -/
def Nt (o : HO) : Prop := ∀ ps, o ≠ .tbl ps
/-- something stands there, no table -/
def Av (H : Hp) (a : Addr) : Prop := ∃ o, H a = some o ∧ Nt o
theorem Av.none {H : Hp} {a : Addr} (n : H a = none) : ¬ Av H a := fun ⟨o, h, _⟩ => by rw [n] at h; cases h
/-- from (H, O) on to (H', O'): what is clear of O stands; O' tells no more than O, but for what is new -/
structure Stp (H : Hp) (O : Addr → Prop) (H' : Hp) (O' : Addr → Prop) : Prop where
  keep : ∀ a o, H a = some o → Nt o → ¬ O a → H' a = some o
  sub : ∀ a, O' a → O a ∨ ¬ Av H a
  dom : ∀ a, Av H a → Av H' a

section
variable {G : Gx} {H H' : Hp} {O O' : Addr → Prop}
theorem Stp.clear (s : Stp H O H' O') {a : Addr} {o : HO} (e : H a = some o) (t : Nt o) (n : ¬ O a) : ¬ O' a := fun z => by
  rcases s.sub a z with q | q
  · exact n q
  · exact q ⟨o, e, t⟩
mutual
theorem FR.carry (s : Stp H O H' O') : ∀ {v : V} {d : D}, FR G H O v d → FR G H' O' v d
  | _, _, .non => .non
  | _, _, .bl b => .bl b
  | _, _, .int i => .int i
  | _, _, .str x => .str x
  | _, _, .tup e n r => .tup (s.keep _ _ e (fun _ z => nomatch z) n) (s.clear e (fun _ z => nomatch z) n) (FRs.carry s r)
  | _, _, .tupk k r => .tupk k (FRs.carry s r)
  | _, _, .lst e n r => .lst (s.keep _ _ e (fun _ z => nomatch z) n) (s.clear e (fun _ z => nomatch z) n) (FRs.carry s r)
  | _, _, .dct e n h1 h2 h3 h4 r h5 => .dct (s.keep _ _ e (fun _ z => nomatch z) n) (s.clear e (fun _ z => nomatch z) n) h1 h2 h3 h4 (FRe.carry s r) h5
  | _, _, .obj e n r => .obj (s.keep _ _ e (fun _ z => nomatch z) n) (s.clear e (fun _ z => nomatch z) n) (FRf.carry s r)
theorem FRs.carry (s : Stp H O H' O') : ∀ {v : List V} {d : List D}, FRs G H O v d → FRs G H' O' v d
  | _, _, .nil => .nil
  | _, _, .cons a b => .cons (FR.carry s a) (FRs.carry s b)
theorem FRe.carry (s : Stp H O H' O') : ∀ {v : List DictEntry} {d : List (D × D)}, FRe G H O v d → FRe G H' O' v d
  | _, _, .nil => .nil
  | _, _, .cons h a k b m r => .cons h a (FR.carry s k) b (FR.carry s m) (FRe.carry s r)
theorem FRf.carry (s : Stp H O H' O') : ∀ {v : List (Str × V)} {d : List (Nat × D)}, FRf G H O v d → FRf G H' O' v d
  | _, _, .nil => .nil
  | _, _, .cons a b => .cons (FR.carry s a) (FRf.carry s b)
end
theorem FRs.length : ∀ {v : List V} {d : List D}, FRs G H O v d → v.length = d.length
  | _, _, .nil => rfl
  | _, _, .cons _ b => by simp [FRs.length b]
theorem FRe.length : ∀ {v : List DictEntry} {d : List (D × D)}, FRe G H O v d → v.length = d.length
  | _, _, .nil => rfl
  | _, _, .cons _ _ _ _ _ b => by simp [FRe.length b]
theorem FRs.get : ∀ {vs : List V} {ds : List D} {i : Nat} {d : D}, FRs G H O vs ds → ds[i]? = some d → ∃ v, vs[i]? = some v ∧ FR G H O v d
  | _, _, _, _, .nil, e => by simp at e
  | _, _, 0, _, .cons a _, e => by simp at e; subst e; exact ⟨_, rfl, a⟩
  | _, _, i + 1, _, .cons _ b, e => by
    obtain ⟨v, h1, h2⟩ := FRs.get (i := i) b (by simpa using e)
    exact ⟨v, by simpa using h1, h2⟩
theorem FRs.app : ∀ {vs us : List V} {ds es : List D}, FRs G H O vs ds → FRs G H O us es → FRs G H O (vs ++ us) (ds ++ es)
  | _, _, _, _, .nil, h => h
  | _, _, _, _, .cons a b, h => .cons a (FRs.app b h)
theorem FRs.take : ∀ {vs : List V} {ds : List D} (n : Nat), FRs G H O vs ds → FRs G H O (vs.take n) (ds.take n)
  | _, _, 0, _ => .nil
  | _, _, _ + 1, .nil => .nil
  | _, _, n + 1, .cons a b => .cons a (FRs.take n b)
theorem FRs.drop : ∀ {vs : List V} {ds : List D} (n : Nat), FRs G H O vs ds → FRs G H O (vs.drop n) (ds.drop n)
  | _, _, 0, h => h
  | _, _, _ + 1, .nil => .nil
  | _, _, n + 1, .cons _ b => FRs.drop n b
theorem FRs.set {v : V} {d : D} (r : FR G H O v d) : ∀ {vs : List V} {ds : List D} (i : Nat), FRs G H O vs ds → FRs G H O (vs.set i v) (ds.set i d)
  | _, _, _, .nil => .nil
  | _, _, 0, .cons _ b => .cons r b
  | _, _, i + 1, .cons a b => .cons a (FRs.set r i b)
theorem FRs.erase : ∀ {vs : List V} {ds : List D} (i : Nat), FRs G H O vs ds → FRs G H O (vs.eraseIdx i) (ds.eraseIdx i)
  | _, _, _, .nil => by simp; exact .nil
  | _, _, 0, .cons _ b => by simpa using b
  | _, _, i + 1, .cons a b => by simpa using FRs.cons a (FRs.erase i b)
theorem FRs.one {v : V} {d : D} (h : FR G H O v d) : FRs G H O [v] [d] := .cons h .nil
theorem FRs.of_one {vs : List V} {d : D} (h : FRs G H O vs [d]) : ∃ v, vs = [v] ∧ FR G H O v d := by
  cases h with
  | cons a b => cases b; exact ⟨_, rfl, a⟩
theorem FRs.of_two {vs : List V} {d e : D} (h : FRs G H O vs [d, e]) : ∃ v u, vs = [v, u] ∧ FR G H O v d ∧ FR G H O u e := by
  cases h with
  | cons a b =>
    obtain ⟨u, rfl, r⟩ := FRs.of_one b
    exact ⟨_, _, rfl, a, r⟩
theorem FRf.look : ∀ {vs : List (Str × V)} {fs : List (Nat × D)} {f : Nat} {d : D}, (∀ g, G.fnm f = G.fnm g → f = g) → FRf G H O vs fs → fs.lookup f = some d → ∃ v, vs.lookup (G.fnm f) = some v ∧ FR G H O v d
  | _, _, f, _, inj, .nil, e => by simp at e
  | _, _, f, _, inj, .cons (f := g) a b, e => by
    rw [List.lookup_cons] at e ⊢
    by_cases h : f = g
    · subst h
      simp at e ⊢
      subst e
      exact a
    · have h1 : (f == g) = false := by simpa using h
      have h2 : (G.fnm f == G.fnm g) = false := by simpa using fun q => h (inj g q)
      rw [h1] at e
      rw [h2]
      exact FRf.look inj b e
theorem FRf.length : ∀ {v : List (Str × V)} {d : List (Nat × D)}, FRf G H O v d → v.length = d.length
  | _, _, .nil => rfl
  | _, _, .cons _ b => by simp [FRf.length b]
theorem FRf.noLook : ∀ {vs : List (Str × V)} {fs : List (Nat × D)} {x : Str}, (∀ g, G.fnm g ≠ x) → FRf G H O vs fs → vs.lookup x = none
  | _, _, _, _, .nil => rfl
  | _, _, x, ne, .cons (f := g) a b => by
    rw [List.lookup_cons]
    have h2 : (x == G.fnm g) = false := by simpa using fun q => ne g q.symm
    rw [h2]
    exact FRf.noLook ne b
end
end Bh
/-! text Bh3 -/
set_option Elab.async false
set_option linter.all false
set_option maxRecDepth 100000
set_option maxHeartbeats 1000000
/-! Bh3: a frame's invariant; what is read, lent, made. -/
namespace Bh
open PySem L2

/-- what stands at p, where p itself may be owned -/
inductive Cont (G : Gx) (H : Hp) (O : Addr → Prop) (p : Addr) : D → Prop
  | lst {vs : List V} {ds : List D} : H p = some (.lst vs) → FRs G H O vs ds → Cont G H O p (.lst ds)
  | dct {o : Obj} {es : Array DictEntry} {ep : Nat} {kvs : List (D × D)} : H p = some (pin p o) → o.ExactDict → o.data = .dict es ep → es.size ≤ sizeLine → (p == sysModules) = false →
      FRe G H O es.toList kvs → (kvs.map fun q => nk q.1).Nodup → Cont G H O p (.dct kvs)
  | obj {dx : Addr} {c : Nat} {vs : List (Str × V)} {fs : List (Nat × D)} : H p = some (.ins (G.ca c) dx vs) → FRf G H O vs fs → Cont G H O p (.obj c fs)
section
variable {G : Gx} {H H' : Hp} {O O' : Addr → Prop} {p : Addr} {d : D}
theorem Cont.fr (h : Cont G H O p d) (n : ¬ O p) : FR G H O (.ref p) d := by
  cases h with
  | lst e r => exact .lst e n r
  | dct e h1 h2 h3 h4 r h5 => exact .dct e n h1 h2 h3 h4 r h5
  | obj e r => exact .obj e n r
theorem Cont.av (h : Cont G H O p d) : Av H p := by
  cases h with
  | lst e r => exact ⟨_, e, fun _ z => nomatch z⟩
  | dct e h1 h2 h3 h4 r h5 => exact ⟨_, e, fun _ z => nomatch z⟩
  | obj e r => exact ⟨_, e, fun _ z => nomatch z⟩
theorem Cont.carry (s : Stp H O H' O') (k : H' p = H p) (h : Cont G H O p d) : Cont G H' O' p d := by
  cases h with
  | lst e r => exact .lst (k.trans e) (r.carry s)
  | dct e h1 h2 h3 h4 r h5 => exact .dct (k.trans e) h1 h2 h3 h4 (r.carry s) h5
  | obj e r => exact .obj (k.trans e) (r.carry s)
end

/-- what is lent for reading: data, or what is owned -/
def BR (G : Gx) (H : Hp) (O : Addr → Prop) (v : V) (d : D) : Prop := FR G H O v d ∨ ∃ p, v = .ref p ∧ Cont G H O p d
inductive BRs (G : Gx) (H : Hp) (O : Addr → Prop) : List V → List D → Prop
  | nil : BRs G H O [] []
  | cons {v : V} {vs : List V} {d : D} {ds : List D} : BR G H O v d → BRs G H O vs ds → BRs G H O (v :: vs) (d :: ds)
section
variable {G : Gx} {H H' : Hp} {O O' : Addr → Prop} {v : V}
theorem BR.int {i : Int} (h : BR G H O v (.int i)) : v = .int i := by
  rcases h with h | ⟨p, _, h⟩
  · cases h; rfl
  · cases h
theorem BR.bl {i : Bool} (h : BR G H O v (.bl i)) : v = .bl i := by
  rcases h with h | ⟨p, _, h⟩
  · cases h; rfl
  · cases h
theorem BR.non (h : BR G H O v .non) : v = .non := by
  rcases h with h | ⟨p, _, h⟩
  · cases h; rfl
  · cases h
theorem BR.str {s : List Nat} (h : BR G H O v (.str s)) : v = .str ⟨s.toArray⟩ := by
  rcases h with h | ⟨p, _, h⟩
  · cases h; rfl
  · cases h
theorem BR.lst {ds : List D} (h : BR G H O v (.lst ds)) : ∃ p vs, v = .ref p ∧ H p = some (.lst vs) ∧ FRs G H O vs ds := by
  rcases h with h | ⟨p, rfl, h⟩
  · cases h with | lst e n r => exact ⟨_, _, rfl, e, r⟩
  · cases h with | lst e r => exact ⟨_, _, rfl, e, r⟩
theorem BR.tup {ds : List D} (h : BR G H O v (.tup ds)) : ∃ p vs, v = .ref p ∧ SqT G.K H p vs ∧ FRs G H O vs ds := by
  rcases h with h | ⟨p, rfl, h⟩
  · cases h with
    | tup e n r => exact ⟨_, _, rfl, .inl (.inl e), r⟩
    | tupk k r => exact ⟨_, _, rfl, .inr k, r⟩
  · cases h
theorem BR.dct {kvs : List (D × D)} (h : BR G H O v (.dct kvs)) : ∃ p, v = .ref p ∧ Cont G H O p (.dct kvs) := by
  rcases h with h | ⟨p, rfl, h⟩
  · cases h with | dct e n h1 h2 h3 h4 r h5 => exact ⟨_, rfl, .dct e h1 h2 h3 h4 r h5⟩
  · exact ⟨p, rfl, h⟩
theorem BR.obj {c : Nat} {fs : List (Nat × D)} (h : BR G H O v (.obj c fs)) : ∃ p dx vs, v = .ref p ∧ H p = some (.ins (G.ca c) dx vs) ∧ FRf G H O vs fs := by
  rcases h with h | ⟨p, rfl, h⟩
  · cases h with | obj e n r => exact ⟨_, _, _, rfl, e, r⟩
  · cases h with | obj e r => exact ⟨_, _, _, rfl, e, r⟩
theorem BRs.of_one {vs : List V} {d : D} (h : BRs G H O vs [d]) : ∃ v, vs = [v] ∧ BR G H O v d := by
  cases h with
  | cons a b => cases b; exact ⟨_, rfl, a⟩
theorem BRs.of_two {vs : List V} {d e : D} (h : BRs G H O vs [d, e]) : ∃ v u, vs = [v, u] ∧ BR G H O v d ∧ BR G H O u e := by
  cases h with
  | cons a b =>
    obtain ⟨u, rfl, r⟩ := BRs.of_one b
    exact ⟨_, _, rfl, a, r⟩
theorem BRs.length : ∀ {vs : List V} {ds : List D}, BRs G H O vs ds → vs.length = ds.length
  | _, _, .nil => rfl
  | _, _, .cons _ b => by simp [BRs.length b]
end

/-- all that was tracked stands -/
abbrev Ext (H H' : Hp) : Prop := Same H H'
theorem Ext.upd {H : Hp} {p : Addr} {o : HO} (n : H p = none) : Ext H (upd H p o) := fun a u e => by rw [upd_ne (ne_of_none e n)]; exact e
def Live (H : Hp) (O : Addr → Prop) : Prop := ∀ a, O a → Av H a
theorem Ext.dom {H H' : Hp} (e : Ext H H') (a : Addr) (n : Av H a) : Av H' a := let ⟨o, h, t⟩ := n; ⟨o, e a o h, t⟩
theorem Ext.stp {H H' : Hp} {O : Addr → Prop} (e : Ext H H') : Stp H O H' O := ⟨fun a o h _ _ => e a o h, fun a z => .inl z, e.dom⟩
theorem Stp.mono {H : Hp} {O O' : Addr → Prop} (h : ∀ a, O' a → O a) : Stp H O H O' := ⟨fun _ _ e _ _ => e, fun a z => .inl (h a z), fun _ n => n⟩
theorem Stp.refl {H : Hp} {O : Addr → Prop} : Stp H O H O := .mono fun _ z => z
theorem Stp.trans {H H1 H2 : Hp} {O O1 O2 : Addr → Prop} (a : Stp H O H1 O1) (b : Stp H1 O1 H2 O2) : Stp H O H2 O2 where
  keep := fun x o e t n => b.keep x o (a.keep x o e t n) t (a.clear e t n)
  sub := fun x z => by
    rcases b.sub x z with q | q
    · exact a.sub x q
    · exact .inr fun y => q (a.dom x y)
  dom := fun x n => b.dom x (a.dom x n)
theorem av_upd {H : Hp} {p : Addr} {o : HO} (t : Nt o) (a : Addr) (m : Av H a) : Av (upd H p o) a := by
  by_cases q : a = p
  · rw [q]; exact ⟨o, upd_same, t⟩
  · obtain ⟨u, h, t'⟩ := m; exact ⟨u, by rw [upd_ne q]; exact h, t'⟩

theorem pin_code {p : Addr} {o : Obj} {es : Array DictEntry} {ep : Nat} {q : Str} (hd : o.data = .dict es ep) : some (pin p o) ≠ some (LamX.CodeO p q) := fun z => by
  have z1 := Option.some.inj z
  unfold pin LamX.CodeO at z1
  have z2 := congrFun (HO.ext.inj z1) (({ objs := Array.replicate p default } : Heap).push { cls := .none, data := .fields #[.none, .str q 0] })
  have e1 : (({ objs := Array.replicate p default } : Heap).push { cls := .none, data := .fields #[.none, .str q 0] }).get? p = some { cls := .none, data := .fields #[.none, .str q 0] } := Heap.get?_push_at (by simp) rfl
  have z3 := z2.mpr ⟨_, _, 0, e1, rfl, rfl⟩
  rw [e1] at z3
  cases z3
  cases hd
/-- neither a table nor a code object stands there -/
structure Plc (H : Hp) (p : Addr) : Prop where
  tbl : ∀ ps, H p ≠ some (.tbl ps)
  code : ∀ q, H p ≠ some (LamX.CodeO p q)
theorem Cont.plc {G : Gx} {H : Hp} {O : Addr → Prop} {p : Addr} {d : D} (h : Cont G H O p d) : Plc H p := by
  cases h with
  | lst e r => exact ⟨fun ps z => (by rw [e] at z; cases z), fun q z => (by rw [e] at z; cases z)⟩
  | dct e h1 h2 h3 h4 r h5 => exact ⟨fun ps z => (by rw [e] at z; cases z), fun q z => (by rw [e] at z; exact pin_code h2 z)⟩
  | obj e r => exact ⟨fun ps z => (by rw [e] at z; cases z), fun q z => (by rw [e] at z; cases z)⟩
theorem tabs_off {T : List (Addr × Str)} {H H' : Hp} {p : Addr} (t : LamX.Tabs T H) (c : Plc H p) (k : ∀ a o, H a = some o → a ≠ p → H' a = some o) : LamX.Tabs T H' := fun q hq => by
  obtain ⟨ps, h1, h2, h3⟩ := t q hq
  refine ⟨ps, k _ _ h1 (fun z => c.tbl ps (z ▸ h1)), h2, fun pos cv hc => ?_⟩
  obtain ⟨x, e1, e2⟩ := h3 pos cv hc
  exact ⟨x, e1, k _ _ e2 (fun z => by subst z; exact c.code _ e2)⟩

/-- a frame: the slots that own, what may be changed besides (inout parameters, by slot), the tables, what no data may touch (at the entry; now), the heap at its entry -/
structure Fm where
  G : Gx
  ow : List Nat
  Ip : List (Nat × Addr)
  T : List (Addr × Str)
  Oe : Addr → Prop
  Ox : Addr → Prop
  H0 : Hp
  Ex : List (V × D)
def ownA (ow : List Nat) (σ : St) (env : Env) (a : Addr) : Prop := ∃ i, i ∈ ow ∧ (∃ d, env.get i = some d) ∧ σ[i]? = some (some (.ref a))
def OO (F : Fm) (σ : St) (env : Env) (a : Addr) : Prop := F.Ox a ∨ ownA F.ow σ env a
/-- the frame in which p is not to be touched either -/
def Fm.guard (F : Fm) (p : Addr) : Fm := { F with Ox := fun a => F.Ox a ∨ a = p }

structure FI (F : Fm) (σ : St) (H : Hp) (env : Env) : Prop where
  len : env.length = σ.length
  fr : ∀ i d, env.get i = some d → i ∉ F.ow → ∃ v, σ[i]? = some (some v) ∧ FR F.G H (OO F σ env) v d
  own : ∀ i d, env.get i = some d → i ∈ F.ow → ∃ p, σ[i]? = some (some (.ref p)) ∧ Cont F.G H (OO F σ env) p d ∧ ((∃ j, (j, p) ∈ F.Ip) ∨ ¬ Av F.H0 p)
  dist : ∀ i j p, i ∈ F.ow → j ∈ F.ow → (∃ d, env.get i = some d) → (∃ d, env.get j = some d) → σ[i]? = some (some (.ref p)) → σ[j]? = some (some (.ref p)) → i = j
  kp : ∀ a o, F.H0 a = some o → (∀ j, (j, a) ∉ F.Ip) → Nt o → H a = some o
  live : Live H F.Ox
  ip : ∀ q ∈ F.Ip, q.1 ∈ F.ow ∧ F.Oe q.2 ∧ σ[q.1]? = some (some (.ref q.2)) ∧ ∃ d, env.get q.1 = some d
  live0 : Live F.H0 F.Oe
  oe : ∀ a, F.Oe a → F.Ox a
  sub : ∀ a, Av F.H0 a → Av H a
  tabs : LamX.Tabs F.T H
  ex : ∀ q ∈ F.Ex, FR F.G H (OO F σ env) q.1 q.2

/-- from (H, env) to (H', env') within a frame, the slots as they are -/
structure Post (F : Fm) (σ : St) (H : Hp) (env : Env) (H' : Hp) (env' : Env) : Prop where
  fi : FI F σ H' env'
  stp : Stp H (OO F σ env) H' (OO F σ env')
  ow : ∀ a, ownA F.ow σ env' a → ownA F.ow σ env a
  kx : ∀ a o, H a = some o → ¬ ownA F.ow σ env a → Nt o → H' a = some o

section
variable {F : Fm} {σ : St} {H H1 H2 : Hp} {env env1 env2 : Env}
theorem FI.alive (I : FI F σ H env) : Live H (OO F σ env) := fun a z => by
  rcases z with z | ⟨i, hi, ⟨d, hd⟩, hs⟩
  · exact I.live a z
  · obtain ⟨p, h1, h2, _⟩ := I.own i d hd hi
    rw [h1] at hs
    cases hs
    exact h2.av
theorem FI.free (I : FI F σ H env) {p : Addr} (n : ¬ Av H p) : ¬ OO F σ env p := fun z => n (I.alive p z)
theorem Post.refl (I : FI F σ H env) : Post F σ H env H env := ⟨I, .refl, fun _ z => z, fun _ _ h _ _ => h⟩
theorem Post.os (P : Post F σ H env H1 env1) (a : Addr) (z : OO F σ env1 a) : OO F σ env a := z.imp id (P.ow a)
theorem Post.trans (a : Post F σ H env H1 env1) (b : Post F σ H1 env1 H2 env2) : Post F σ H env H2 env2 := ⟨b.fi, a.stp.trans b.stp, fun x z => a.ow x (b.ow x z), fun x o h n t => b.kx x o (a.kx x o h n t) (fun z => n (a.ow x z)) t⟩
/-- something new is laid -/
theorem FI.ext (I : FI F σ H env) (e : Ext H H1) : FI F σ H1 env where
  len := I.len
  fr := fun i d h n => let ⟨v, a, b⟩ := I.fr i d h n; ⟨v, a, b.carry e.stp⟩
  own := fun i d h n => by
    obtain ⟨p, a, b, c⟩ := I.own i d h n
    refine ⟨p, a, ?_, c⟩
    obtain ⟨o, ho, _⟩ := b.av
    exact b.carry e.stp ((e p o ho).trans ho.symm)
  dist := I.dist
  kp := fun a o h n t => e a o (I.kp a o h n t)
  live := fun a z => e.dom a (I.live a z)
  ip := I.ip
  live0 := I.live0
  oe := I.oe
  sub := fun a h => e.dom a (I.sub a h)
  tabs := I.tabs.ext e
  ex := fun q hq => (I.ex q hq).carry e.stp
theorem FI.post (I : FI F σ H env) (e : Ext H H1) : Post F σ H env H1 env := ⟨I.ext e, e.stp, fun _ z => z, fun a o h _ _ => e a o h⟩

theorem get_put {env : Env} {i j : Nat} {d : D} (h : i < env.length) : (env.put i d).get j = if j = i then some d else env.get j := by
  unfold Env.get Env.put
  by_cases e : j = i
  · subst e
    rw [if_pos rfl, List.getElem?_set_self h]
    rfl
  · rw [if_neg e, List.getElem?_set_ne (Ne.symm e)]
theorem get_off {env : Env} {i j : Nat} : Env.get (env.set i none) j = if j = i then none else env.get j := by
  unfold Env.get
  by_cases e : j = i
  · subst e
    rw [if_pos rfl]
    by_cases h : j < env.length
    · rw [List.getElem?_set_self h]; rfl
    · rw [List.getElem?_eq_none (by simpa using h)]; rfl
  · rw [if_neg e, List.getElem?_set_ne (Ne.symm e)]
theorem get_lt {env : Env} {i : Nat} {d : D} (h : env.get i = some d) : i < env.length := by
  unfold Env.get at h
  by_cases q : i < env.length
  · exact q
  · rw [List.getElem?_eq_none (by omega)] at h
    cases h
theorem put_len {env : Env} {i : Nat} {d : D} : (env.put i d).length = env.length := by unfold Env.put; rw [List.length_set]

/-- OO behind a change of the content of a slot that owns -/
theorem oo_put {i : Nat} {d d' : D} (hg : env.get i = some d) (a : Addr) : OO F σ (env.put i d') a ↔ OO F σ env a := by
  have hl := get_lt hg
  unfold OO ownA
  constructor
  · rintro (z | ⟨j, hj, ⟨e, he⟩, h⟩)
    · exact .inl z
    · rw [get_put hl] at he
      by_cases q : j = i
      · subst q; exact .inr ⟨j, hj, ⟨d, hg⟩, h⟩
      · rw [if_neg q] at he; exact .inr ⟨j, hj, ⟨e, he⟩, h⟩
  · rintro (z | ⟨j, hj, ⟨e, he⟩, h⟩)
    · exact .inl z
    · refine .inr ⟨j, hj, ?_, h⟩
      rw [get_put hl]
      by_cases q : j = i
      · rw [if_pos q]; exact ⟨_, rfl⟩
      · rw [if_neg q]; exact ⟨e, he⟩

/-- from H to H1 all stands but at p, which the slot i owns: there d' stands now -/
theorem FI.chg (I : FI F σ H env) {i : Nat} {p : Addr} {d d' : D} (hi : i ∈ F.ow) (hg : env.get i = some d) (hs : σ[i]? = some (some (.ref p)))
    (k : ∀ a o, H a = some o → a ≠ p → H1 a = some o) (hc : Cont F.G H1 (OO F σ env) p d') : Post F σ H env H1 (env.put i d') := by
  have hl := get_lt hg
  have hp : OO F σ env p := .inr ⟨i, hi, ⟨d, hg⟩, hs⟩
  have hO : ∀ a, OO F σ (env.put i d') a ↔ OO F σ env a := oo_put hg
  have dm : ∀ a, Av H a → Av H1 a := fun a n => by
    by_cases q : a = p
    · rw [q]; exact hc.av
    · obtain ⟨o, ho, t⟩ := n
      exact ⟨o, k a o ho q, t⟩
  have st : Stp H (OO F σ env) H1 (OO F σ (env.put i d')) := ⟨fun a o e _ n => k a o e (fun z => n (by rw [z]; exact hp)), fun a z => .inl ((hO a).mp z), dm⟩
  have st2 : Stp H1 (OO F σ env) H1 (OO F σ (env.put i d')) := .mono fun a z => (hO a).mp z
  obtain ⟨p0, h1, h2, h3⟩ := I.own i d hg hi
  rw [hs] at h1
  cases h1
  have hown : ∀ a, ownA F.ow σ (env.put i d') a → ownA F.ow σ env a := fun a ⟨j, hj, ⟨e, he⟩, h⟩ => by
    rw [get_put hl] at he
    by_cases q : j = i
    · subst q; exact ⟨j, hj, ⟨d, hg⟩, h⟩
    · rw [if_neg q] at he; exact ⟨j, hj, ⟨e, he⟩, h⟩
  refine ⟨⟨?_, ?_, ?_, ?_, ?_, ?_, ?_, I.live0, I.oe, ?_, ?_, fun q hq => (I.ex q hq).carry st⟩, st, hown, fun a o h n t => k a o h fun z => n (z ▸ ⟨i, hi, ⟨d, hg⟩, hs⟩)⟩
  · rw [put_len]; exact I.len
  · intro j e he hj
    rw [get_put hl] at he
    have q : j ≠ i := fun z => hj (z ▸ hi)
    rw [if_neg q] at he
    obtain ⟨v, a, b⟩ := I.fr j e he hj
    exact ⟨v, a, b.carry st⟩
  · intro j e he hj
    rw [get_put hl] at he
    by_cases q : j = i
    · subst q
      rw [if_pos rfl] at he
      cases he
      exact ⟨p, hs, hc.carry st2 rfl, h3⟩
    · rw [if_neg q] at he
      obtain ⟨r, a, b, c⟩ := I.own j e he hj
      have ne : r ≠ p := fun z => q (I.dist j i p hj hi ⟨e, he⟩ ⟨d, hg⟩ (z ▸ a) hs)
      obtain ⟨o, ho, _⟩ := b.av
      exact ⟨r, a, b.carry st ((k r o ho ne).trans ho.symm), c⟩
  · rintro j k r hj hk ⟨e, he⟩ ⟨f, hf⟩ h1 h2
    refine I.dist j k r hj hk ?_ ?_ h1 h2
    · rw [get_put hl] at he
      by_cases q : j = i
      · exact ⟨d, q ▸ hg⟩
      · rw [if_neg q] at he; exact ⟨e, he⟩
    · rw [get_put hl] at hf
      by_cases q : k = i
      · exact ⟨d, q ▸ hg⟩
      · rw [if_neg q] at hf; exact ⟨f, hf⟩
  · intro a o e n t
    have ne : a ≠ p := fun z => by
      rcases h3 with ⟨j, hj⟩ | hn
      · exact n j (z ▸ hj)
      · exact hn (z ▸ ⟨o, e, t⟩)
    exact k a o (I.kp a o e n t) ne
  · exact fun a z => dm a (I.live a z)
  · intro q hq
    obtain ⟨a, b, c, e, he⟩ := I.ip q hq
    refine ⟨a, b, c, ?_⟩
    rw [get_put hl]
    by_cases z : q.1 = i
    · rw [if_pos z]; exact ⟨_, rfl⟩
    · rw [if_neg z]; exact ⟨e, he⟩
  · exact fun a h => dm a (I.sub a h)
  · exact tabs_off I.tabs h2.plc k
theorem FI.write (I : FI F σ H env) {i : Nat} {p : Addr} {d d' : D} {o' : HO} (hi : i ∈ F.ow) (hg : env.get i = some d) (hs : σ[i]? = some (some (.ref p)))
    (hc : Cont F.G (upd H p o') (OO F σ env) p d') : Post F σ H env (upd H p o') (env.put i d') :=
  I.chg hi hg hs (fun a o e ne => by rw [upd_ne ne]; exact e) hc

/-- other slots, the owning ones as they were -/
theorem FI.slots (I : FI F σ H env) {σ' : St} {env' : Env} (hl : env'.length = σ'.length) (ho : ∀ i, i ∈ F.ow → σ'[i]? = σ[i]? ∧ env'.get i = env.get i)
    (hf : ∀ i d, i ∉ F.ow → env'.get i = some d → ∃ v, σ'[i]? = some (some v) ∧ FR F.G H (OO F σ env) v d) : FI F σ' H env' ∧ ∀ a, OO F σ' env' a ↔ OO F σ env a := by
  have hO : ∀ a, OO F σ' env' a ↔ OO F σ env a := fun a => by
    unfold OO ownA
    constructor
    · rintro (z | ⟨j, hj, he, h⟩)
      · exact .inl z
      · rw [(ho j hj).1] at h
        rw [(ho j hj).2] at he
        exact .inr ⟨j, hj, he, h⟩
    · rintro (z | ⟨j, hj, he, h⟩)
      · exact .inl z
      · refine .inr ⟨j, hj, ?_, ?_⟩
        · rw [(ho j hj).2]; exact he
        · rw [(ho j hj).1]; exact h
  have st : Stp H (OO F σ env) H (OO F σ' env') := .mono fun a z => (hO a).mp z
  refine ⟨⟨hl, ?_, ?_, ?_, I.kp, I.live, ?_, I.live0, I.oe, I.sub, I.tabs, fun q hq => (I.ex q hq).carry st⟩, hO⟩
  · intro i d h n
    obtain ⟨v, a, b⟩ := hf i d n h
    exact ⟨v, a, b.carry st⟩
  · intro i d h n
    rw [(ho i n).2] at h
    obtain ⟨p, a, b, c⟩ := I.own i d h n
    exact ⟨p, by rw [(ho i n).1]; exact a, b.carry st rfl, c⟩
  · intro i j p hi hj h1 h2 h3 h4
    rw [(ho i hi).2] at h1
    rw [(ho j hj).2] at h2
    rw [(ho i hi).1] at h3
    rw [(ho j hj).1] at h4
    exact I.dist i j p hi hj h1 h2 h3 h4
  · intro q hq
    obtain ⟨a, b, c, e⟩ := I.ip q hq
    refine ⟨a, b, ?_, ?_⟩
    · rw [(ho _ a).1]; exact c
    · rw [(ho _ a).2]; exact e
/-- data are stored -/
theorem FI.put (I : FI F σ H env) {i : Nat} {v : V} {d : D} (hi : i ∉ F.ow) (hl : i < env.length) (r : FR F.G H (OO F σ env) v d) : FI F (σ.set i (some v)) H (env.put i d) ∧ ∀ a, OO F (σ.set i (some v)) (env.put i d) a ↔ OO F σ env a := by
  refine I.slots (by rw [put_len, List.length_set]; exact I.len) (fun j hj => ?_) fun j e hj he => ?_
  · have ne : j ≠ i := fun z => hi (z ▸ hj)
    rw [get_put hl, if_neg ne, List.getElem?_set_ne (Ne.symm ne)]
    exact ⟨rfl, rfl⟩
  · rw [get_put hl] at he
    by_cases ne : j = i
    · subst ne
      rw [if_pos rfl] at he
      cases he
      exact ⟨v, List.getElem?_set_self (by rw [← I.len]; exact hl), r⟩
    · rw [if_neg ne] at he
      rw [List.getElem?_set_ne (Ne.symm ne)]
      exact I.fr j e he hj

/-- p, which is new, is guarded -/
theorem FI.guard (I : FI F σ H env) {p : Addr} {o : HO} (n : H p = none) (ht : Nt o := by exact fun _ z => nomatch z) : FI (F.guard p) σ (upd H p o) env := by
  have I1 := I.ext (Ext.upd (o := o) n)
  have st : Stp H (OO F σ env) (upd H p o) (OO (F.guard p) σ env) := ⟨fun a u e _ _ => Ext.upd n a u e, fun a z => by
    rcases z with (z | z) | z
    · exact .inl (.inl z)
    · exact .inr (z ▸ Av.none n)
    · exact .inl (.inr z), (Ext.upd n).dom⟩
  refine ⟨I.len, fun i d h m => ?_, fun i d h m => ?_, I.dist, I1.kp, ?_, I.ip, I.live0, fun a z => .inl (I.oe a z), I1.sub, I1.tabs, fun q hq => (I.ex q hq).carry st⟩
  · obtain ⟨v, a, b⟩ := I.fr i d h m
    exact ⟨v, a, b.carry st⟩
  · obtain ⟨q, a, b, c⟩ := I.own i d h m
    obtain ⟨u, hu, _⟩ := b.av
    exact ⟨q, a, b.carry st ((Ext.upd n q u hu).trans hu.symm), c⟩
  · rintro a (z | z)
    · exact I1.live a z
    · rw [z]; exact ⟨o, upd_same, ht⟩
theorem guard_oo {p : Addr} (a : Addr) : OO (F.guard p) σ env a ↔ (OO F σ env a ∨ a = p) := by
  unfold OO
  show ((F.Ox a ∨ a = p) ∨ ownA F.ow σ env a) ↔ _
  constructor
  · rintro ((z | z) | z)
    · exact .inl (.inl z)
    · exact .inr z
    · exact .inl (.inr z)
  · rintro ((z | z) | z)
    · exact .inl (.inl z)
    · exact .inr z
    · exact .inl (.inr z)
theorem FI.unguard {p : Addr} (I : FI (F.guard p) σ H env) (oe : ∀ a, F.Oe a → F.Ox a) : FI F σ H env := by
  have st : Stp H (OO (F.guard p) σ env) H (OO F σ env) := .mono fun a z => (guard_oo a).mpr (.inl z)
  refine ⟨I.len, fun i d h m => ?_, fun i d h m => ?_, I.dist, I.kp, fun a z => I.live a (.inl z), I.ip, I.live0, oe, I.sub, I.tabs, fun q hq => (I.ex q hq).carry st⟩
  · obtain ⟨v, a, b⟩ := I.fr i d h m
    exact ⟨v, a, b.carry st⟩
  · obtain ⟨q, a, b, c⟩ := I.own i d h m
    exact ⟨q, a, b.carry st rfl, c⟩
/-- what is guarded is written -/
theorem FI.wrote {p : Addr} {o : HO} (I : FI (F.guard p) σ H env) (n : ¬ OO F σ env p) (c : Plc H p) (h0 : ¬ Av F.H0 p) (ht : Nt o := by exact fun _ z => nomatch z) : FI (F.guard p) σ (upd H p o) env := by
  have k : ∀ a u, H a = some u → a ≠ p → upd H p o a = some u := fun a u e ne => by rw [upd_ne ne]; exact e
  have hp : OO (F.guard p) σ env p := (guard_oo p).mpr (.inr rfl)
  have dm : ∀ a, Av H a → Av (upd H p o) a := fun a m => av_upd ht a m
  have st : Stp H (OO (F.guard p) σ env) (upd H p o) (OO (F.guard p) σ env) := ⟨fun a u e _ m => k a u e (fun z => m (z ▸ hp)), fun _ z => .inl z, dm⟩
  refine ⟨I.len, fun i d h m => ?_, fun i d h m => ?_, I.dist, fun a u e m t => ?_, fun a z => dm a (I.live a z), I.ip, I.live0, I.oe, fun a h => dm a (I.sub a h), tabs_off I.tabs c k, fun q hq => (I.ex q hq).carry st⟩
  · obtain ⟨v, a, b⟩ := I.fr i d h m
    exact ⟨v, a, b.carry st⟩
  · obtain ⟨q, a, b, c⟩ := I.own i d h m
    have ne : q ≠ p := fun z => n (.inr ⟨i, m, ⟨d, h⟩, z ▸ a⟩)
    exact ⟨q, a, b.carry st (upd_ne ne), c⟩
  · refine k a u (I.kp a u e m t) fun z => ?_
    have e' : F.H0 p = some u := z ▸ e
    exact h0 ⟨u, e', t⟩
/-- a new thing is owned by the slot i from now on -/
theorem FI.thaw {p : Addr} {i : Nat} {d : D} (I : FI (F.guard p) σ H env) (oe : ∀ a, F.Oe a → F.Ox a) (hi : i ∈ F.ow) (hl : i < env.length) (hq : ∀ q ∈ F.Ip, q.1 ≠ i) (n : ¬ OO F σ env p) (h0 : ¬ Av F.H0 p)
    (hc : Cont F.G H (OO (F.guard p) σ env) p d) : FI F (σ.set i (some (.ref p))) H (env.put i d) := by
  have hls : i < σ.length := by rw [← I.len]; exact hl
  have hO : ∀ a, OO F (σ.set i (some (.ref p))) (env.put i d) a → OO (F.guard p) σ env a := fun a z => by
    rw [guard_oo]
    rcases z with z | ⟨j, hj, ⟨e, he⟩, h⟩
    · exact .inl (.inl z)
    · by_cases q : j = i
      · subst q
        rw [List.getElem?_set_self hls] at h
        cases h
        exact .inr rfl
      · rw [get_put hl, if_neg q] at he
        rw [List.getElem?_set_ne (Ne.symm q)] at h
        exact .inl (.inr ⟨j, hj, ⟨e, he⟩, h⟩)
  have st : Stp H (OO (F.guard p) σ env) H (OO F (σ.set i (some (.ref p))) (env.put i d)) := .mono hO
  refine ⟨by rw [put_len, List.length_set]; exact I.len, fun j e he hj => ?_, fun j e he hj => ?_, ?_, I.kp, fun a z => I.live a (.inl z), fun q hq' => ?_, I.live0, oe, I.sub, I.tabs, fun q hq => (I.ex q hq).carry st⟩
  · have q : j ≠ i := fun z => hj (z ▸ hi)
    rw [get_put hl, if_neg q] at he
    obtain ⟨v, a, b⟩ := I.fr j e he hj
    exact ⟨v, by rw [List.getElem?_set_ne (Ne.symm q)]; exact a, b.carry st⟩
  · by_cases q : j = i
    · subst q
      rw [get_put hl, if_pos rfl] at he
      cases he
      exact ⟨p, List.getElem?_set_self hls, hc.carry st rfl, .inr h0⟩
    · rw [get_put hl, if_neg q] at he
      obtain ⟨r, a, b, c⟩ := I.own j e he hj
      exact ⟨r, by rw [List.getElem?_set_ne (Ne.symm q)]; exact a, b.carry st rfl, c⟩
  · rintro j k r hj hk ⟨e, he⟩ ⟨f, hf⟩ h1 h2
    by_cases q : j = i
    · by_cases q2 : k = i
      · rw [q, q2]
      · subst q
        rw [List.getElem?_set_self hls] at h1
        cases h1
        rw [get_put hl, if_neg q2] at hf
        rw [List.getElem?_set_ne (Ne.symm q2)] at h2
        exact (n (.inr ⟨k, hk, ⟨f, hf⟩, h2⟩)).elim
    · rw [get_put hl, if_neg q] at he
      rw [List.getElem?_set_ne (Ne.symm q)] at h1
      by_cases q2 : k = i
      · subst q2
        rw [List.getElem?_set_self hls] at h2
        cases h2
        exact (n (.inr ⟨j, hj, ⟨e, he⟩, h1⟩)).elim
      · rw [get_put hl, if_neg q2] at hf
        rw [List.getElem?_set_ne (Ne.symm q2)] at h2
        exact I.dist j k r hj hk ⟨e, he⟩ ⟨f, hf⟩ h1 h2
  · obtain ⟨a, b, c, e, he⟩ := I.ip q hq'
    have z : q.1 ≠ i := hq q hq'
    refine ⟨a, b, ?_, ?_⟩
    · rw [List.getElem?_set_ne (Ne.symm z)]; exact c
    · rw [get_put hl, if_neg z]; exact ⟨e, he⟩
end
end Bh
/-! text Bh4a -/
set_option Elab.async false
set_option linter.all false
set_option maxRecDepth 100000
set_option maxHeartbeats 1000000
/-! Bh4a: data as the library's data; sorted. -/
namespace Bh
open PySem PySem.W L2 PyProof.Rows

mutual
/-- the library's data -/
def toPy : D → PyData
  | .bl b => .bool b
  | .int i => .int i
  | .str s => .str ⟨s.toArray⟩
  | .tup xs => .tuple (toPys xs)
  | .lst xs => .list (toPys xs)
  | _ => .none
def toPys : List D → List PyData
  | [] => []
  | x :: xs => toPy x :: toPys xs
end
theorem toPys_map : ∀ xs : List D, toPys xs = xs.map toPy
  | [] => by simp [toPys]
  | x :: xs => by simp [toPys, toPys_map xs]
mutual
theorem toPy_plain : ∀ d : D, plain d = true → (toPy d).plain = true
  | .non, _ => by simp [toPy, PyData.plain]
  | .bl _, _ => by simp [toPy, PyData.plain]
  | .int _, _ => by simp [toPy, PyData.plain]
  | .str _, _ => by simp [toPy, PyData.plain]
  | .tup xs, h => by simp only [toPy, PyData.plain]; exact toPys_plain xs (by simpa [plain] using h)
  | .lst xs, h => by simp only [toPy, PyData.plain]; exact toPys_plain xs (by simpa [plain] using h)
  | .dct _, h => by simp [plain] at h
  | .obj _ _, h => by simp [plain] at h
theorem toPys_plain : ∀ xs : List D, plains xs = true → PyData.plainAll (toPys xs) = true
  | [], _ => by simp [toPys, PyData.plainAll]
  | x :: xs, h => by
    have h' : plain x = true ∧ plains xs = true := by simpa [plains] using h
    simp only [toPys, PyData.plainAll, toPy_plain x h'.1, toPys_plain xs h'.2, Bool.and_self]
end
mutual
theorem toPy_dep : ∀ d : D, (toPy d).depth = dep d
  | .non => by simp [toPy, PyData.depth, dep]
  | .bl _ => by simp [toPy, PyData.depth, dep]
  | .int _ => by simp [toPy, PyData.depth, dep]
  | .str _ => by simp [toPy, PyData.depth, dep]
  | .tup xs => by simp only [toPy, PyData.depth, dep, toPys_dep xs]
  | .lst xs => by simp only [toPy, PyData.depth, dep, toPys_dep xs]
  | .dct _ => by simp [toPy, PyData.depth, dep]
  | .obj _ _ => by simp [toPy, PyData.depth, dep]
theorem toPys_dep : ∀ xs : List D, PyData.depthAll (toPys xs) = deps xs
  | [] => by simp [toPys, PyData.depthAll, deps]
  | x :: xs => by simp only [toPys, PyData.depthAll, deps, toPy_dep x, toPys_dep xs]
end
theorem str_beq (x y : List Nat) : ((⟨x.toArray⟩ : Str) == ⟨y.toArray⟩) = (x == y) := by
  rw [Bool.eq_iff_iff, beq_iff_eq, beq_iff_eq]
  constructor
  · intro h
    have h1 := congrArg (fun s : Str => s.cps.toList) h
    simpa using h1
  · intro h; rw [h]
mutual
theorem toPy_eqv : ∀ a b : D, plain a = true → plain b = true → PyData.eqv (toPy a) (toPy b) = eqv a b
  | .dct _, _, h, _ => by simp [plain] at h
  | .obj _ _, _, h, _ => by simp [plain] at h
  | .non, b, _, hb => by cases b <;> first | (simp [plain] at hb; done) | simp [toPy, PyData.eqv, eqv]
  | .bl _, b, _, hb => by cases b <;> first | (simp [plain] at hb; done) | (simp [toPy, PyData.eqv, eqv, b2i]; done) | simp [toPy, PyData.eqv, eqv, Bh.b2i]
  | .int _, b, _, hb => by cases b <;> first | (simp [plain] at hb; done) | (simp [toPy, PyData.eqv, eqv, b2i]; done) | simp [toPy, PyData.eqv, eqv, Bh.b2i]
  | .str _, b, _, hb => by
    cases b with
    | str y => simp only [toPy, PyData.eqv, eqv]; exact str_beq _ _
    | dct _ => simp [plain] at hb
    | obj _ _ => simp [plain] at hb
    | _ => simp [toPy, PyData.eqv, eqv]
  | .tup xs, b, ha, hb => by
    cases b with
    | tup ys => simp only [toPy, PyData.eqv, eqv]; exact toPys_eqv xs ys (by simpa [plain] using ha) (by simpa [plain] using hb)
    | dct _ => simp [plain] at hb
    | obj _ _ => simp [plain] at hb
    | _ => simp [toPy, PyData.eqv, eqv]
  | .lst xs, b, ha, hb => by
    cases b with
    | lst ys => simp only [toPy, PyData.eqv, eqv]; exact toPys_eqv xs ys (by simpa [plain] using ha) (by simpa [plain] using hb)
    | dct _ => simp [plain] at hb
    | obj _ _ => simp [plain] at hb
    | _ => simp [toPy, PyData.eqv, eqv]
theorem toPys_eqv : ∀ xs ys : List D, plains xs = true → plains ys = true → PyData.eqvAll (toPys xs) (toPys ys) = eqvs xs ys
  | [], [], _, _ => by simp [toPys, PyData.eqvAll, eqvs]
  | [], _ :: _, _, _ => by simp [toPys, PyData.eqvAll, eqvs]
  | _ :: _, [], _, _ => by simp [toPys, PyData.eqvAll, eqvs]
  | x :: xs, y :: ys, h, h2 => by
    have h' : plain x = true ∧ plains xs = true := by simpa [plains] using h
    have h2' : plain y = true ∧ plains ys = true := by simpa [plains] using h2
    simp only [toPys, PyData.eqvAll, eqvs, toPy_eqv x y h'.1 h2'.1, toPys_eqv xs ys h'.2 h2'.2]
end

section
variable {G : Gx} {H : Hp} {O : Addr → Prop} {X : Cx} {pins : List (Addr × Obj)} {σ : L2.St} {s : Shared}
theorem KTup.sq {K : PySem.W.Frag} {a : Addr} {vs : List V} (h : KTup K a vs) : SqT K H a vs := .inr h
theorem tup_reads (I : Inv X pins σ H s) {a : Addr} {vs : List V} (h : SqT X.K H a vs) {xs : List PyData} (k : ∀ us, Vals vs us → ∃ as, ReadsAll s.heap us xs as) : ∃ as, Reads s.heap (.ref a) (.tuple xs) as := by
  obtain ⟨its, r, ⟨o, ho, hc, n, hd⟩, _⟩ := I.tuple h
  obtain ⟨as, q⟩ := k its r
  exact ⟨as, .tuple ho hc hd (by simpa using q)⟩
theorem lst_reads (I : Inv X pins σ H s) {a : Addr} {vs : List V} (h : SqL X.K H a vs) {xs : List PyData} (k : ∀ us, Vals vs us → ∃ as, ReadsAll s.heap us xs as) : ∃ as, Reads s.heap (.ref a) (.list xs) as := by
  obtain ⟨its, r, ⟨o, n, ho, hc, _, hd⟩, _⟩ := I.list h
  obtain ⟨as, q⟩ := k its r
  exact ⟨_, .list ho hc hd (by simpa using q)⟩
mutual
theorem FR.reads (I : Inv X pins σ H s) (hK : G.K = X.K) : ∀ {v : V} {d : D}, FR G H O v d → plain d = true → ∀ u, RelV v u → ∃ as, Reads s.heap u (toPy d) as
  | _, _, .non, _, _, r => by cases r; exact ⟨_, .none⟩
  | _, _, .bl b, _, _, r => by cases r; exact ⟨_, .bool b⟩
  | _, _, .int i, _, _, ⟨t, e⟩ => by cases e; exact ⟨_, .int i t⟩
  | _, _, .str x, _, _, ⟨t, e⟩ => by cases e; exact ⟨_, .str _ t⟩
  | _, _, .tup (ds := ds) e n r, hp, u, hu => by
    cases hu
    exact tup_reads I (SqT.of e) fun us q => FRs.reads I hK r (by simpa [plain] using hp) us q
  | _, _, .tupk (ds := ds) k r, hp, u, hu => by
    cases hu
    exact tup_reads I (.inr (hK ▸ k)) fun us q => FRs.reads I hK r (by simpa [plain] using hp) us q
  | _, _, .lst e n r, hp, u, hu => by
    cases hu
    exact lst_reads I (SqL.of e) fun us q => FRs.reads I hK r (by simpa [plain] using hp) us q
  | _, _, .dct _ _ _ _ _ _ _ _, hp, _, _ => by simp [plain] at hp
  | _, _, .obj _ _ _, hp, _, _ => by simp [plain] at hp
theorem FRs.reads (I : Inv X pins σ H s) (hK : G.K = X.K) : ∀ {vs : List V} {ds : List D}, FRs G H O vs ds → plains ds = true → ∀ us, Vals vs us → ∃ as, ReadsAll s.heap us (toPys ds) as
  | _, _, .nil, _, us, r => by cases r; exact ⟨_, .nil⟩
  | _, _, .cons (d := d) (ds := ds) a b, hp, us, r => by
    have h' : plain d = true ∧ plains ds = true := by simpa [plains] using hp
    cases r with
    | cons r1 r2 =>
      obtain ⟨as, q1⟩ := FR.reads I hK a h'.1 _ r1
      obtain ⟨bs, q2⟩ := FRs.reads I hK b h'.2 _ r2
      exact ⟨_, .cons q1 q2⟩
end
theorem BR.reads (I : Inv X pins σ H s) (hK : G.K = X.K) {v : V} {d : D} {u : Value} (b : BR G H O v d) (hp : plain d = true) (r : RelV v u) : ∃ as, Reads s.heap u (toPy d) as := by
  rcases b with b | ⟨p, rfl, b⟩
  · exact b.reads I hK hp u r
  · cases r
    cases b with
    | lst e r => exact lst_reads I (SqL.of e) fun us q => r.reads I hK (by simpa [plain] using hp) us q
    | dct h1 h2 h3 h4 h5 h6 h7 => simp [plain] at hp
    | obj h1 h2 => simp [plain] at hp
end

/-! ### the order -/
mutual
theorem toPy_toks : ∀ d : D, keyToks (toPy d) = toks d
  | .non => by simp [toPy, toks, keyToks]
  | .bl b => by simp [toPy, toks, keyToks, b2i]
  | .int _ => by simp [toPy, toks, keyToks]
  | .str _ => by simp [toPy, toks, keyToks]
  | .tup xs => by simp only [toPy, toks, keyToks]; exact toPys_toks xs
  | .lst xs => by simp only [toPy, toks, keyToks]; exact toPys_toks xs
  | .dct _ => by simp [toPy, toks, keyToks]
  | .obj _ _ => by simp [toPy, toks, keyToks]
theorem toPys_toks : ∀ xs : List D, keyToksAll (toPys xs) = tokss xs
  | [] => by simp [toPys, tokss, keyToksAll]
  | x :: xs => by
    have h := toPy_toks x
    simp only [toPys, tokss, keyToksAll, h, toPys_toks xs]
end
end Bh
/-! text Bh4b -/
set_option Elab.async false
set_option linter.all false
set_option maxRecDepth 100000
set_option maxHeartbeats 1000000
/-! Bh4b: sorted. -/
namespace Bh
open PySem PySem.W L2 PyProof.Rows

theorem ltTok_eq (x y : Int ⊕ List Nat) : itemOrd.blt x y = ltTok x y := by
  cases x <;> cases y <;> rfl
theorem ltToks_eq : ∀ x y : List (Int ⊕ List Nat), PyProof.Rows.lexLt itemOrd x y = ltToks x y
  | [], [] => by first | rfl | simp [PyProof.Rows.lexLt, ltToks]
  | [], _ :: _ => by first | rfl | simp [PyProof.Rows.lexLt, ltToks]
  | _ :: _, [] => by first | rfl | simp [PyProof.Rows.lexLt, ltToks]
  | x :: r, y :: t => by
    rw [lex_cons, ltToks_eq r t, ltTok_eq, ltTok_eq]
    rfl
theorem leD_eq : dataLe false toPy = leD := by
  rw [dataLe_eq]
  funext a b
  show (!dataLt (toPy b) (toPy a)) = leD a b
  unfold dataLt leD
  rw [ltToks_eq, toPy_toks, toPy_toks]
theorem leD_total : TotalLe leD := by
  rw [← leD_eq]
  exact sortLe_total _ _ _
theorem insD_eq {x : D} : ∀ l1 l2 : List D, (∀ b ∈ l1, leD x b = false) → (∀ b r, l2 = b :: r → leD x b = true) → insD x (l1 ++ l2) = l1 ++ x :: l2
  | [], [], _, _ => rfl
  | [], b :: r, _, h => by
    show (if leD x b then x :: b :: r else b :: insD x r) = _
    rw [h b r rfl, if_pos rfl]
    rfl
  | b :: l1, l2, h, h2 => by
    show (if leD x b then x :: b :: (l1 ++ l2) else b :: insD x (l1 ++ l2)) = _
    rw [h b List.mem_cons_self, if_neg (by decide), insD_eq l1 l2 (fun c hc => h c (List.mem_cons_of_mem _ hc)) h2]
    rfl
theorem sortD_eq : ∀ xs : List D, xs.mergeSort leD = sortD xs
  | [] => by simp [sortD]
  | x :: xs => by
    have tr := leD_total.trans
    have to : ∀ a b, (leD a b || leD b a) = true := fun a b => by
      rcases leD_total.total a b with h | h
      · rw [h]; rfl
      · rw [h]; simp
    obtain ⟨l1, l2, e1, e2, e3⟩ := List.mergeSort_cons tr to x xs
    have ps := List.pairwise_mergeSort tr to (x :: xs)
    rw [e1] at ps
    show _ = insD x (sortD xs)
    rw [← sortD_eq xs, e2, e1]
    refine (insD_eq l1 l2 (fun b hb => by simpa using e3 b hb) fun b r hb => ?_).symm
    subst hb
    have p2 := (List.pairwise_append.mp ps).2.1
    exact (List.pairwise_cons.mp p2).1 b List.mem_cons_self
mutual
theorem toPy_alike : ∀ a b : D, plain a = true → plain b = true → PySem.W.alike (toPy a) (toPy b) = alike a b
  | .dct _, _, h, _ => by simp [plain] at h
  | .obj _ _, _, h, _ => by simp [plain] at h
  | .non, b, _, hb => by cases b <;> first | (simp [plain] at hb; done) | simp [toPy, PySem.W.alike, alike]
  | .bl _, b, _, hb => by cases b <;> first | (simp [plain] at hb; done) | simp [toPy, PySem.W.alike, alike]
  | .int _, b, _, hb => by cases b <;> first | (simp [plain] at hb; done) | simp [toPy, PySem.W.alike, alike]
  | .str _, b, _, hb => by cases b <;> first | (simp [plain] at hb; done) | simp [toPy, PySem.W.alike, alike]
  | .tup xs, b, ha, hb => by
    cases b with
    | tup ys => simp only [toPy, PySem.W.alike, alike]; exact toPys_alike xs ys (by simpa [plain] using ha) (by simpa [plain] using hb)
    | dct _ => simp [plain] at hb
    | obj _ _ => simp [plain] at hb
    | _ => simp [toPy, PySem.W.alike, alike]
  | .lst xs, b, ha, hb => by
    cases b with
    | lst ys => simp only [toPy, PySem.W.alike, alike]; exact toPys_alike xs ys (by simpa [plain] using ha) (by simpa [plain] using hb)
    | dct _ => simp [plain] at hb
    | obj _ _ => simp [plain] at hb
    | _ => simp [toPy, PySem.W.alike, alike]
theorem toPys_alike : ∀ xs ys : List D, plains xs = true → plains ys = true → PySem.W.alikeAll (toPys xs) (toPys ys) = alikes xs ys
  | [], _, _, _ => by simp [toPys, PySem.W.alikeAll, alikes]
  | _ :: _, [], _, _ => by simp [toPys, PySem.W.alikeAll, alikes]
  | x :: xs, y :: ys, h, h2 => by
    have h' : plain x = true ∧ plains xs = true := by simpa [plains] using h
    have h2' : plain y = true ∧ plains ys = true := by simpa [plains] using h2
    simp only [toPys, PySem.W.alikeAll, alikes, toPy_alike x y h'.1 h2'.1, toPys_alike xs ys h'.2 h2'.2]
end
section
variable {prog : Program} {w : World} {A : Around} {E : Value → Shared → Prop} {s : Shared} {R : Value → D → Prop} {vs : List Value} {xs : List D}
/-- sorted of a list or a tuple: a new list -/
theorem sorted_seq {t : Addr} {T : String} {o : Obj} {n : Nat} {Q : Value → Shared → Prop} (hT : T = "list" ∨ T = "tuple") (ho : s.heap.get? t = some o) (hc : o.cls = .type T) (hd : o.data = .seq vs.toArray n)
    (e : EachIs R vs xs) (er : EachIs (fun v b => ∃ as, Reads s.heap v (toPy b) as) vs xs) (hk : sortable xs = true) (hL : xs.length ≤ sizeLine) (hu : A.units + 105 < cLine)
    (h : ∀ (h1 h' : Heap) (p c : Nat) (out : List Value), (∀ b o', s.heap.get? b = some o' → h1.get? b = some o') → (∀ b o', h1.get? b = some o' → h'.get? b = some o') → h1.objs.size ≤ p → h'.get? p = some (listOf (List.toArray out) c) → EachIs R out (sortD xs) → Q (.ref p) { s with heap := h' }) :
    wpAny (model prog w) A (call (.builtin "sorted") [.ref t]) Q E s := by
  have hk1 : (∀ a ∈ xs, ∀ b ∈ xs, alike a b = true) ∧ (∀ a ∈ xs, plain a = true ∧ dep a ≤ 100) ∧ ((∀ a ∈ xs, tup1 a = true) ∨ ∀ a ∈ xs, noTup a = true) := by
    unfold sortable at hk
    simp only [Bool.and_eq_true, Bool.or_eq_true, List.all_eq_true, decide_eq_true_eq] at hk
    exact ⟨hk.1.1, hk.1.2, hk.2⟩
  obtain ⟨k1, k2, k3⟩ := hk1
  have hal : AllAlike (xs.map toPy) := by
    intro d hd d' hd'
    obtain ⟨a, ha, rfl⟩ := List.mem_map.mp hd
    obtain ⟨b, hb, rfl⟩ := List.mem_map.mp hd'
    rw [toPy_alike a b (k2 a ha).1 (k2 b hb).1]
    exact k1 a ha b hb
  have hso : Sortable (xs.map toPy) := by
    rcases k3 with k3 | k3
    · refine .inl fun d hd => ?_
      obtain ⟨a, ha, rfl⟩ := List.mem_map.mp hd
      have := k3 a ha
      cases a with
      | tup ys => cases ys with
        | nil => simp [tup1] at this
        | cons y ys => exact ⟨toPy y, toPys ys, by simp only [toPy, toPys]⟩
      | _ => simp [tup1] at this
    · refine .inr fun d hd => ?_
      obtain ⟨a, ha, rfl⟩ := List.mem_map.mp hd
      have h1 := k3 a ha
      have h2 := (k2 a ha).1
      cases a with
      | tup ys => simp [noTup] at h1
      | non => simp [noTup] at h1
      | dct _ => simp [plain] at h2
      | obj _ _ => simp [plain] at h2
      | _ => exact ⟨by simp [toPy], fun xs => by simp [toPy]⟩
  have hvl : vs.length ≤ sizeLine := by rw [e.length]; exact hL
  refine call_function_entry_kw kind_sorted plain_sorted entry_sorted (args_sorted1 _) ?_
  unfold Builtin.«sorted»
  refine wpAny_bind (m := checkCount "sorted" 1 1 _) (wpAny_pure ?_)
  refine wpAny_bind (wpAny_collect_seq t hT ho hc hd (fun h1 k1' => ?_) (by simpa using hvl))
  have e1 : (vs.toArray).toList = vs := by simp
  rw [e1]
  refine wpAny_bind (wpAny_newList ?_ hvl)
  have hat : (h1.push (seqObj "list" vs.toArray 0)).get? h1.objs.size = some (seqObj "list" vs.toArray 0) := Heap.get?_push_size _ rfl
  have er' : EachIs (fun v b => ∃ as, Reads (sortingHeap (h1.push (seqObj "list" vs.toArray 0)) h1.objs.size vs) v (toPy b) as) vs xs := er.mono fun v b ⟨as, r⟩ =>
    ⟨as, Reads.keeps (fun c u q => sortingHeap_old (Nat.ne_of_lt (Heap.lt_size (k1' c u q))) (Heap.get?_push_of_some _ (k1' c u q))) r⟩
  have hu' : ∀ b, b ∈ xs → A.in1.in1.units + (toPy b).depth < cLine := fun b hb => by
    rw [toPy_dep]
    have := (k2 b hb).2
    show A.units + 1 + 1 + dep b < cLine
    omega
  show wpAny (model prog w) _ _ _ _ { s with heap := h1.push (seqObj "list" vs.toArray 0) }
  refine wpAny_bind (wpAny_holding (wpAny_call_entry_kw slot_list_sort ⟨_, hat, rfl⟩ entry_list_sort ?body (args_list_sort _)))
  case body =>
    refine wpAny_mono (list_sort_vals (κ := dataKind (sortingHeap (h1.push (seqObj "list" vs.toArray 0)) h1.objs.size vs) (xs.map toPy))
      (s := { s with heap := h1.push (seqObj "list" vs.toArray 0) }) (A := A.in1.in1) hat
      (SortsAt.data (s := { s with heap := sortingHeap (h1.push (seqObj "list" vs.toArray 0)) h1.objs.size vs }) (each_map (R := fun v d => ∃ as, Reads (sortingHeap (h1.push (seqObj "list" vs.toArray 0)) h1.objs.size vs) v d as) toPy er') hal hso (bound_map hu')) hvl
      (P := fun f s' => f = .done (.ret .none) ∧ Q (.ref h1.objs.size) s') ⟨rfl, ?_⟩) (fun f s' hf => ?_) fun _ _ e => e
    · obtain ⟨c, hc'⟩ := sortedHeap_at (out := (sortVals (dataKind (sortingHeap (h1.push (seqObj "list" vs.toArray 0)) h1.objs.size vs) (xs.map toPy)) false vs vs).toArray) hat
      refine h h1 _ _ c _ k1' (fun b o' q1 => ?_) (Nat.le_refl _) hc' ?_
      · have q2 : (h1.push (seqObj "list" vs.toArray 0)).get? b = some o' := Heap.get?_push_of_some _ q1
        rw [sortedHeap_old (Nat.ne_of_lt (Heap.lt_size q1)) (Heap.lt_size q2)]
        exact q2
      · have q := sortVals_data false e er' hal
        rw [leD_eq, sortD_eq] at q
        exact q
    · obtain ⟨rfl, hq⟩ := hf
      exact ⟨_, rfl, wpAny_pure ⟨_, rfl, hq⟩⟩
end
end Bh
/-! text Bh4c -/
set_option Elab.async false
set_option linter.all false
set_option maxRecDepth 100000
set_option maxHeartbeats 1000000
/-! Bh4c: what operators, places, built-in functions do to data. -/
namespace Bh
open PySem PySem.W L2 PyProof.Rows

/-- the wish of a result that stands already, or is no list, no dict -/
def RX (G : Gx) (H : Hp) (O : Addr → Prop) (r : D) (Q : VK) : Prop := ∀ v H1, Ext H H1 → FR G H1 O v r → Q v H1
/-- the wish of a result: a list is made new -/
def RR (G : Gx) (H : Hp) (O : Addr → Prop) (r : D) (Q : VK) : Prop := match r with
  | .lst ds => ∀ H1 vs p, Ext H H1 → FRs G H1 O vs ds → H1 p = none → Q (.ref p) (upd H1 p (.lst vs))
  | .dct kvs => ∀ (o : Obj) (es : Array DictEntry) (ep : Nat) (p : Addr), H p = none → o.ExactDict → o.data = .dict es ep → es.size ≤ sizeLine → (p == sysModules) = false → FRe G H O es.toList kvs → (kvs.map fun q => nk q.1).Nodup → Q (.ref p) (upd H p (pin p o))
  | r => RX G H O r Q
def rOp (G : Gx) (g : D → D → Option D) : R2 := fun x y H Q => ∃ O dx dy r, Live H O ∧ BR G H O x dx ∧ BR G H O y dy ∧ g dx dy = some r ∧ RR G H O r Q
def rCm (G : Gx) (g : D → D → Option Bool) : R2 := fun x y H Q => ∃ O dx dy r, Live H O ∧ BR G H O x dx ∧ BR G H O y dy ∧ g dx dy = some r ∧ Q (.bl r) H
def rIxD (G : Gx) : R2 := fun x y H Q => ∃ O dx dy r, Live H O ∧ BR G H O x dx ∧ BR G H O y dy ∧ idxD dx dy = some r ∧ RX G H O r Q
def rBf (G : Gx) (g : List D → Option D) : List V → Hp → VK → Prop := fun vs H Q => ∃ O ds r, Live H O ∧ BRs G H O vs ds ∧ g ds = some r ∧ RR G H O r Q

section
variable {X : Cx} {G : Gx} {H : Hp} {O : Addr → Prop}
theorem FRs.upd {p : Addr} {o : HO} {vs : List V} {ds : List D} (n : H p = none) (r : FRs G H O vs ds) : FRs G (upd H p o) O vs ds := r.carry (Ext.upd n).stp
theorem okLen_le {n : Nat} (h : okLen n = true) : n ≤ sizeLine := of_decide_eq_true h
/-- a new tuple -/
theorem fr_newtup {p : Addr} {vs : List V} {ds : List D} (l : Live H O) (n : H p = none) (r : FRs G H O vs ds) : FR G (upd H p (.tup vs)) O (.ref p) (.tup ds) :=
  .tup upd_same (fun z => Av.none n (l p z)) (FRs.upd n r)
theorem seqT_fr {p : Addr} {vs : List V} {ds : List D} (h : SqT G.K H p vs) (b : BR G H O (.ref p) (.tup ds)) : FR G H O (.ref p) (.tup ds) := by
  rcases b with b | ⟨q, e, b⟩
  · exact b
  · cases b

theorem op_addD (hK : G.K = X.K) : OpR X (binaryOp .Add) (rOp G addD) := by
  rintro pins s σ H x y v u Q I rx ry ⟨O, dx, dy, r, lv, bx, bz, e, q⟩
  unfold addD at e
  split at e
  · cases e
    have e1 := bx.int
    have e2 := bz.int
    subst e1; subst e2
    exact op_add pins s σ H _ _ v u Q I rx ry ⟨_, _, rfl, rfl, q _ H (Same.refl H) (.int _)⟩
  · rename_i a b
    split at e
    · rename_i hl
      cases e
      have e1 := bx.str
      have e2 := bz.str
      subst e1; subst e2
      refine op_add_str pins s σ H _ _ v u Q I rx ry ⟨_, _, rfl, rfl, ?_, ?_⟩
      · have := okLen_le hl
        simpa [Str.length] using this
      · have := q (.str ⟨(a ++ b).toArray⟩) H (Same.refl H) (.str _)
        have e3 : (⟨a.toArray⟩ : Str) ++ ⟨b.toArray⟩ = ⟨(a ++ b).toArray⟩ := by
          show (⟨a.toArray ++ b.toArray⟩ : Str) = _
          simp
        rw [e3]
        exact this
    · cases e
  · rename_i a b
    split at e
    · rename_i hl
      cases e
      obtain ⟨p1, vs1, rfl, t1, r1⟩ := bx.tup
      obtain ⟨p2, vs2, rfl, t2, r2⟩ := bz.tup
      have f1 := seqT_fr t1 bx
      have f2 := seqT_fr t2 bz
      refine op_catA pins s σ H _ _ v u Q I rx ry ⟨p1, p2, vs1, vs2, rfl, rfl, hK ▸ t1, hK ▸ t2, ?_, fun z => ?_, fun z1 z2 => ?_, fun _ _ p n => ?_⟩
      · rw [r1.length, r2.length]; exact okLen_le hl
      · subst z
        cases r1
        exact q _ H (Same.refl H) f2
      · subst z2
        cases r2
        rw [List.append_nil] at q
        exact q _ H (Same.refl H) f1
      · exact q _ _ (Ext.upd n) (fr_newtup lv n (r1.app r2))
    · cases e
  · rename_i a b
    split at e
    · rename_i hl
      cases e
      obtain ⟨p1, vs1, rfl, t1, r1⟩ := bx.lst
      obtain ⟨p2, vs2, rfl, t2, r2⟩ := bz.lst
      refine op_cat pins s σ H _ _ v u Q I rx ry ⟨p1, p2, vs1, vs2, rfl, rfl, t1, t2, ?_, fun p n => ?_⟩
      · rw [r1.length, r2.length]; exact okLen_le hl
      · exact q H _ p (Same.refl H) (r1.app r2) n
    · cases e
  · cases e
theorem op_subD : OpR X (binaryOp .Sub) (rOp G subD) := by
  rintro pins s σ H x y v u Q I rx ry ⟨O, dx, dy, r, lv, bx, bz, e, q⟩
  unfold subD at e
  split at e
  · cases e
    have e1 := bx.int
    have e2 := bz.int
    subst e1; subst e2
    exact op_sub pins s σ H _ _ v u Q I rx ry ⟨_, _, rfl, rfl, q _ H (Same.refl H) (.int _)⟩
  · cases e
theorem FRs.rep {vs : List V} {ds : List D} (r : FRs G H O vs ds) : ∀ k : Nat, FRs G H O (List.replicate k vs).flatten (List.replicate k ds).flatten
  | 0 => .nil
  | k + 1 => by
    rw [List.replicate_succ, List.replicate_succ, List.flatten_cons, List.flatten_cons]
    exact r.app (FRs.rep r k)
theorem op_mulD : OpR X (binaryOp .Mult) (rOp G mulD) := by
  rintro pins s σ H x y v u Q I rx ry ⟨O, dx, dy, r, lv, bx, bz, e, q⟩
  unfold mulD at e
  split at e
  · split at e
    · rename_i hs
      cases e
      have e1 := bx.int
      have e2 := bz.int
      subst e1; subst e2
      refine op_mul pins s σ H _ _ v u Q I rx ry ⟨_, _, rfl, rfl, ?_, q _ H (Same.refl H) (.int _)⟩
      unfold CMul
      simpa [small64] using hs
    · cases e
  · split at e
    · rename_i hs
      cases e
      obtain ⟨p1, vs1, rfl, t1, r1⟩ := bx.lst
      have e2 := bz.int
      subst e2
      simp only [Bool.and_eq_true, decide_eq_true_eq] at hs
      obtain ⟨⟨h1, h2⟩, h3⟩ := hs
      refine op_rep pins s σ H _ _ v u Q I rx ry ⟨p1, _, vs1, rfl, rfl, t1, by omega, by omega, ?_, fun p n => ?_⟩
      · rw [r1.length]; exact okLen_le h3
      · exact q H _ p (Same.refl H) (r1.rep _) n
    · cases e
  · cases e
theorem op_fdivD : OpR X (binaryOp .FloorDiv) (rOp G fdivD) := by
  rintro pins s σ H x y v u Q I rx ry ⟨O, dx, dy, r, lv, bx, bz, e, q⟩
  unfold fdivD at e
  split at e
  · split at e
    · rename_i hs
      cases e
      have e1 := bx.int
      have e2 := bz.int
      subst e1; subst e2
      exact op_fdiv pins s σ H _ _ v u Q I rx ry ⟨_, _, rfl, rfl, (by simpa [CDiv] using hs), q _ H (Same.refl H) (.int _)⟩
    · cases e
  · cases e
theorem op_modD : OpR X (binaryOp .Mod) (rOp G modD) := by
  rintro pins s σ H x y v u Q I rx ry ⟨O, dx, dy, r, lv, bx, bz, e, q⟩
  unfold modD at e
  split at e
  · split at e
    · rename_i hs
      cases e
      have e1 := bx.int
      have e2 := bz.int
      subst e1; subst e2
      exact op_mod pins s σ H _ _ v u Q I rx ry ⟨_, _, rfl, rfl, (by simpa using hs), q _ H (Same.refl H) (.int _)⟩
    · cases e
  · cases e
theorem op_powD : OpR X (binaryOp .Pow) (rOp G powD) := by
  rintro pins s σ H x y v u Q I rx ry ⟨O, dx, dy, r, lv, bx, bz, e, q⟩
  unfold powD at e
  split at e
  · split at e
    · rename_i hs
      cases e
      have e1 := bx.int
      have e2 := bz.int
      subst e1; subst e2
      simp only [Bool.and_eq_true, decide_eq_true_eq, small64] at hs
      obtain ⟨⟨⟨h1, h2⟩, h3⟩, h4⟩ := hs
      exact op_pow pins s σ H _ _ v u Q I rx ry ⟨_, _, rfl, rfl, ⟨h3, h4, by omega⟩, q _ H (Same.refl H) (.int _)⟩
    · cases e
  · cases e
def op2 : Op2 → Operator
  | .add => .Add
  | .sub => .Sub
  | .mul => .Mult
  | .fdiv => .FloorDiv
  | .mod => .Mod
  | .pow => .Pow
theorem op_allD (hK : G.K = X.K) (o : Op2) : OpR X (binaryOp (op2 o)) (rOp G (opD o)) := by
  cases o
  · exact op_addD hK
  · exact op_subD
  · exact op_mulD
  · exact op_fdivD
  · exact op_modD
  · exact op_powD
/-! comparisons -/
def cm2 : Cm → CmpOp
  | .eq => .Eq
  | .ne => .NotEq
  | .lt => .Lt
  | .le => .LtE
  | .gt => .Gt
  | .ge => .GtE
  | .isin => .In
  | .notin => .NotIn
  | .is => .Is
  | .isnot => .IsNot
theorem fin_ep {pins : List (Addr × Obj)} {σ : L2.St} {s : Shared} {Q : VK} {k : Bool} (I : Inv X pins σ H s) (q : Q (.bl k) H) : EP X pins σ Q (.bool k) s := ⟨.bl k, H, I, rfl, q⟩
theorem op_intC {op : CmpOp} {p : Int → Int → Bool} (h : OpR X (compareOp op) (rI0 fun i j => .bl (p i j))) : OpR X (compareOp op) (rCm G (intC p)) := by
  rintro pins s σ H x y v u Q I rx ry ⟨O, dx, dy, r, lv, bx, bz, e, q⟩
  unfold intC at e
  split at e
  · cases e
    have e1 := bx.int
    have e2 := bz.int
    subst e1; subst e2
    exact h pins s σ H _ _ v u Q I rx ry ⟨_, _, rfl, rfl, q⟩
  · cases e
theorem op_eqD (hK : G.K = X.K) (hu : X.A.units + 102 < cLine) : OpR X (compareOp .Eq) (rCm G (cmpD .eq)) := by
  rintro pins s σ H x y v u Q I rx ry ⟨O, dx, dy, r, lv, bx, bz, e, q⟩
  simp only [cmpD] at e
  split at e
  · rename_i h
    cases e
    simp only [eqOk, Bool.and_eq_true, decide_eq_true_eq] at h
    obtain ⟨⟨h1, h2⟩, h3⟩ := h
    obtain ⟨as, ra⟩ := bx.reads I hK h1 rx
    obtain ⟨bs, rb⟩ := bz.reads I hK h2 ry
    refine SeqAt.eq_plain ra rb (toPy_plain _ h1) (toPy_plain _ h2) ?_ ?_
    · rw [toPy_dep, toPy_dep]; omega
    · rw [toPy_eqv _ _ h1 h2]
      exact fin_ep I q
  · cases e
theorem op_neD (hK : G.K = X.K) (hu : X.A.units + 102 < cLine) : OpR X (compareOp .NotEq) (rCm G (cmpD .ne)) := by
  rintro pins s σ H x y v u Q I rx ry ⟨O, dx, dy, r, lv, bx, bz, e, q⟩
  simp only [cmpD] at e
  split at e
  · rename_i h
    cases e
    simp only [eqOk, Bool.and_eq_true, decide_eq_true_eq] at h
    obtain ⟨⟨h1, h2⟩, h3⟩ := h
    obtain ⟨as, ra⟩ := bx.reads I hK h1 rx
    obtain ⟨bs, rb⟩ := bz.reads I hK h2 ry
    refine SeqAt.ne_plain ra rb (toPy_plain _ h1) (toPy_plain _ h2) ?_ ?_
    · rw [toPy_dep, toPy_dep]; omega
    · rw [toPy_eqv _ _ h1 h2]
      exact fin_ep I q
  · cases e
theorem any_eqv {a : D} (ha : plain a = true) : ∀ {xs : List D}, plains xs = true → ((toPys xs).any fun y => PyData.eqv y (toPy a)) = xs.any fun x => eqv x a
  | [], _ => by simp [toPys]
  | x :: xs, h => by
    have h' : plain x = true ∧ plains xs = true := by simpa [plains] using h
    simp only [toPys, List.any_cons, toPy_eqv x a h'.1 ha, any_eqv ha h'.2]
theorem op_inD (hK : G.K = X.K) (hu : X.A.units + 102 < cLine) (neg : Bool) : OpR X (compareOp (if neg then .NotIn else .In)) (rCm G fun a b => (inD a b).map fun q => if neg then !q else q) := by
  rintro pins s σ H x y v u Q I rx ry ⟨O, dx, dy, r, lv, bx, bz, e, q⟩
  have e : (inD dx dy).map (fun q => if neg then !q else q) = some r := e
  cases e1 : inD dx dy with
  | none => rw [e1] at e; cases e
  | some k =>
    rw [e1] at e
    cases e
    unfold inD at e1
    split at e1
    · rename_i xs
      split at e1
      · rename_i h
        cases e1
        simp only [Bool.and_eq_true, decide_eq_true_eq] at h
        obtain ⟨⟨h1, h2⟩, h3⟩ := h
        obtain ⟨as, ra⟩ := bx.reads I hK h1 rx
        obtain ⟨bs, rb⟩ := bz.reads I hK (by simpa [plain] using h2) ry
        simp only [toPy] at rb
        have hm : X.A.units + 1 + min (PyData.depthAll (toPys xs)) (toPy dx).depth < cLine := by rw [toPys_dep, toPy_dep]; omega
        have e2 := any_eqv h1 h2
        cases neg with
        | false => exact SeqAt.in_tuple_data rb ra (toPys_plain _ h2) (toPy_plain _ h1) hm (by rw [e2]; exact fin_ep I q)
        | true => exact SeqAt.notIn_tuple_data rb ra (toPys_plain _ h2) (toPy_plain _ h1) hm (by rw [e2]; exact fin_ep I q)
      · cases e1
    · rename_i xs
      split at e1
      · rename_i h
        cases e1
        simp only [Bool.and_eq_true, decide_eq_true_eq] at h
        obtain ⟨⟨h1, h2⟩, h3⟩ := h
        obtain ⟨as, ra⟩ := bx.reads I hK h1 rx
        obtain ⟨bs, rb⟩ := bz.reads I hK (by simpa [plain] using h2) ry
        simp only [toPy] at rb
        have hm : X.A.units + 1 + min (PyData.depthAll (toPys xs)) (toPy dx).depth < cLine := by rw [toPys_dep, toPy_dep]; omega
        have e2 := any_eqv h1 h2
        cases neg with
        | false => exact SeqAt.in_list_data rb ra (toPys_plain _ h2) (toPy_plain _ h1) hm (by rw [e2]; exact fin_ep I q)
        | true => exact SeqAt.notIn_list_data rb ra (toPys_plain _ h2) (toPy_plain _ h1) hm (by rw [e2]; exact fin_ep I q)
      · cases e1
    · cases e1
def isNo : D → Bool
  | .non => true
  | _ => false
theorem BR.is_non {v : V} {d : D} (b : BR G H O v d) : decide (v = .non) = isNo d := by
  rcases b with b | ⟨p, rfl, b⟩
  · cases b <;> simp [isNo]
  · cases b <;> simp [isNo]
theorem op_isD (neg : Bool) : OpR X (compareOp (if neg then .IsNot else .Is)) (rCm G fun a b => (isNonD a b).map fun q => if neg then !q else q) := by
  rintro pins s σ H x y v u Q I rx ry ⟨O, dx, dy, r, lv, bx, bz, e, q⟩
  have e : (isNonD dx dy).map (fun q => if neg then !q else q) = some r := e
  cases e1 : isNonD dx dy with
  | none => rw [e1] at e; cases e
  | some k =>
    rw [e1] at e
    cases e
    have hb := bx.is_non
    have hy : dy = .non ∧ k = isNo dx := by
      unfold isNonD at e1
      split at e1
      · cases e1; exact ⟨rfl, rfl⟩
      · rename_i h; cases e1
        refine ⟨rfl, ?_⟩
        cases dx with
        | non => exact (h rfl).elim
        | _ => rfl
      · cases e1
    obtain ⟨rfl, hk⟩ := hy
    have e2 := bz.non
    subst e2
    cases neg with
    | false => exact op_isN pins s σ H _ _ v u Q I rx ry ⟨rfl, by rw [hb, ← hk]; exact q⟩
    | true => exact op_notN pins s σ H _ _ v u Q I rx ry ⟨rfl, by rw [hb, ← hk]; exact q⟩
theorem op_cmpD (hK : G.K = X.K) (hu : X.A.units + 102 < cLine) (c : Cm) : OpR X (compareOp (cm2 c)) (rCm G (cmpD c)) := by
  cases c
  · exact op_eqD hK hu
  · exact op_neD hK hu
  · exact op_intC op_lt
  · exact op_intC op_le
  · exact op_intC op_gt
  · exact op_intC op_ge
  · have h := op_inD (X := X) hK hu false
    have e : (fun a b => (inD a b).map fun q => if false = true then !q else q) = cmpD .isin := by
      funext a b
      show (inD a b).map (fun q => q) = inD a b
      simp
    rw [e] at h
    exact h
  · exact op_inD hK hu true
  · have h := op_isD (X := X) (G := G) false
    have e : (fun a b => (isNonD a b).map fun q => if false = true then !q else q) = cmpD .is := by
      funext a b
      show (isNonD a b).map (fun q => q) = isNonD a b
      simp
    rw [e] at h
    exact h
  · exact op_isD true
end
end Bh
/-! text Bh4d -/
set_option Elab.async false
set_option linter.all false
set_option maxRecDepth 100000
set_option maxHeartbeats 1000000
/-! Bh4d: places, built-in functions, methods of lists. -/
namespace Bh
open PySem PySem.W L2 PyProof.Rows
section
variable {X : Cx} {G : Gx} {H : Hp} {O : Addr → Prop}
theorem ixN_eq (n : Nat) (i : Int) : L2.ixN n i = ixN n i := rfl
theorem atI_fr {vs : List V} {ds : List D} (r : FRs G H O vs ds) {i : Int} {d : D} (h : atI ds i = some d) : ∃ v, L2.atI vs i = some v ∧ FR G H O v d := by
  unfold atI at h
  unfold L2.atI
  rw [ixN_eq, r.length]
  cases e : ixN ds.length i with
  | none => rw [e] at h; cases h
  | some j =>
    rw [e] at h
    exact r.get (show ds[j]? = some d from h)
theorem ix_D (hK : G.K = X.K) : IxR X (rIxD G) := by
  rintro value slice pins s σ H x y v u Q I rx ry ⟨O, dx, dy, r, lv, bx, bz, e, q⟩ hsub
  unfold idxD at e
  split at e
  · obtain ⟨p1, vs1, rfl, t1, r1⟩ := bx.lst
    have e2 := bz.int
    subst e2
    obtain ⟨z, hz, fz⟩ := atI_fr r1 e
    exact ix_list value slice pins s σ H _ _ v u Q I rx ry ⟨p1, vs1, _, z, rfl, rfl, SqL.of t1, hz, q z H (Same.refl H) fz⟩ hsub
  · obtain ⟨p1, vs1, rfl, t1, r1⟩ := bx.tup
    have e2 := bz.int
    subst e2
    obtain ⟨z, hz, fz⟩ := atI_fr r1 e
    exact ix_tup value slice pins s σ H _ _ v u Q I rx ry ⟨p1, vs1, _, z, rfl, rfl, hK ▸ t1, hz, q z H (Same.refl H) fz⟩ hsub
  · split at e
    · rename_i hl
      have e1 := bx.str
      have e2 := bz.int
      subst e1; subst e2
      obtain ⟨c, hc, rfl⟩ := Option.map_eq_some_iff.mp e
      refine ix_str value slice pins s σ H _ _ v u Q I rx ry ⟨_, _, c, rfl, rfl, ?_, ?_, ?_⟩ hsub
      · have := okLen_le hl
        simpa [Str.length] using this
      · exact hc
      · exact q _ H (Same.refl H) (.str [c])
    · cases e
  · cases e
theorem BRs.one_of {vs : List V} {ds : List D} {g : D → Option D} {r : D} (b : BRs G H O vs ds) (e : one1 g ds = some r) : ∃ v d, vs = [v] ∧ ds = [d] ∧ BR G H O v d ∧ g d = some r := by
  unfold one1 at e
  split at e
  · obtain ⟨v, rfl, h⟩ := b.of_one
    exact ⟨v, _, rfl, rfl, h, e⟩
  · cases e
theorem call_absD : CallR X (.builtin "abs") (rBf G absD) := by
  rintro pins s σ H xs us Q I rx ⟨O, ds, r, lv, bs, e, q⟩
  unfold absD at e
  split at e
  · cases e
    obtain ⟨v, rfl, b⟩ := bs.of_one
    have e1 := b.int
    subst e1
    exact call_abs pins s σ H _ us Q I rx ⟨_, rfl, q _ H (Same.refl H) (.int _)⟩
  · cases e
theorem call_intD : CallR X (.type "int") (rBf G intD) := by
  rintro pins s σ H xs us Q I rx ⟨O, ds, r, lv, bs, e, q⟩
  unfold intD at e
  split at e
  · cases e
    obtain ⟨v, rfl, b⟩ := bs.of_one
    have e1 := b.int
    subst e1
    exact call_int1 pins s σ H _ us Q I rx (.inl ⟨_, rfl, q _ H (Same.refl H) (.int _)⟩)
  · cases e
    obtain ⟨v, rfl, b⟩ := bs.of_one
    have e1 := b.bl
    subst e1
    exact call_int1 pins s σ H _ us Q I rx (.inr ⟨_, rfl, q _ H (Same.refl H) (.int _)⟩)
  · cases e
/-- the items of a list or a tuple -/
theorem BR.items (hK : G.K = X.K) {v : V} {d : D} {xs : List D} (b : BR G H O v d) (e : itemsD d = some xs) :
    ∃ p vs, v = .ref p ∧ FRs G H O vs xs ∧ ((SqL X.K H p vs ∧ d = .lst xs) ∨ (SqT X.K H p vs ∧ d = .tup xs)) := by
  unfold itemsD at e
  split at e
  · cases e
    obtain ⟨p1, vs1, rfl, t1, r1⟩ := b.lst
    exact ⟨_, _, rfl, r1, .inl ⟨SqL.of t1, rfl⟩⟩
  · cases e
    obtain ⟨p1, vs1, rfl, t1, r1⟩ := b.tup
    exact ⟨_, _, rfl, r1, .inr ⟨hK ▸ t1, rfl⟩⟩
  · cases e
theorem call_listD (hK : G.K = X.K) : CallR X (.type "list") (rBf G (bfD .list)) := by
  rintro pins s σ H xs us Q I rx ⟨O, ds, r, lv, bs, e, q⟩
  obtain ⟨v, d, rfl, rfl, b, e⟩ := bs.one_of e
  obtain ⟨ys, hn, rfl⟩ := Option.map_eq_some_iff.mp e
  obtain ⟨p, vs, rfl, r1, t⟩ := b.items hK hn
  exact call_list_of pins s σ H _ us Q I rx ⟨p, vs, rfl, t.elim (fun t => .inl t.1) (fun t => .inr t.1), fun l n => q H _ l (Same.refl H) r1 n⟩
theorem call_tupleD (hK : G.K = X.K) : CallR X (.type "tuple") (rBf G (bfD .tuple)) := by
  rintro pins s σ H xs us Q I rx ⟨O, ds, r, lv, bs, e, q⟩
  obtain ⟨v, d, rfl, rfl, b, e⟩ := bs.one_of e
  obtain ⟨ys, hn, rfl⟩ := Option.map_eq_some_iff.mp e
  obtain ⟨p, vs, rfl, r1, t⟩ := b.items hK hn
  refine call_tuple_of pins s σ H _ us Q I rx ⟨p, vs, rfl, ?_⟩
  rcases t with ⟨t, _⟩ | ⟨t, rfl⟩
  · exact .inl ⟨t, fun l n => q _ _ (Ext.upd n) (fr_newtup lv n r1)⟩
  · exact .inr ⟨t, q _ H (Same.refl H) (seqT_fr (hK ▸ t) b)⟩
theorem ints_vals : ∀ {vs : List V} {ds : List D} {ns : List Int}, FRs G H O vs ds → intsD ds = some ns → vs = ns.map V.int
  | _, _, _, .nil, e => by simp [intsD] at e; subst e; rfl
  | _, _, ns, .cons (d := d) a b, e => by
    cases d with
    | int i =>
      simp only [intsD] at e
      obtain ⟨ms, h1, rfl⟩ := Option.map_eq_some_iff.mp e
      cases a
      rw [ints_vals b h1]
      rfl
    | _ => simp [intsD] at e
theorem maxI_le : ∀ (xs : List Int) (x : Int), (xs.foldl (fun m y => if y > m then y else m) x ∈ x :: xs) ∧ x ≤ xs.foldl (fun m y => if y > m then y else m) x ∧ ∀ y ∈ xs, y ≤ xs.foldl (fun m y => if y > m then y else m) x
  | [], x => ⟨List.mem_cons_self, Int.le_refl _, fun _ h => nomatch h⟩
  | a :: xs, x => by
    obtain ⟨h1, h2, h3⟩ := maxI_le xs (if a > x then a else x)
    have hx : x ≤ (if a > x then a else x) := by split <;> omega
    have ha : a ≤ (if a > x then a else x) := by split <;> omega
    simp only [List.foldl_cons]
    refine ⟨?_, Int.le_trans hx h2, fun y hy => ?_⟩
    · rcases List.mem_cons.mp h1 with h | h
      · rw [h]
        split
        · exact List.mem_cons_of_mem _ List.mem_cons_self
        · exact List.mem_cons_self
      · exact List.mem_cons_of_mem _ (List.mem_cons_of_mem _ h)
    · rcases List.mem_cons.mp hy with h | h
      · rw [h]; exact Int.le_trans ha h2
      · exact h3 y h
theorem minI_le : ∀ (xs : List Int) (x : Int), (xs.foldl (fun m y => if y < m then y else m) x ∈ x :: xs) ∧ xs.foldl (fun m y => if y < m then y else m) x ≤ x ∧ ∀ y ∈ xs, xs.foldl (fun m y => if y < m then y else m) x ≤ y
  | [], x => ⟨List.mem_cons_self, Int.le_refl _, fun _ h => nomatch h⟩
  | a :: xs, x => by
    obtain ⟨h1, h2, h3⟩ := minI_le xs (if a < x then a else x)
    have hx : (if a < x then a else x) ≤ x := by split <;> omega
    have ha : (if a < x then a else x) ≤ a := by split <;> omega
    simp only [List.foldl_cons]
    refine ⟨?_, Int.le_trans h2 hx, fun y hy => ?_⟩
    · rcases List.mem_cons.mp h1 with h | h
      · rw [h]
        split
        · exact List.mem_cons_of_mem _ List.mem_cons_self
        · exact List.mem_cons_self
      · exact List.mem_cons_of_mem _ (List.mem_cons_of_mem _ h)
    · rcases List.mem_cons.mp hy with h | h
      · rw [h]; exact Int.le_trans h2 ha
      · exact h3 y h
theorem maxI_spec {ns : List Int} {m k : Int} (e : maxI ns = some k) (h1 : m ∈ ns) (h2 : ∀ y, y ∈ ns → y ≤ m) : m = k ∧ 0 < ns.length := by
  cases ns with
  | nil => cases h1
  | cons x xs =>
    obtain ⟨g1, g2, g3⟩ := maxI_le xs x
    have e' : xs.foldl (fun m y => if y > m then y else m) x = k := Option.some.inj e
    rw [e'] at g1 g2 g3
    refine ⟨Int.le_antisymm ?_ (h2 _ g1), Nat.succ_pos _⟩
    rcases List.mem_cons.mp h1 with h | h
    · rw [h]; exact g2
    · exact g3 m h
theorem minI_spec {ns : List Int} {m k : Int} (e : minI ns = some k) (h1 : m ∈ ns) (h2 : ∀ y, y ∈ ns → m ≤ y) : m = k ∧ 0 < ns.length := by
  cases ns with
  | nil => cases h1
  | cons x xs =>
    obtain ⟨g1, g2, g3⟩ := minI_le xs x
    have e' : xs.foldl (fun m y => if y < m then y else m) x = k := Option.some.inj e
    rw [e'] at g1 g2 g3
    refine ⟨Int.le_antisymm (h2 _ g1) ?_, Nat.succ_pos _⟩
    rcases List.mem_cons.mp h1 with h | h
    · rw [h]; exact g2
    · exact g3 m h
theorem maxI_pos {ns : List Int} {k : Int} (e : maxI ns = some k) : 0 < ns.length := by
  cases ns with
  | nil => cases e
  | cons x xs => exact Nat.succ_pos _
theorem minI_pos {ns : List Int} {k : Int} (e : minI ns = some k) : 0 < ns.length := by
  cases ns with
  | nil => cases e
  | cons x xs => exact Nat.succ_pos _
theorem call_maxD (hc : X.calm = true) : CallR X (.builtin "max") (rBf G maxD) := by
  rintro pins s σ H xs us Q I rx ⟨O, ds, r, lv, bs, e, q⟩
  unfold maxD at e
  split at e
  · cases e
    obtain ⟨v, w, rfl, b1, b2⟩ := bs.of_two
    have e1 := b1.int
    have e2 := b2.int
    subst e1; subst e2
    exact call_max2 hc pins s σ H _ us Q I rx ⟨_, _, rfl, q _ H (Same.refl H) (.int _)⟩
  · obtain ⟨v, rfl, b⟩ := bs.of_one
    obtain ⟨p1, vs1, rfl, t1, r1⟩ := b.lst
    obtain ⟨ns, hn, e⟩ := Option.bind_eq_some_iff.mp e
    obtain ⟨k, hk, rfl⟩ := Option.map_eq_some_iff.mp e
    have ev := ints_vals r1 hn
    subst ev
    refine cr_max hc pins s σ H _ us Q I rx ⟨p1, ns, rfl, SqL.of t1, maxI_pos hk, fun m h1 h2 => ?_⟩
    rw [(maxI_spec hk h1 h2).1]
    exact q _ H (Same.refl H) (.int _)
  · cases e
theorem call_minD (hc : X.calm = true) : CallR X (.builtin "min") (rBf G minD) := by
  rintro pins s σ H xs us Q I rx ⟨O, ds, r, lv, bs, e, q⟩
  unfold minD at e
  split at e
  · cases e
    obtain ⟨v, w, rfl, b1, b2⟩ := bs.of_two
    have e1 := b1.int
    have e2 := b2.int
    subst e1; subst e2
    exact call_min2 hc pins s σ H _ us Q I rx ⟨_, _, rfl, q _ H (Same.refl H) (.int _)⟩
  · obtain ⟨v, rfl, b⟩ := bs.of_one
    obtain ⟨p1, vs1, rfl, t1, r1⟩ := b.lst
    obtain ⟨ns, hn, e⟩ := Option.bind_eq_some_iff.mp e
    obtain ⟨k, hk, rfl⟩ := Option.map_eq_some_iff.mp e
    have ev := ints_vals r1 hn
    subst ev
    refine cr_min hc pins s σ H _ us Q I rx ⟨p1, ns, rfl, SqL.of t1, minI_pos hk, fun m h1 h2 => ?_⟩
    rw [(minI_spec hk h1 h2).1]
    exact q _ H (Same.refl H) (.int _)
  · cases e
/-- a value of the machine that stands for data in the abstract heap -/
def VD (G : Gx) (H : Hp) (O : Addr → Prop) (u : Value) (d : D) : Prop := ∃ v, RelV v u ∧ FR G H O v d
theorem each_of : ∀ {vs : List V} {ds : List D} {us : List Value}, FRs G H O vs ds → Vals vs us → EachIs (VD G H O) us ds
  | _, _, _, .nil, r => by cases r; exact .nil
  | _, _, _, .cons a b, r => by
    cases r with
    | cons r1 r2 => exact .cons ⟨_, r1, a⟩ (each_of b r2)
theorem of_each : ∀ {us : List Value} {ds : List D}, EachIs (VD G H O) us ds → ∃ vs, Vals vs us ∧ FRs G H O vs ds
  | _, _, .nil => ⟨[], .nil, .nil⟩
  | _, _, .cons ⟨v, r, f⟩ t => by
    obtain ⟨vs, h1, h2⟩ := of_each t
    exact ⟨v :: vs, .cons r h1, .cons f h2⟩
theorem sortable_plains {xs : List D} (h : sortable xs = true) : plains xs = true := by
  unfold sortable at h
  simp only [Bool.and_eq_true, List.all_eq_true, decide_eq_true_eq] at h
  have h2 := h.1.2
  clear h
  induction xs with
  | nil => rfl
  | cons x xs ih => simp only [plains, (h2 x List.mem_cons_self).1, ih fun y hy => h2 y (List.mem_cons_of_mem _ hy), Bool.and_self]
theorem each_reads (I : ∃ pins σ, Inv X pins σ H s) (hK : G.K = X.K) : ∀ {us : List Value} {ds : List D}, EachIs (VD G H O) us ds → plains ds = true → EachIs (fun u d => ∃ as, Reads s.heap u (toPy d) as) us ds
  | _, _, .nil, _ => .nil
  | _, _, .cons (b := d) (bs := ds) ⟨v, r, f⟩ t, hp => by
    have h' : plain d = true ∧ plains ds = true := by simpa [plains] using hp
    obtain ⟨pins, σ, I'⟩ := id I
    exact .cons (f.reads I' hK h'.1 _ r) (each_reads I hK t h'.2)
theorem call_sortedD' (hK : G.K = X.K) (hu : X.A.units + 105 < cLine) : CallR X (.builtin "sorted") (rBf G (bfD .sorted)) := by
  rintro pins s σ H xs us Q I rx ⟨O, ds, r, lv, bs, e, q⟩
  obtain ⟨v, d, rfl, rfl, b, e⟩ := bs.one_of e
  obtain ⟨ys, hn, e⟩ := Option.bind_eq_some_iff.mp e
  split at e
  · rename_i hs
    cases e
    obtain ⟨p, vs, rfl, r1, t⟩ := b.items hK hn
    obtain ⟨u, rfl, ru⟩ := vals1 rx
    cases ru
    have key : ∀ (T : String) (o : Obj) (n : Nat) (its : List Value), T = "list" ∨ T = "tuple" → s.heap.get? p = some o → o.cls = .type T → o.data = .seq its.toArray n → Vals vs its → vs.length ≤ sizeLine →
        wpAny (model X.prog X.w) X.A (call (.builtin "sorted") [.ref p]) (EP X pins σ Q) X.xe s := by
      intro T o n its hT ho hc hd rv hz
      have e1 := each_of r1 rv
      refine sorted_seq hT ho hc hd e1 (each_reads ⟨pins, σ, I⟩ hK e1 (sortable_plains hs)) hs (by rw [← r1.length]; exact hz) hu fun h1 h' l c out k1 k2 hp hl eo => ?_
      obtain ⟨ws, w1, w2⟩ := of_each eo
      have I1 : Inv X pins σ H { s with heap := h1 } := I.kept (t' := s.toks) k1
      have n : H l = none := I1.hok.fresh hp
      have hlen : ws.length ≤ sizeLine := by
        rw [w2.length, ← sortD_eq, List.length_mergeSort, ← r1.length]
        exact hz
      have I2 : Inv X pins σ (upd H l (.lst ws)) { s with heap := h' } := I1.laid (a := l) (o := .lst ws) (h' := h') (t' := s.toks) k2 hp ⟨hlen, out, c, w1, hl⟩
      exact ⟨.ref l, _, I2, rfl, q H ws l (Same.refl H) w2 n⟩
    rcases t with ⟨t, _⟩ | ⟨t, _⟩
    · obtain ⟨its, rv, ⟨o, n, ho, hc, _, hd⟩, hz⟩ := I.list t
      exact key "list" o n its (.inl rfl) ho hc hd rv hz
    · obtain ⟨its, rv, ⟨o, ho, hc, n, hd⟩, hz⟩ := I.tuple t
      exact key "tuple" o n its (.inr rfl) ho hc hd rv hz
  · cases e
end
end Bh
/-! text Bh4e -/
set_option Elab.async false
set_option linter.all false
set_option maxRecDepth 100000
set_option maxHeartbeats 1000000
/-! Bh4e: dict(pairs), len of a dict. -/
namespace Bh
open PySem PySem.W L2 PyProof.Rows
/-! ### len of a dict, by its entries alone -/
section
variable {prog : Program} {w : World} {A : Around} {E : Value → Shared → Prop} {s : Shared}
def RawD (h : Heap) (d : Addr) (es : Array DictEntry) : Prop := ∃ o ep, h.get? d = some o ∧ o.ExactDict ∧ o.data = .dict es ep
theorem RawD.ty {es : Array DictEntry} {d : Addr} (x : RawD s.heap d es) : s.TypeIs (.ref d) "dict" := let ⟨o, _, ho, hc, _⟩ := x; ⟨o, ho, hc.1⟩
theorem meets_len_raw (d : Addr) (es : Array DictEntry) (hd : (d == sysModules) = false) :
    MeetsIn prog w (Builtin.«dict.__len__» ⟨[.ref d], []⟩) (fun _ R s => RawD s.heap d es ∧ R (.ok (.ret (.int es.size s.toks))) { s with toks := s.toks + 1 }) :=
  .of_wp fun A R s ⟨hm, h⟩ => by
    obtain ⟨o, ep, ho, hc, hdat⟩ := hm
    show wpAny _ _ (dictSize d >>= _) _ _ s
    unfold dictSize
    refine wpAny_bind (wpAny_bind (wpAny_dictEntries ho hdat (wpAny_pure ?_)))
    show wpAny _ _ (Builtin.Dict.pendingCount d >>= _) _ _ s
    refine wpAny_bind (wpAny_pendingCount_other hd ?_)
    refine wpAny_ret_mkInt ?_
    rw [Nat.add_zero]; exact h
theorem len_body_raw {d : Addr} {es : Array DictEntry} {Q : Value → Shared → Prop} (hd : (d == sysModules) = false) (hm : RawD s.heap d es) (hfit : (es.size : Int) < 2 ^ 63)
    (h : Q (.int es.size (s.toks + 1)) { s with toks := s.toks + 1 + 1 }) : wpAny (model prog w) A (Builtin.«len» ⟨[.ref d], []⟩) (fun fin s' => ∃ r, fin = .done (.ret r) ∧ Q r s') E s := by
  unfold Builtin.«len»
  refine wpAny_bind (m := oneArg "len" _) (wpAny_pure ?_)
  refine wpAny_bind (m := callSpecial? (.ref d) (Str.ofString "__len__")) (wpAny_callSpecial?_slot (name := Str.ofString "__len__") hm.ty F.slot_dict_len
    (call_meetsIn F.slot_dict_len hm.ty F.entry_dict_len (F.args_dict_len_1 _) (meets_len_raw d es hd) ⟨hm, ?_⟩))
  show wpAny _ _ _ _ _ { s with toks := s.toks + 1 }
  refine wpAny_bind (wpAny_holding (wpAny_pure ?_))
  refine wpAny_bind (wpAny_letGo ?_)
  show wpAny _ _ (if ((es.size : Nat) : Int) < 0 then _ else _) _ _ _
  rw [if_neg (by omega)]
  show wpAny _ _ (if ((es.size : Nat) : Int) ≥ 2 ^ 63 then _ else _) _ _ _
  rw [if_neg (by omega)]
  exact wpAny_bind (wpAny_mkInt (wpAny_pure ⟨_, rfl, h⟩))
theorem call_len_raw {d : Addr} {es : Array DictEntry} {Q : Value → Shared → Prop} (hd : (d == sysModules) = false) (hm : RawD s.heap d es) (hfit : (es.size : Int) < 2 ^ 63)
    (h : Q (.int es.size (s.toks + 1)) { s with toks := s.toks + 1 + 1 }) : wpAny (model prog w) A (call (.builtin "len") [.ref d]) Q E s :=
  Calls.call_function_entry kind_len plain_len entry_len (args_len1 _) (len_body_raw hd hm hfit h)
end
section
variable {X : Cx} {G : Gx} {H : Hp} {O : Addr → Prop}
theorem call_lenD' (hK : G.K = X.K) : CallR X (.builtin "len") (rBf G (bfD .len)) := by
  rintro pins s σ H xs us Q I rx ⟨O, ds, r, lv, bs, e, q⟩
  obtain ⟨v, d, rfl, rfl, b, e⟩ := bs.one_of e
  obtain ⟨n, hn, rfl⟩ := Option.map_eq_some_iff.mp e
  have q' := q (.int n) H (Same.refl H) (.int _)
  unfold lenD at hn
  split at hn
  · cases hn
    obtain ⟨p1, vs1, rfl, t1, r1⟩ := b.lst
    exact call_len pins s σ H _ us Q I rx ⟨_, _, rfl, .inl ⟨vs1, SqL.of t1, r1.length.symm⟩, q'⟩
  · cases hn
    obtain ⟨p1, vs1, rfl, t1, r1⟩ := b.tup
    exact call_len pins s σ H _ us Q I rx ⟨_, _, rfl, .inr ⟨vs1, hK ▸ t1, r1.length.symm⟩, q'⟩
  · split at hn
    · rename_i hl
      cases hn
      have e1 := b.str
      subst e1
      refine call_len pins s σ H _ us Q I rx ⟨_, _, rfl, ⟨?_, rfl⟩, ?_⟩
      · have := okLen_le hl
        simpa [Str.length] using this
      · simpa [Str.length] using q'
    · cases hn
  · cases hn
    obtain ⟨p1, rfl, c⟩ := b.dct
    obtain ⟨u, rfl, rv⟩ := vals1 rx
    obtain rfl : u = .ref p1 := rv
    cases c with
    | dct h0 h1 h2 h3 h4 f h5 =>
      rename_i o es ep
      have ho : s.heap.get? p1 = some o := (I.hok p1 _ h0).1
      have hl := (Array.length_toList (xs := es)).symm.trans f.length
      refine call_len_raw h4 ⟨o, ep, ho, h1, h2⟩ (by rw [sizeLine_eq] at h3; omega) ?_
      rw [hl]
      exact ⟨.int _, H, I.tok _, ⟨_, rfl⟩, q'⟩
  · cases hn
/-! ### keys -/
mutual
theorem nk_eqv : ∀ a b : D, keyOk a = true → keyOk b = true → (eqv a b = true ↔ nk a = nk b)
  | .non, b, _, hb => by cases b <;> first | (simp [keyOk] at hb; done) | simp [eqv, nk]
  | .int _, b, _, hb => by cases b <;> first | (simp [keyOk] at hb; done) | simp [eqv, nk]
  | .str x, b, _, hb => by
    cases b with
    | str y => simp only [eqv, nk, beq_iff_eq, NestedKey.text.injEq, Str.mk.injEq, Array.mk.injEq]
    | _ => first | (simp [keyOk] at hb; done) | simp [eqv, nk]
  | .tup xs, b, ha, hb => by
    cases b with
    | tup ys =>
      simp only [eqv, nk, NestedKey.tup.injEq]
      exact nks_eqv xs ys (by simpa [keyOk] using ha) (by simpa [keyOk] using hb)
    | _ => first | (simp [keyOk] at hb; done) | simp [eqv, nk]
  | .bl _, _, ha, _ => by simp [keyOk] at ha
  | .lst _, _, ha, _ => by simp [keyOk] at ha
  | .dct _, _, ha, _ => by simp [keyOk] at ha
  | .obj _ _, _, ha, _ => by simp [keyOk] at ha
theorem nks_eqv : ∀ xs ys : List D, keyOks xs = true → keyOks ys = true → (eqvs xs ys = true ↔ nks xs = nks ys)
  | [], [], _, _ => by simp [eqvs, nks]
  | [], _ :: _, _, _ => by simp [eqvs, nks]
  | _ :: _, [], _, _ => by simp [eqvs, nks]
  | x :: xs, y :: ys, ha, hb => by
    have h1 : keyOk x = true ∧ keyOks xs = true := by simpa [keyOks] using ha
    have h2 : keyOk y = true ∧ keyOks ys = true := by simpa [keyOks] using hb
    simp only [eqvs, nks, Bool.and_eq_true, nk_eqv x y h1.1 h2.1, nks_eqv xs ys h1.2 h2.2, List.cons.injEq]
end
mutual
theorem nk_depth : ∀ d : D, keyOk d = true → (nk d).depth = dep d
  | .non, _ => by simp [nk, NestedKey.depth, dep]
  | .int _, _ => by simp [nk, NestedKey.depth, dep]
  | .str _, _ => by simp [nk, NestedKey.depth, dep]
  | .tup xs, h => by simp only [nk, NestedKey.depth, dep, nks_depth xs (by simpa [keyOk] using h)]
  | .bl _, ha => by simp [keyOk] at ha
  | .lst _, ha => by simp [keyOk] at ha
  | .dct _, ha => by simp [keyOk] at ha
  | .obj _ _, ha => by simp [keyOk] at ha
theorem nks_depth : ∀ xs : List D, keyOks xs = true → NestedKey.depthAll (nks xs) = deps xs
  | [], _ => by simp [nks, NestedKey.depthAll, deps]
  | x :: xs, h => by
    have h1 : keyOk x = true ∧ keyOks xs = true := by simpa [keyOks] using h
    simp only [nks, NestedKey.depthAll, deps, nk_depth x h1.1, nks_depth xs h1.2]
end
section
variable {pins : List (Addr × Obj)} {σ : L2.St} {s : Shared}
theorem tup_nested (I : Inv X pins σ H s) {a : Addr} {vs : List V} (h : SqT X.K H a vs) {ks : List NestedKey} (k : ∀ us, Vals vs us → NestedAll s.heap ks us) : NestedIs s.heap (.tup ks) (.ref a) := by
  obtain ⟨its, r, ⟨o, ho, hc, n, hd⟩, _⟩ := I.tuple h
  exact .tup ho hc hd (by simpa using k its r)
mutual
theorem FR.nested (I : Inv X pins σ H s) (hK : G.K = X.K) : ∀ {v : V} {d : D}, FR G H O v d → keyOk d = true → ∀ u, RelV v u → NestedIs s.heap (nk d) u
  | _, _, .non, _, _, r => by cases r; exact .none
  | _, _, .bl b, h, _, r => by simp [keyOk] at h
  | _, _, .int i, _, _, ⟨t, e⟩ => by cases e; exact .int i t
  | _, _, .str x, _, _, ⟨t, e⟩ => by cases e; exact .text _ t
  | _, _, .tup (ds := ds) e n r, hp, u, hu => by
    cases hu
    exact tup_nested I (SqT.of e) fun us q => FRs.nested I hK r (by simpa [keyOk] using hp) us q
  | _, _, .tupk (ds := ds) k r, hp, u, hu => by
    cases hu
    exact tup_nested I (.inr (hK ▸ k)) fun us q => FRs.nested I hK r (by simpa [keyOk] using hp) us q
  | _, _, .lst e n r, hp, u, hu => by simp [keyOk] at hp
  | _, _, .dct _ _ _ _ _ _ _ _, hp, _, _ => by simp [keyOk] at hp
  | _, _, .obj _ _ _, hp, _, _ => by simp [keyOk] at hp
theorem FRs.nested (I : Inv X pins σ H s) (hK : G.K = X.K) : ∀ {vs : List V} {ds : List D}, FRs G H O vs ds → keyOks ds = true → ∀ us, Vals vs us → NestedAll s.heap (nks ds) us
  | _, _, .nil, _, us, r => by cases r; exact .nil
  | _, _, .cons (d := d) (ds := ds) a b, hp, us, r => by
    have h' : keyOk d = true ∧ keyOks ds = true := by simpa [keyOks] using hp
    cases r with
    | cons r1 r2 => exact .cons (FR.nested I hK a h'.1 _ r1) (FRs.nested I hK b h'.2 _ r2)
end
end
/-! ### storing -/
/-- an entry -/
def KR (G : Gx) (H : Hp) (O : Addr → Prop) (x : NestedKey × Addr × Value) (q : D × D) : Prop := x.1 = nk q.1 ∧ keyOk q.1 = true ∧ FR G H O (.ref x.2.1) q.1 ∧ ∃ v, RelV v x.2.2 ∧ FR G H O v q.2
abbrev NX := NestedKey × Addr × Value
theorem put_new {k : D} {v : D} {a : Addr} {u : Value} (hk : keyOk k = true) (n : KR G H O (nk k, a, u) (k, v)) : ∀ {xs : List NX} {kvs : List (D × D)}, Paired (KR G H O) xs kvs → (∀ x ∈ xs, x.1 ≠ nk k) → Paired (KR G H O) (xs ++ [(nk k, a, u)]) (dput k v kvs)
  | _, _, .nil, _ => .cons n .nil
  | _, _, .cons (a := x) (b := q) h t, ne => by
    have hx := ne x List.mem_cons_self
    have hf : eqv q.1 k = false := by
      cases he : eqv q.1 k with
      | false => rfl
      | true => exact absurd (h.1.trans ((nk_eqv _ _ h.2.1 hk).mp he)) hx
    show Paired _ _ (if eqv q.1 k then _ else _)
    rw [hf, if_neg (by decide)]
    exact .cons h (put_new hk n t fun y hy => ne y (List.mem_cons_of_mem _ hy))
theorem put_id {k : NestedKey} {u : Value} {xs : List NX} (ne : ∀ x ∈ xs, x.1 ≠ k) : xs.map (putAt k u) = xs := by
  refine (List.map_congr_left fun x hx => ?_).trans (List.map_id xs)
  unfold putAt
  rw [if_neg (ne x hx)]
  rfl
theorem put_old {k v : D} {u : Value} (hk : keyOk k = true) (n : ∃ y, RelV y u ∧ FR G H O y v) : ∀ {xs : List NX} {kvs : List (D × D)}, Paired (KR G H O) xs kvs → (xs.map (·.1)).Nodup → (∃ x ∈ xs, x.1 = nk k) → Paired (KR G H O) (xs.map (putAt (nk k) u)) (dput k v kvs)
  | _, _, .nil, _, ⟨_, z, _⟩ => by cases z
  | _, _, .cons (a := x) (b := q) (l₁ := xs) h t, nd, ⟨y, hy, ey⟩ => by
    rw [List.map_cons, List.nodup_cons] at nd
    have e := nk_eqv q.1 k h.2.1 hk
    rw [← h.1] at e
    show Paired _ _ (if eqv q.1 k then _ else _)
    by_cases hx : x.1 = nk k
    · rw [if_pos (e.mpr hx), List.map_cons, put_id fun z hz hk' => nd.1 (by rw [hx, ← hk']; exact List.mem_map_of_mem hz)]
      refine .cons ?_ t
      unfold putAt
      rw [if_pos hx]
      exact ⟨h.1, h.2.1, h.2.2.1, n⟩
    · rw [if_neg fun z => hx (e.mp z), List.map_cons]
      refine .cons ?_ (put_old hk n t nd.2 ?_)
      · unfold putAt
        rw [if_neg hx]
        exact h
      · rcases List.mem_cons.mp hy with z | z
        · exact absurd (z ▸ ey) hx
        · exact ⟨y, z, ey⟩
theorem put_keys {k : NestedKey} {u : Value} (xs : List NX) : (xs.map (putAt k u)).map (·.1) = xs.map (·.1) := by
  rw [List.map_map]
  refine List.map_congr_left fun x _ => ?_
  show (putAt k u x).1 = x.1
  unfold putAt
  split <;> rfl
theorem atKey_some {xs : List NX} {k : NestedKey} (h : (atKey xs k).isSome = true) : ∃ x ∈ xs, x.1 = k := by
  unfold atKey at h
  rw [Option.isSome_map, List.find?_isSome] at h
  obtain ⟨x, hx, e⟩ := h
  exact ⟨x, hx, of_decide_eq_true e⟩
theorem atKey_none {xs : List NX} {k : NestedKey} (h : ¬ (atKey xs k).isSome = true) : ∀ x ∈ xs, x.1 ≠ k := fun x hx e => h (by
  unfold atKey
  rw [Option.isSome_map, List.find?_isSome]
  exact ⟨x, hx, decide_eq_true e⟩)
theorem stored_kr {k v : D} {a : Addr} {u : Value} (hk : keyOk k = true) (n : KR G H O (nk k, a, u) (k, v)) {xs : List NX} {kvs : List (D × D)} (t : Paired (KR G H O) xs kvs) (nd : (xs.map (·.1)).Nodup) :
    Paired (KR G H O) (storedH xs (nk k) a u) (dput k v kvs) ∧ ((storedH xs (nk k) a u).map (·.1)).Nodup := by
  unfold storedH
  by_cases h : (atKey xs (nk k)).isSome = true
  · rw [if_pos h, put_keys]
    exact ⟨put_old hk n.2.2.2 t nd (atKey_some h), nd⟩
  · rw [if_neg h]
    refine ⟨put_new hk n t (atKey_none h), ?_⟩
    rw [List.map_append, List.nodup_append]
    refine ⟨nd, by simp, fun a ha b hb => ?_⟩
    obtain ⟨x, hx, rfl⟩ := List.mem_map.mp ha
    have hb' : b = nk k := by simpa using hb
    rw [hb']
    exact atKey_none h x hx
/-- the pairs of a list, one after the other -/
inductive PL (X : Cx) (G : Gx) (H : Hp) (O : Addr → Prop) (s : Shared) : List V → List D → List Value → List NX → Prop
  | nil : PL X G H O s [] [] [] []
  | cons {b a : Addr} {k v : D} {uk u : Value} {vs : List V} {ds : List D} {us : List Value} {ps : List NX} : IsTup s.heap b #[.ref a, u] → KR G H O (nk k, a, u) (k, v) → NestedIs s.heap (nk k) (.ref a) → keyT k = true → PL X G H O s vs ds us ps → PL X G H O s (.ref b :: vs) (.tup [k, v] :: ds) (.ref b :: us) ((nk k, a, u) :: ps)
theorem keyT_spec {k : D} (h : keyT k = true) : (∃ xs, k = .tup xs) ∧ keyOk k = true ∧ dep k ≤ 8 := by
  simp only [keyT, Bool.and_eq_true, decide_eq_true_eq] at h
  refine ⟨?_, h.1.2, h.2⟩
  cases k with
  | tup xs => exact ⟨xs, rfl⟩
  | _ => simp [isTup] at h
theorem FRs.two {vs : List V} {k v : D} (h : FRs G H O vs [k, v]) : ∃ x y, vs = [x, y] ∧ FR G H O x k ∧ FR G H O y v := by
  cases h with
  | cons a r => cases r with
    | cons b r => cases r; exact ⟨_, _, rfl, a, b⟩
theorem pl_of {pins : List (Addr × Obj)} {σ : L2.St} {s : Shared} (I : Inv X pins σ H s) (hK : G.K = X.K) : ∀ {ds : List D} {vs : List V} {us : List Value} {acc res : List (D × D)}, FRs G H O vs ds → Vals vs us → dmkT ds acc = some res → ∃ ps, PL X G H O s vs ds us ps
  | [], _, _, _, _, .nil, r, _ => by cases r; exact ⟨_, .nil⟩
  | d :: ds, _, _, acc, res, .cons a r, .cons ru rs, h => by
    unfold dmkT at h
    split at h
    · rename_i e; cases e
    · rename_i k v r1 e1
      cases e1
      split at h
      · rename_i hk
        obtain ⟨⟨xs, ek⟩, k2, k3⟩ := keyT_spec hk
        obtain ⟨ps, hp⟩ := pl_of I hK r rs h
        obtain ⟨b, vs2, eb, hb, fb⟩ := (show BR G H O _ _ from .inl a).tup
        obtain ⟨x, y, e3, fx, fy⟩ := fb.two
        subst eb e3
        obtain rfl : _ = Value.ref b := ru
        obtain ⟨its, rv, ht, _⟩ := I.tuple (hK ▸ hb)
        obtain ⟨u1, u2, ei, r1, r2⟩ := vals2 rv
        subst ei
        subst ek
        obtain ⟨a1, vs3, ea, _, _⟩ := (show BR G H O _ _ from .inl fx).tup
        subst ea
        obtain rfl : u1 = Value.ref a1 := r1
        exact ⟨_, .cons (uk := .none) (by simpa using ht) ⟨rfl, k2, fx, _, r2, fy⟩ (fx.nested I hK k2 _ rfl) hk hp⟩
      · cases h
    · cases h
theorem pl_stored {s : Shared} : ∀ {ds : List D} {vs : List V} {us : List Value} {ps : List NX} {acc res : List (D × D)} {xs : List NX}, PL X G H O s vs ds us ps → dmkT ds acc = some res → Paired (KR G H O) xs acc → (xs.map (·.1)).Nodup → Paired (KR G H O) (storedAllH xs ps) res ∧ ((storedAllH xs ps).map (·.1)).Nodup
  | _, _, _, _, acc, res, xs, .nil, h, t, nd => by
    simp only [dmkT, Option.some.injEq] at h
    subst h
    exact ⟨t, nd⟩
  | _, _, _, _, acc, res, xs, .cons (k := k) (v := v) (a := a) (u := u) h1 h2 h3 h4 h5, h, t, nd => by
    simp only [dmkT, h4, if_true] at h
    obtain ⟨g1, g2⟩ := stored_kr (keyT_spec h4).2.1 h2 t nd
    exact pl_stored (xs := storedH xs (nk k) a u) h5 h g1 g2
theorem pl_at {s : Shared} : ∀ {ds : List D} {vs : List V} {us : List Value} {ps : List NX}, PL X G H O s vs ds us ps → us.length = ps.length ∧ ∀ (j : Nat) (x : NX), ps[j]? = some x → ∃ b, us[j]? = some (.ref b) ∧ IsTup s.heap b #[.ref x.2.1, x.2.2] ∧ NestedIs s.heap x.1 (.ref x.2.1) ∧ x.1.depth ≤ 8
  | _, _, _, _, .nil => ⟨rfl, fun j x h => by simp at h⟩
  | _, _, _, _, .cons h1 h2 h3 h4 h5 => by
    obtain ⟨l, f⟩ := pl_at h5
    refine ⟨by rw [List.length_cons, List.length_cons, l], fun j x h => ?_⟩
    cases j with
    | zero =>
      rw [List.getElem?_cons_zero, Option.some.injEq] at h
      subst h
      obtain ⟨_, k2, k3⟩ := keyT_spec h4
      exact ⟨_, rfl, h1, h3, by rw [nk_depth _ k2]; exact k3⟩
    | succ j =>
      rw [List.getElem?_cons_succ] at h ⊢
      exact f j x h
theorem fre_of (hW : G.w = X.w) : ∀ {xs : List NX} {kvs : List (D × D)}, Paired (KR G H O) xs kvs → FRe G H O (xs.map (entryOfKey (nestedKind X.prog X.w))) kvs
  | _, _, .nil => .nil
  | _, _, .cons (a := x) (b := (k, d)) ⟨h1, h2, h3, v, h4, h5⟩ t => .cons (by rw [hW, ← h1]; rfl) (show RelV (.ref x.2.1) (.ref x.2.1) from rfl) h3 h4 h5 (fre_of hW t)
theorem keys_of : ∀ {xs : List NX} {kvs : List (D × D)}, Paired (KR G H O) xs kvs → kvs.map (fun q => nk q.1) = xs.map (·.1)
  | _, _, .nil => rfl
  | _, _, .cons h t => by rw [List.map_cons, List.map_cons, keys_of t, h.1]
/-- dict(pairs), the keys being tuples -/
theorem call_dictNK (hK : G.K = X.K) (hW : G.w = X.w) (hc : X.calm = true) (hu : X.A.units + 40 < cLine) : CallR X (.type "dict") (rBf G (bfD .dict)) := by
  rintro pins s σ H xs us Q I rx ⟨O, ds, r, lv, bs, e, q⟩
  obtain ⟨v, d, rfl, rfl, b, e⟩ := bs.one_of e
  unfold dictD at e
  split at e
  · obtain ⟨kvs, hn, rfl⟩ := Option.map_eq_some_iff.mp e
    obtain ⟨l, vs, rfl, hl, f⟩ := b.lst
    obtain ⟨u, rfl, rv⟩ := vals1 rx
    obtain rfl : u = .ref l := rv
    obtain ⟨its, rits, pl, hz⟩ := I.list (SqL.of hl)
    obtain ⟨ps, hp⟩ := pl_of I hK f rits hn
    obtain ⟨pll, pat⟩ := pl_at hp
    obtain ⟨st1, st2⟩ := pl_stored hp hn .nil List.nodup_nil
    obtain ⟨o, n, ho, hcl, hd, hdat⟩ := pl
    let Ts : Nat → Addr := fun j => match its[j]? with
      | some (.ref b) => b
      | _ => 0
    have hlen : ps.length ≤ sizeLine := by rw [← pll, ← rits.length]; exact hz
    let pv : List (Value × Value) := ps.map fun x => (.ref x.2.1, x.2.2)
    have hpl : pv.length = ps.length := List.length_map ..
    refine call_dict_pairsH (knd := nestedKind X.prog X.w) (ps := ps) (PairArg.list l its.toArray Ts pv) (I.ok.hd hc) (show X.A.in1.in1.units + 8 < cLine by simp only [Around.in1_units]; omega) ⟨⟨o, n, ho, hcl, hd, hdat⟩, ?_, fun j k v hj => ?_⟩ ⟨hpl.symm, fun i k v hj => ?_⟩ (fun h' hk x hx => ?_) (by rw [hpl]; exact hlen) fun h' tk hd' hk => ?_
    · rw [hpl, ← pll]; simp
    · rw [List.getElem?_map] at hj
      obtain ⟨x, hx, e2⟩ := Option.map_eq_some_iff.mp hj
      cases e2
      obtain ⟨b, e3, e4, _⟩ := pat j x hx
      have eT : Ts j = b := by show (match its[j]? with | some (.ref b) => b | _ => 0) = b; rw [e3]
      rw [eT]
      exact ⟨by simpa using e3, .inl e4⟩
    · rw [PairRel, List.getElem?_map] at hj
      obtain ⟨x, hx, e2⟩ := Option.map_eq_some_iff.mp hj
      cases e2
      exact ⟨x.1, x.2.1, hx, rfl⟩
    · obtain ⟨j, hj⟩ := List.mem_iff_getElem?.mp hx
      obtain ⟨b, _, _, e5, e6⟩ := pat j x hj
      exact nestedKind_stays.stays (fun b o vs n e _ => hk b o (Nat.ne_of_lt (Heap.lt_size e)) (by simp) e) ⟨e5, e6⟩
    · obtain ⟨o', es, ep, g1, g2, g3, g4, _, g5⟩ := hd'
      have hm : (s.heap.objs.size == sysModules) = false := beq_eq_false_iff_ne.mpr (Nat.ne_of_gt I.big)
      have hf : H s.heap.objs.size = none := I.hok.fresh (Nat.le_refl _)
      refine ⟨.ref s.heap.objs.size, upd H s.heap.objs.size (pin s.heap.objs.size o'), I.laid (t' := tk) (fun b o e => hk b o (by simp) e) (Nat.le_refl _) ⟨g1, ⟨_, g1⟩, fun h1 h2 e k => k _ e⟩, rfl, q o' es ep _ hf g2 g3 ?_ hm ?_ ?_⟩
      · rw [size_of_entries g4]
        have := storedAllH_length ps ([] : List NX)
        rw [List.length_nil, Nat.zero_add] at this
        exact Nat.le_trans this hlen
      · rw [g4]
        exact fre_of hW st1
      · rw [keys_of st1]
        exact st2
  · cases e
end
end Bh
/-! text Bh5a -/
set_option Elab.async false
set_option linter.all false
set_option maxRecDepth 100000
set_option maxHeartbeats 1000000
/-! Bh5a: what an evaluator's result asks of the machine. -/
namespace Bh
open PySem PySem.W L2 PyProof.Rows

/-- the program: its tables, what they name -/
structure Pr where
  G : Gx
  T : List (Addr × Str)
  pg : Pg
  gl : Nat → Str
  dn : Nat → Str
  mn : Nat → Str
  cn : Nat → Str
  da : Nat → Addr
  dfd : Nat → FuncData
  dps : Nat → List Str
  top : Nat → Bool
  exc : Nat → Bool
/-- a frame of the program -/
structure FOk (p : Pr) (ow : List Nat) (F : Fm) : Prop where
  ow : F.ow = ow
  G : F.G = p.G
  T : F.T = p.T
  oe : ∀ a, F.Oe a → F.Ox a
theorem FOk.guard {p : Pr} {ow : List Nat} {F : Fm} (k : FOk p ow F) (q : Addr) : FOk p ow (F.guard q) := ⟨k.ow, k.G, k.T, fun a z => .inl (k.oe a z)⟩
def Wish (F : Fm) (W : WX) (σ : L2.St) (H : Hp) (env : Env) {α : Type} (r : R α) (S : α → Env → Hp → Prop) : Prop := match r with
  | .ok a env' => ∀ H', Post F σ H env H' env' → S a env' H'
  | .exc c env' => ∀ dx H', Post F σ H env H' env' → W (.ref (F.G.ca c)) dx σ H'
  | .err => False
section
variable {F : Fm} {W : WX} {σ : L2.St} {H H1 : Hp} {env env1 : Env} {α β : Type}
theorem Wish.bind {r : R α} {k : α → Env → R β} {S : β → Env → Hp → Prop} (w : Wish F W σ H env (r.bind k) S) : Wish F W σ H env r (fun a env1 H1 => Wish F W σ H1 env1 (k a env1) S) := by
  cases r with
  | ok a e =>
    intro H1 P1
    have w' : Wish F W σ H env (k a e) S := w
    cases h : k a e with
    | ok b e2 => rw [h] at w'; exact fun H2 P2 => w' H2 (P1.trans P2)
    | exc c e2 => rw [h] at w'; exact fun dx H2 P2 => w' dx H2 (P1.trans P2)
    | err => rw [h] at w'; exact w'
  | exc c e => exact w
  | err => exact w
theorem Wish.imp {r : R α} {S S' : α → Env → Hp → Prop} (w : Wish F W σ H env r S) (h : ∀ a env' H', Post F σ H env H' env' → S a env' H' → S' a env' H') : Wish F W σ H env r S' := by
  cases r with
  | ok a e => exact fun H' P => h a e H' P (w H' P)
  | exc c e => exact w
  | err => exact w
theorem Wish.of {o : Option α} {S : α → Env → Hp → Prop} (w : Wish F W σ H env (R.of o env) S) : ∃ a, o = some a ∧ ∀ H', Post F σ H env H' env → S a env H' := by
  cases o with
  | none => exact w.elim
  | some a => exact ⟨a, rfl, w⟩
end
/-- a result: data; where it is new, more is known of it -/
def VR (F : Fm) (σ : L2.St) (env : Env) (Hs H : Hp) (nw : Nat → Bool) (v : V) (d : D) : Prop :=
  FR F.G H (OO F σ env) v d ∧ (nw (kindOf d) = true → kindOf d ≠ 0 → ∃ p, v = .ref p ∧ ¬ Av Hs p ∧ ¬ OO F σ env p ∧ Cont F.G H (OO (F.guard p) σ env) p d ∧ FI (F.guard p) σ H env)
def tE (p : Pr) (ow : List Nat) (tb : Tb) (cf : CF) (W : WX) (e : E) : TE := fun σ H Q =>
  ∃ F env, FOk p ow F ∧ FI F σ H env ∧ Wish F W σ H env (evE tb cf e env) fun d env' H' => ∀ v, VR F σ env' H H' (isNew tb e) v d → Q v H'
def tO (p : Pr) (ow : List Nat) (tb : Tb) (cf : CF) (W : WX) (e : E) : TE := match lateOf e with
  | some i => tVar i
  | none => tE p ow tb cf W e
def tOs (p : Pr) (ow : List Nat) (tb : Tb) (cf : CF) (W : WX) : Es → List TE
  | .nil => []
  | .cons e es => tO p ow tb cf W e :: tOs p ow tb cf W es
def tAs : List TE → TA
  | [] => tNil
  | t :: ts => tCons t (tAs ts)
/-- the late operands own -/
def lateIn (ow : List Nat) : Es → Bool
  | .nil => true
  | .cons e es => (match lateOf e with
    | some i => decide (i ∈ ow)
    | none => true) && lateIn ow es
inductive OR (F : Fm) (σ : L2.St) (H : Hp) (env : Env) : Es → List V → List D → Prop
  | nil : OR F σ H env .nil [] []
  | late {e : E} {es : Es} {i : Nat} {v : V} {d : D} {vs : List V} {ds : List D} : lateOf e = some i → env.get i = some d → σ[i]? = some (some v) → OR F σ H env es vs ds → OR F σ H env (.cons e es) (v :: vs) (d :: ds)
  | now {e : E} {es : Es} {v : V} {d : D} {vs : List V} {ds : List D} : lateOf e = none → FR F.G H (OO F σ env) v d → OR F σ H env es vs ds → OR F σ H env (.cons e es) (v :: vs) (d :: ds)
section
variable {F : Fm} {W : WX} {σ : L2.St} {H H1 : Hp} {env env1 : Env} {tb : Tb} {cf : CF}
theorem OR.brs (I : FI F σ H env) : ∀ {es : Es} {vs : List V} {ds : List D}, lateIn F.ow es = true → OR F σ H env es vs ds → BRs F.G H (OO F σ env) vs ds
  | .nil, [], [], _, .nil => .nil
  | .cons e _, _ :: _, _ :: _, h, .late hl hg hs r => by
    simp only [lateIn, hl, Bool.and_eq_true, decide_eq_true_eq] at h
    obtain ⟨p, h1, h2, _⟩ := I.own _ _ hg h.1
    rw [hs] at h1
    cases h1
    exact .cons (.inr ⟨p, rfl, h2⟩) (OR.brs I h.2 r)
  | .cons e _, _ :: _, _ :: _, h, .now hl f r => by
    simp only [lateIn, hl, Bool.and_eq_true, decide_eq_true_eq] at h
    exact .cons (.inl f) (OR.brs I h.2 r)
theorem FI.slot (I : FI F σ H env) {i : Nat} {d : D} (hg : env.get i = some d) : ∃ v, σ[i]? = some (some v) := by
  by_cases h : i ∈ F.ow
  · obtain ⟨p, h1, _⟩ := I.own i d hg h
    exact ⟨_, h1⟩
  · obtain ⟨v, h1, _⟩ := I.fr i d hg h
    exact ⟨v, h1⟩
/-- the operands, from the left -/
theorem es_run {p : Pr} {ow : List Nat} (ok : FOk p ow F) : ∀ (es : Es) {H : Hp} {env : Env} {S : List D → Env → Hp → Prop} {Q : List V → Hp → Prop}, FI F σ H env → Wish F W σ H env (evEs tb cf es env) S →
    (∀ ds env' H' vs, Post F σ H env H' env' → OR F σ H' env' es vs ds → S ds env' H' → Q vs H') → tAs (tOs p ow tb cf W es) σ H Q
  | .nil, H, env, S, Q, I, w, q => q [] env H [] (.refl I) .nil (w H (.refl I))
  | .cons e es, H, env, S, Q, I, w, q => by
    show tO p ow tb cf W e σ H fun x H1 => tAs (tOs p ow tb cf W es) σ H1 fun xs H2 => Q (x :: xs) H2
    unfold tO
    unfold evEs at w
    cases hl : lateOf e with
    | some i =>
      rw [hl] at w
      obtain ⟨d0, hg, w1⟩ := w.bind.of
      obtain ⟨v, hv⟩ := I.slot hg
      refine ⟨v, hv, ?_⟩
      refine es_run ok es I (w1 H (.refl I)).bind fun ds env' H' vs P r w2 => ?_
      obtain ⟨d, hg', w3⟩ := w2.bind.of
      exact q (d :: ds) env' H' (v :: vs) P (.late hl hg' hv r) (w3 H' (.refl P.fi) H' (.refl P.fi))
    | none =>
      rw [hl] at w
      refine ⟨F, env, ok, I, w.bind.imp fun d env1 H1 P1 w1 v hv => ?_⟩
      refine es_run ok es P1.fi w1.bind fun ds env' H' vs P r w2 => ?_
      exact q (d :: ds) env' H' (v :: vs) (P1.trans P) (.now hl (hv.1.carry P.stp) r) (w2 H' (.refl P.fi))
end

/-! ### contexts -/
def bfName : Bf → Str
  | .len => "len"
  | .abs => "abs"
  | .int => "int"
  | .list => "list"
  | .tuple => "tuple"
  | .sorted => "sorted"
  | .max => "max"
  | .min => "min"
  | .dict => "dict"
/-- what is promised behind a call -/
structure DP (T : List (Addr × Str)) (io : List Nat) (vs : List V) (G : Gx) (H : Hp) (Oe : Addr → Prop) (H' : Hp) (O' : Addr → Prop) (outs : List D) : Prop where
  keep : ∀ a o, H a = some o → (∀ i ∈ io, vs[i]? ≠ some (.ref a)) → Nt o → H' a = some o
  len : outs.length = io.length
  out : ∀ (n i : Nat) (d : D), io[n]? = some i → outs[n]? = some d → ∃ p, vs[i]? = some (.ref p) ∧ Cont G H' O' p d
  sub : ∀ a, Av H a → Av H' a
  tabs : LamX.Tabs T H'
/-- the arguments of a call -/
structure AR (T : List (Addr × Str)) (df : Def) (G : Gx) (H : Hp) (Oe : Addr → Prop) (vs : List V) (ds : List D) : Prop where
  vl : vs.length = df.np
  dl : ds.length = df.np
  live : Live H Oe
  tabs : LamX.Tabs T H
  fr : ∀ i d, ds[i]? = some d → i ∉ df.io → ∃ v, vs[i]? = some v ∧ FR G H Oe v d
  io : ∀ i d, ds[i]? = some d → i ∈ df.io → ∃ p, vs[i]? = some (.ref p) ∧ Oe p ∧ Cont G H Oe p d
  dist : ∀ i j p, i ∈ df.io → j ∈ df.io → vs[i]? = some (.ref p) → vs[j]? = some (.ref p) → i = j
/-- a def's promise: what the evaluator says -/
def spD (p : Pr) (df : Def) (g : List D → CR) : Sp := fun vs H Q E => ∃ (Oe : Addr → Prop) (ds : List D), AR p.T df p.G H Oe vs ds ∧ match g ds with
  | .ok r outs => ∀ v H', DP p.T df.io vs p.G H Oe H' Oe outs → FR p.G H' Oe v r →
      (df.fr = true → kindOf r = 1 ∨ kindOf r = 2 → ∃ q, v = .ref q ∧ ¬ Av H q ∧ Cont p.G H' (fun a => Oe a ∨ a = q) q r ∧ DP p.T df.io vs p.G H Oe H' (fun a => Oe a ∨ a = q) outs) → Q v H'
  | .exc c outs => ∀ dx H', DP p.T df.io vs p.G H Oe H' Oe outs → E (.ref (p.G.ca c)) dx H'
  | .err => False
/-- what the program's top has left -/
structure Facts (p : Pr) (prog : Program) (w : World) (K : Frag) (mg : Str → Option Value) (base : Heap) (k : Nat) : Prop where
  hK : p.G.K = K
  hW : p.G.w = w
  glob : ∀ g d, p.pg.tb.glob g = some d → ∃ v u, mg (p.gl g) = some u ∧ RelV v u ∧ ∀ H O, FR p.G H O v d
  bln : ∀ b, mg (bfName b) = none
  rng : mg "range" = none
  dm : ∀ f, p.top f = true → mg (p.dn f) = some (.ref (p.da f))
  kp : ∀ f df, p.pg.defs f = some df → keepIn K (.ref (p.da f)) = true
  bi : ∀ f df, p.pg.defs f = some df → L2.Binds K (p.dfd f) (p.dps f) []
  fn : ∀ j, j ≤ k → ∀ f df, p.pg.defs f = some df → FnOk prog w K mg base (L2.CX prog w) j (p.da f) (p.dfd f) (p.dps f) (spD p df ((lev p.pg j).c 0 f))
  inj : ∀ g g', p.G.fnm g = p.G.fnm g' → g = g'
  nom : ∀ g j, p.G.fnm g ≠ p.mn j
  meth : ∀ c m f, p.pg.tb.meth c m = some f → Cls K (p.G.ca c) ∧ Meth K (p.G.ca c) (p.mn m) (p.da f) ∧ ∃ df, p.pg.defs f = some df
  init : ∀ c f, p.pg.tb.init c = some f → mg (p.cn c) = some (.ref (p.G.ca c)) ∧ Mk K (p.G.ca c) (p.da f) ∧ ∃ df, p.pg.defs f = some df
  exc : ∀ c, p.exc c = true → mg (p.cn c) = some (.ref (p.G.ca c)) ∧ keepIn K (.ref (p.G.ca c)) = true ∧ subIn K (.ref (p.G.ca c)) (.type "BaseException") = some true ∧ typeIn K (.ref (p.G.ca c)) = some (.type "type") ∧ excIn K (p.G.ca c) [.type "ValueError", .type "Exception", .type "BaseException", .type "object"] "ValueError.__new__" = true
  fld : ∀ c f, p.pg.tb.fld c f = true → Cls K (p.G.ca c) ∧ NoAttr K (p.G.ca c) (p.G.fnm f)
/-- lambdas may be made here -/
def LamOk (p : Pr) (X : Cx) : Prop := ∃ c P ql, X.env.qual ++ "<lambda>" = ql ∧ LamX.TabB X.base X.mg c P ∧ X.env.code = .ref c ∧ (P, ql) ∈ p.T ∧ ∀ q ∈ p.T, q.1 = P → q.2 = ql
structure Cok (p : Pr) (N : List Str) (tl : Bool) (sc : Scope) (k : Nat) (X : Cx) (W : WX) : Prop where
  nm : X.N = N
  nd : X.N.Nodup
  scope : X.env.scope = sc
  calm : X.calm = true
  room : Room k X.A
  tk : Takes X W
  lam : tl = true → LamOk p X
  facts : Facts p X.prog X.w X.K X.mg X.base k
theorem Cok.un {p : Pr} {N : List Str} {tl : Bool} {sc : Scope} {k : Nat} {X : Cx} {W : WX} (C : Cok p N tl sc k X W) : X.A.units + 110 < cLine := by
  have := C.room.un
  omega
end Bh
/-! text Bh5b -/
set_option Elab.async false
set_option linter.all false
set_option maxRecDepth 100000
set_option maxHeartbeats 1000000
/-! Bh5b: the shapes of expressions; rules, one a construct. -/
namespace Bh
open PySem PySem.W L2 PyProof.Rows

/-! ### shapes -/
def visB (sc : Scope) (x : Str) : Bool := match sc.names.lookup x with
  | some .local => true
  | some .cell => true
  | some .free => true
  | _ => false
def locB (sc : Scope) (x : Str) : Bool := match sc.names.lookup x with
  | some .local => true
  | some .cell => true
  | _ => false
def gloB (sc : Scope) (x : Str) : Bool := match sc.names.lookup x with
  | some .globalImplicit => true
  | _ => false
theorem visB_vis {sc : Scope} {x : Str} (h : visB sc x = true) : Vis sc x := by
  unfold visB at h
  unfold Vis
  split at h <;> simp_all
theorem locB_loc {sc : Scope} {x : Str} (h : locB sc x = true) : L2.Loc sc x := by
  unfold locB at h
  unfold L2.Loc
  split at h <;> simp_all
theorem gloB_glo {sc : Scope} {x : Str} (h : gloB sc x = true) : sc.names.lookup x = some .globalImplicit := by
  unfold gloB at h
  split at h <;> simp_all
def plainName (x : Str) : Bool := !(x == ("__debug__" : Str)) && !(x == ("__classdict__" : Str)) && !(x == ("__name__" : Str))
def isStar : Expr → Bool
  | .Starred _ _ => true
  | _ => false
theorem starEach_cons {e : Expr} (h : isStar e = false) (es : List Expr) (env : PySem.Env) : starEach (e :: es) env = (false, eval e env) :: starEach es env := by
  cases e <;> first | rfl | (simp [isStar] at h)
def asName : Expr → Option Str
  | .Name x _ => some x
  | _ => none
theorem asName_eq {e : Expr} {x : Str} (h : asName e = some x) : ∃ pos, e = .Name x pos := by
  cases e <;> simp [asName] at h
  subst h; exact ⟨_, rfl⟩
def asBin : Expr → Option (Expr × Operator × Expr)
  | .BinOp a o b _ => some (a, o, b)
  | _ => none
theorem asBin_eq {e a b : Expr} {o : Operator} (h : asBin e = some (a, o, b)) : ∃ pos, e = .BinOp a o b pos := by
  cases e <;> simp [asBin] at h
  obtain ⟨rfl, rfl, rfl⟩ := h; exact ⟨_, rfl⟩
def asCmp1 : Expr → Option (Expr × CmpOp × Expr)
  | .Compare a [o] [b] _ => some (a, o, b)
  | _ => none
theorem asCmp1_eq {e a b : Expr} {o : CmpOp} (h : asCmp1 e = some (a, o, b)) : ∃ pos, e = .Compare a [o] [b] pos := by
  unfold asCmp1 at h
  split at h
  · cases h; exact ⟨_, rfl⟩
  · cases h
def asCmp2 : Expr → Option (Expr × CmpOp × Expr × CmpOp × Expr)
  | .Compare a [o, q] [b, c] _ => some (a, o, b, q, c)
  | _ => none
theorem asCmp2_eq {e a b c : Expr} {o q : CmpOp} (h : asCmp2 e = some (a, o, b, q, c)) : ∃ pos, e = .Compare a [o, q] [b, c] pos := by
  unfold asCmp2 at h
  split at h
  · cases h; exact ⟨_, rfl⟩
  · cases h
def asUn : Expr → Option (UnaryOp × Expr)
  | .UnaryOp o a _ => some (o, a)
  | _ => none
theorem asUn_eq {e a : Expr} {o : UnaryOp} (h : asUn e = some (o, a)) : ∃ pos, e = .UnaryOp o a pos := by
  cases e <;> simp [asUn] at h
  obtain ⟨rfl, rfl⟩ := h; exact ⟨_, rfl⟩
def asIf : Expr → Option (Expr × Expr × Expr)
  | .IfExp c a b _ => some (c, a, b)
  | _ => none
theorem asIf_eq {e a b c : Expr} (h : asIf e = some (c, a, b)) : ∃ pos, e = .IfExp c a b pos := by
  cases e <;> simp [asIf] at h
  obtain ⟨rfl, rfl, rfl⟩ := h; exact ⟨_, rfl⟩
/-- a and (the rest), a or (the rest) -/
def asBool : Expr → Option (BoolOp × Expr × Expr)
  | .BoolOp o (a :: b :: r) pos => some (o, a, .BoolOp o (b :: r) pos)
  | _ => none
theorem asBool_eq {e a c : Expr} {o : BoolOp} (h : asBool e = some (o, a, c)) : ∃ b r pos, e = .BoolOp o (a :: b :: r) pos ∧ c = .BoolOp o (b :: r) pos := by
  unfold asBool at h
  split at h
  · cases h; exact ⟨_, _, _, rfl, rfl⟩
  · cases h
def asOne : Expr → Option Expr
  | .BoolOp _ [a] _ => some a
  | _ => none
theorem asOne_eq {e a : Expr} (h : asOne e = some a) : ∃ o pos, e = .BoolOp o [a] pos := by
  unfold asOne at h
  split at h
  · cases h; exact ⟨_, _, rfl⟩
  · cases h
def asTup : Expr → Option (List Expr)
  | .Tuple es _ _ => some es
  | _ => none
theorem asTup_eq {e : Expr} {es : List Expr} (h : asTup e = some es) : ∃ k pos, e = .Tuple es k pos := by
  cases e <;> simp [asTup] at h
  subst h; exact ⟨_, _, rfl⟩
def asLst : Expr → Option (List Expr)
  | .List es _ => some es
  | _ => none
theorem asLst_eq {e : Expr} {es : List Expr} (h : asLst e = some es) : ∃ pos, e = .List es pos := by
  cases e <;> simp [asLst] at h
  subst h; exact ⟨_, rfl⟩
def isSlice : Expr → Bool
  | .Slice _ _ _ _ => true
  | _ => false
theorem plainIx {b : Expr} (h : isSlice b = false) : PlainIx b := by
  intro o i
  cases b <;> first | rfl | (simp [isSlice] at h)
def asSub : Expr → Option (Expr × Expr)
  | .Subscript a b _ => some (a, b)
  | _ => none
theorem asSub_eq {e a b : Expr} (h : asSub e = some (a, b)) : ∃ pos, e = .Subscript a b pos := by
  cases e <;> simp [asSub] at h
  obtain ⟨rfl, rfl⟩ := h; exact ⟨_, rfl⟩
/-- x(es) -/
def asCall : Expr → Option (Str × List Expr)
  | .Call (.Name x _) es [] _ => some (x, es)
  | _ => none
theorem asCall_eq {e : Expr} {x : Str} {es : List Expr} (h : asCall e = some (x, es)) : ∃ p pos, e = .Call (.Name x p) es [] pos := by
  unfold asCall at h
  split at h
  · cases h; exact ⟨_, _, rfl⟩
  · cases h
/-- o.m(es), o no call -/
def asMeth : Expr → Option (Expr × Str × List Expr)
  | .Call (.Attribute o m ap) es [] cp => match o with
    | .Call _ _ _ _ => none
    | _ => if ap.endLine == cp.line then some (o, m, es) else none
  | _ => none
def isCall : Expr → Bool
  | .Call _ _ _ _ => true
  | _ => false
theorem asMeth_eq {e o : Expr} {m : Str} {es : List Expr} (h : asMeth e = some (o, m, es)) : ∃ ap cp, e = .Call (.Attribute o m ap) es [] cp ∧ isCall o = false ∧ (ap.endLine == cp.line) = true := by
  unfold asMeth at h
  split at h
  · split at h
    · cases h
    · rename_i o' _ _ hn
      split at h
      · rename_i hl
        cases h
        refine ⟨_, _, rfl, ?_, hl⟩
        cases o <;> first | rfl | exact (hn _ _ _ _ rfl).elim
      · cases h
  · cases h
def asAttr : Expr → Option (Expr × Str)
  | .Attribute o m _ => some (o, m)
  | _ => none
theorem asAttr_eq {e o : Expr} {m : Str} (h : asAttr e = some (o, m)) : ∃ pos, e = .Attribute o m pos := by
  cases e <;> simp [asAttr] at h
  obtain ⟨rfl, rfl⟩ := h; exact ⟨_, rfl⟩
theorem attrBase {o : Expr} (h : isCall o = false) (f : Str) (env : PySem.Env) : attributeBase o f env (eval o env) = eval o env := by
  cases o <;> first | rfl | (simp [isCall] at h)
/-- a constant -/
def conIs : D → Expr → Bool
  | .int i, .Constant (.int j) _ _ => i == j
  | .bl a, .Constant (.bool b) _ _ => a == b
  | .non, .Constant .none _ _ => true
  | .str s, .Constant (.str x) _ _ => x.cps.toList == s
  | _, _ => false
def isVal : Expr → Bool
  | .UnaryOp .Not _ _ => false
  | .BoolOp _ _ _ => false
  | .IfExp _ _ _ _ => false
  | .Compare _ _ _ _ => false
  | _ => true
theorem isVal_true {e : Expr} (h : isVal e = true) (env : PySem.Env) (whole : Sem Value) : isTrue e env whole = (do let v ← whole; standAt e.pos; holding [v] (truthy v)) := by
  cases e with
  | UnaryOp o a pos => cases o <;> first | rfl | (simp [isVal] at h)
  | _ => first | rfl | (simp [isVal] at h)

theorem PEimp {X : Cx} {e : Expr} {t t' : TE} (h : PE X e t) (k : ∀ σ H Q, t' σ H Q → t σ H Q) : PE X e t' := ⟨fun pins s σ H Q I q => h.run pins s σ H Q I (k σ H Q q)⟩
theorem PTimp {X : Cx} {e : Expr} {t t' : TT} (h : PT X e t) (k : ∀ σ H Q, t' σ H Q → t σ H Q) : PT X e t' := ⟨fun pins s σ H Q I q => h.run pins s σ H Q I (k σ H Q q)⟩
inductive PEs (X : Cx) : List Expr → List TE → Prop
  | nil : PEs X [] []
  | cons {e : Expr} {t : TE} {es : List Expr} {ts : List TE} : PE X e t → isStar e = false → PEs X es ts → PEs X (e :: es) (t :: ts)
theorem PEs.pa {X : Cx} : ∀ {es : List Expr} {ts : List TE}, PEs X es ts → PA X es (tAs ts)
  | _, _, .nil => pa_nil
  | _, _, .cons h s r => pa_cons h r.pa (starEach_cons s _ _)
theorem PEs.plain {X : Cx} (pos : Pos) : ∀ {es : List Expr} {ts : List TE}, PEs X es ts → (backTo pos (starEach es X.env)).any (·.1) = false
  | _, _, .nil => rfl
  | _, _, .cons h s r => by
    rw [starEach_cons s]
    show (false || (backTo pos (starEach _ X.env)).any (·.1)) = false
    rw [PEs.plain pos r]
    rfl

/-! ### rules -/
section
variable {p : Pr} {N : List Str} {ow : List Nat} {tl : Bool} {sc : Scope} {F : Fm} {k : Nat} {X : Cx} {W : WX} {cf : CF} {tb : Tb}
theorem pe_slot (C : Cok p N tl sc k X W) {i : Nat} {x : Str} {pos : Pos} (h1 : N[i]? = some x) (h2 : visB sc x = true) (h3 : plainName x = true) : PE X (.Name x pos) (tVar i) := by
  simp only [plainName, Bool.and_eq_true, Bool.not_eq_true'] at h3
  exact pe_var (by rw [C.nm]; exact h1) (by rw [C.scope]; exact visB_vis h2) h3.1.1 h3.1.2
theorem Cok.gl (C : Cok p N tl sc k X W) {x : Str} (h : gloB sc x = true) : Gl X x := by
  show X.env.scope.names.lookup x = _
  rw [C.scope]
  exact gloB_glo h
/-- a result that is not new -/
theorem VR.old {σ : L2.St} {env : Env} {Hs H : Hp} {v : V} {d : D} (f : FR F.G H (OO F σ env) v d) : VR F σ env Hs H (fun _ => false) v d := ⟨f, fun z => nomatch z⟩
theorem s_var (C : Cok p N tl sc k X W) {i : Nat} {pe : Expr} (h : PE X pe (tVar i)) (hi : i ∉ ow) : PE X pe (tE p ow tb cf W (.var i)) := by
  refine PEimp h fun σ H Q ⟨F, env, ok, I, w⟩ => ?_
  obtain ⟨d, hg, w⟩ := w.of
  obtain ⟨v, hv, f⟩ := I.fr i d hg (by rw [ok.ow]; exact hi)
  exact ⟨v, hv, w H (.refl I) v (VR.old f)⟩
theorem conIs_pe {d : D} {pe : Expr} (h : conIs d pe = true) : ∃ v, PE X pe (tC v) ∧ ∀ (G : Gx) (H : Hp) (O : Addr → Prop), FR G H O v d := by
  unfold conIs at h
  split at h
  · rw [beq_iff_eq] at h; subst h; exact ⟨_, pe_int, fun _ _ _ => .int _⟩
  · rw [beq_iff_eq] at h; subst h; exact ⟨_, pe_bl, fun _ _ _ => .bl _⟩
  · exact ⟨_, pe_non, fun _ _ _ => .non⟩
  · rename_i s x _ _
    rw [beq_iff_eq] at h
    refine ⟨_, pe_str, fun _ _ _ => ?_⟩
    have e : x = ⟨s.toArray⟩ := by
      obtain ⟨c⟩ := x
      show (⟨c⟩ : Str) = _
      rw [← h]
    rw [e]
    exact .str _
  · cases h
theorem s_con {d : D} {pe : Expr} (h : conIs d pe = true) : PE X pe (tE p ow tb cf W (.con d)) := by
  obtain ⟨v, hv, f⟩ := conIs_pe (X := X) h
  exact PEimp hv fun σ H Q ⟨F, env, ok, I, w⟩ => w H (.refl I) v (VR.old (f _ _ _))
theorem s_glob (C : Cok p N tl sc k X W) {g : Nat} {pos : Pos} (h1 : gloB sc (p.gl g) = true) (h2 : plainName (p.gl g) = true) (hd : (p.pg.tb.glob g).isSome = true) : PE X (.Name (p.gl g) pos) (tE p ow p.pg.tb cf W (.glob g)) := by
  obtain ⟨d, e⟩ := Option.isSome_iff_exists.mp hd
  obtain ⟨v, u, hm, r, f⟩ := C.facts.glob g d e
  simp only [plainName, Bool.and_eq_true, Bool.not_eq_true'] at h2
  refine PEimp (pe_glob (C.gl h1) hm r h2.1.1) fun σ H Q ⟨F, env, ok, I, w⟩ => ?_
  obtain ⟨d', e', w⟩ := w.of
  rw [e] at e'
  cases e'
  exact w H (.refl I) v (VR.old (by rw [ok.G]; exact f _ _))
/-- a wish of a result, out of an operator's -/
theorem rr_of {σ : L2.St} {Hs H : Hp} {env : Env} {r : D} {nw : Nat → Bool} {Q : VK} (I : FI F σ H env) (dom : ∀ a, Av Hs a → Av H a) (hn : nw 3 = false)
    (w : ∀ H', Post F σ H env H' env → ∀ v, VR F σ env Hs H' nw v r → Q v H') : RR F.G H (OO F σ env) r Q := by
  have old : ∀ r : D, nw (kindOf r) = false ∨ kindOf r = 0 → (∀ H', Post F σ H env H' env → ∀ v, VR F σ env Hs H' nw v r → Q v H') → RX F.G H (OO F σ env) r Q := fun r h w v H1 e f =>
    w H1 (I.post e) v ⟨f, fun z1 z2 => by
      rcases h with h | h
      · rw [h] at z1; cases z1
      · exact (z2 h).elim⟩
  cases r with
  | lst ds =>
    intro H1 vs q e f n
    have n0 : H q = none := e.free n
    have P1 := I.post e
    have P2 := P1.fi.post (Ext.upd (o := .lst vs) n)
    have g1 : Cont F.G (upd H1 q (.lst vs)) (OO (F.guard q) σ env) q (.lst ds) := .lst upd_same (f.carry ⟨fun a o h _ _ => Ext.upd n a o h, fun a z => by
      rcases (guard_oo a).mp z with z | z
      · exact .inl z
      · exact .inr (z ▸ Av.none n), Ext.dom (Ext.upd n)⟩)
    refine w _ (P1.trans P2) _ ⟨.lst upd_same (P1.fi.free (Av.none n)) (FRs.upd n f), fun _ _ => ⟨q, rfl, fun z => Av.none n0 (dom q z), I.free (Av.none n0), g1, P1.fi.guard n⟩⟩
  | dct kvs =>
    intro o es ep q n h1 h2 h3 h4 f h5
    have P2 := I.post (Ext.upd (o := pin q o) n)
    have g1 : Cont F.G (upd H q (pin q o)) (OO (F.guard q) σ env) q (.dct kvs) := .dct upd_same h1 h2 h3 h4 (f.carry ⟨fun a o' h _ _ => Ext.upd n a o' h, fun a z => by
      rcases (guard_oo a).mp z with z | z
      · exact .inl z
      · exact .inr (z ▸ Av.none n), Ext.dom (Ext.upd n)⟩) h5
    refine w _ P2 _ ⟨.dct upd_same (I.free (Av.none n)) h1 h2 h3 h4 (f.carry (Ext.upd n).stp) h5, fun _ _ => ⟨q, rfl, fun z => Av.none n (dom q z), I.free (Av.none n), g1, I.guard n⟩⟩
  | obj c fs => exact old (.obj c fs) (.inl hn) w
  | non => exact old _ (.inr rfl) w
  | bl b => exact old _ (.inr rfl) w
  | int i => exact old _ (.inr rfl) w
  | str s => exact old _ (.inr rfl) w
  | tup xs => exact old _ (.inr rfl) w
theorem rx_of {σ : L2.St} {Hs H : Hp} {env : Env} {r : D} {Q : VK} (I : FI F σ H env)
    (w : ∀ H', Post F σ H env H' env → ∀ v, VR F σ env Hs H' (fun _ => false) v r → Q v H') : RX F.G H (OO F σ env) r Q := fun v H1 e f => w H1 (I.post e) v (VR.old f)
/-- two operands, then a wish of both -/
theorem two_run (ok : FOk p ow F) {σ : L2.St} {H : Hp} {env : Env} {es : Es} {ta tc : TE} {S : List D → Env → Hp → Prop} {R : V → V → Hp → Prop} (I : FI F σ H env) (w : Wish F W σ H env (evEs tb cf es env) S) (ht : tOs p ow tb cf W es = [ta, tc]) (hl : lateIn F.ow es = true)
    (q : ∀ x y dx dy env' H', Post F σ H env H' env' → BR F.G H' (OO F σ env') x dx → BR F.G H' (OO F σ env') y dy → S [dx, dy] env' H' → R x y H') : ta σ H fun x H1 => tc σ H1 fun y H2 => R x y H2 := by
  have h := es_run ok es (Q := fun vs H' => match vs with
    | [x, y] => R x y H'
    | _ => True) I w fun ds env' H' vs P r s => by
    have b := OR.brs P.fi hl r
    cases b with
    | nil => trivial
    | cons b1 b2 =>
      cases b2 with
      | nil => trivial
      | cons b2 b3 =>
        cases b3 with
        | nil => exact q _ _ _ _ env' H' P b1 b2 s
        | cons _ _ => trivial
  rw [ht] at h
  exact h
end
end Bh
/-! text Bh5c -/
set_option Elab.async false
set_option linter.all false
set_option maxRecDepth 100000
set_option maxHeartbeats 1000000
/-! Bh5c: rules for operators, places, built-ins. -/
namespace Bh
open PySem PySem.W L2 PyProof.Rows
theorem PEs.two {X : Cx} {a b : Expr} {ts : List TE} (h : PEs X [a, b] ts) : ∃ ta tc, ts = [ta, tc] ∧ PE X a ta ∧ PE X b tc := by
  cases h with
  | cons h1 _ r => cases r with
    | cons h2 _ r => cases r; exact ⟨_, _, rfl, h1, h2⟩
theorem PEs.one {X : Cx} {a : Expr} {ts : List TE} (h : PEs X [a] ts) : ∃ ta, ts = [ta] ∧ PE X a ta := by
  cases h with
  | cons h1 _ r => cases r; exact ⟨_, rfl, h1⟩
theorem PEs.hd {X : Cx} {a : Expr} {as : List Expr} {ts : List TE} (pos : Pos) (h : PEs X (a :: as) ts) : starEach (a :: as) X.env = (false, eval a X.env) :: starEach as X.env ∧ (backTo pos (starEach as X.env)).any (·.1) = false := by
  cases h with
  | cons h1 h2 h3 => exact ⟨starEach_cons h2 _ _, h3.plain pos⟩
section
variable {p : Pr} {N : List Str} {ow : List Nat} {tl : Bool} {sc : Scope} {F : Fm} {k : Nat} {X : Cx} {W : WX} {cf : CF} {tb : Tb} {pos : Pos} {es : Es}
theorem s_op (C : Cok p N tl sc k X W) {o : Op2} {a b : Expr} (h : PEs X [a, b] (tOs p ow tb cf W es)) (hl : lateIn ow es = true) : PE X (.BinOp a (op2 o) b pos) (tE p ow tb cf W (.op o es)) := by
  obtain ⟨ta, tc, ht, ha, hb⟩ := h.two
  refine PEimp (pe_op (op_allD C.facts.hK o) ha hb) fun σ H Q ⟨F, env, ok, I, w⟩ => ?_
  rw [evE] at w
  refine two_run ok I w.bind ht (by rw [ok.ow]; exact hl) fun x y dx dy env' H' P bx bz w => ?_
  obtain ⟨r, e, w⟩ := w.of
  rw [← ok.G]
  exact ⟨OO F σ env', dx, dy, r, P.fi.alive, bx, bz, e, rr_of P.fi P.stp.dom rfl w⟩
/-- the test of a comparison -/
def tT (p : Pr) (ow : List Nat) (tb : Tb) (cf : CF) (W : WX) (e : E) : TT := fun σ H Q =>
  ∃ F env, FOk p ow F ∧ FI F σ H env ∧ Wish F W σ H env (evE tb cf e env) fun d env' H' => ∃ b, d = .bl b ∧ Q b H'
theorem t_of {e : E} {pe : Expr} (h : PE X pe (tE p ow tb cf W e)) (hv : isVal pe = true) : PT X pe (tT p ow tb cf W e) :=
  PTimp (pt_val h (fun whole => isVal_true hv _ _)) fun σ H Q ⟨F, env, ok, I, w⟩ => ⟨F, env, ok, I, w.imp fun d env' H' P ⟨b, e, q⟩ v r => by
    subst e
    have f := r.1
    cases f
    exact ⟨b, rfl, q⟩⟩
theorem s_cmp (C : Cok p N tl sc k X W) {c : Cm} {a b : Expr} (h : PEs X [a, b] (tOs p ow tb cf W es)) (hl : lateIn ow es = true) (hm : behindInMarks (cm2 c) b = false) : PE X (.Compare a [cm2 c] [b] pos) (tE p ow tb cf W (.cmp c es)) := by
  obtain ⟨ta, tc, ht, ha, hb⟩ := h.two
  refine PEimp (pe_cmpR (op_cmpD C.facts.hK (by have := C.un; omega) c) ha hb hm) fun σ H Q ⟨F, env, ok, I, w⟩ => ?_
  rw [evE] at w
  refine two_run ok I w.bind ht (by rw [ok.ow]; exact hl) fun x y dx dy env' H' P bx bz w => ?_
  obtain ⟨r, e, w⟩ := w.of
  obtain ⟨q, e', rfl⟩ := Option.map_eq_some_iff.mp e
  rw [← ok.G]
  exact ⟨OO F σ env', dx, dy, q, P.fi.alive, bx, bz, e', w H' (.refl P.fi) _ (VR.old (.bl q))⟩
theorem t_cmp (C : Cok p N tl sc k X W) {c : Cm} {a b : Expr} (h : PEs X [a, b] (tOs p ow tb cf W es)) (hl : lateIn ow es = true) (hm : behindInMarks (cm2 c) b = false) : PT X (.Compare a [cm2 c] [b] pos) (tT p ow tb cf W (.cmp c es)) := by
  obtain ⟨ta, tc, ht, ha, hb⟩ := h.two
  refine PTimp (pt_cmpR (op_cmpD C.facts.hK (by have := C.un; omega) c) ha hb hm) fun σ H Q ⟨F, env, ok, I, w⟩ => ?_
  rw [evE] at w
  refine two_run ok I w.bind ht (by rw [ok.ow]; exact hl) fun x y dx dy env' H' P bx bz w => ?_
  obtain ⟨r, e, w⟩ := w.of
  obtain ⟨q, e', rfl⟩ := Option.map_eq_some_iff.mp e
  obtain ⟨b, e2, w⟩ := w H' (.refl P.fi)
  cases e2
  rw [← ok.G]
  exact ⟨OO F σ env', dx, dy, q, P.fi.alive, bx, bz, e', q, rfl, w⟩
/-- two operands of which the second is no late one -/
theorem two_now (ok : FOk p ow F) {σ : L2.St} {H : Hp} {env : Env} {ea eb : E} {S : List D → Env → Hp → Prop} {R : V → V → Hp → Prop} (I : FI F σ H env) (w : Wish F W σ H env (evEs tb cf (.cons ea (.cons eb .nil)) env) S)
    (hl : lateIn F.ow (.cons ea (.cons eb .nil)) = true) (hn : lateOf eb = none)
    (q : ∀ x y dx dy env' H', Post F σ H env H' env' → BR F.G H' (OO F σ env') x dx → FR F.G H' (OO F σ env') y dy → S [dx, dy] env' H' → R x y H') : tO p ow tb cf W ea σ H fun x H1 => tO p ow tb cf W eb σ H1 fun y H2 => R x y H2 := by
  have h := es_run ok _ (Q := fun vs H' => match vs with
    | [x, y] => R x y H'
    | _ => True) I w fun ds env' H' vs P r s => by
    have b := OR.brs P.fi hl r
    cases b with
    | nil => trivial
    | cons b1 b2 =>
      cases b2 with
      | nil => trivial
      | cons b2 b3 =>
        cases b3 with
        | cons _ _ => trivial
        | nil =>
          have f : ∃ v d, FR F.G H' (OO F σ env') v d ∧ True := ⟨_, _, .non, trivial⟩
          cases r with
          | late h1 h2 h3 r =>
            cases r with
            | late g1 g2 g3 r => rw [hn] at g1; cases g1
            | now g1 g2 r => exact q _ _ _ _ env' H' P b1 g2 s
          | now h1 h2 r =>
            cases r with
            | late g1 g2 g3 r => rw [hn] at g1; cases g1
            | now g1 g2 r => exact q _ _ _ _ env' H' P b1 g2 s
  exact h
theorem chain_run (ok : FOk p ow F) {c1 c2 : Cm} {ea eb ec : E} {σ : L2.St} {H : Hp} {env : Env} {S : D → Env → Hp → Prop} (hl : lateIn ow (.cons ea (.cons eb .nil)) = true) (hn : lateOf eb = none) (I : FI F σ H env)
    (w : Wish F W σ H env (evE tb cf (.chain c1 c2 (.cons ea (.cons eb .nil)) ec) env) S) {Q : VK} (hS : ∀ b env' H', S (.bl b) env' H' → Q (.bl b) H') :
    tChain (rCm p.G (cmpD c1)) (rCm p.G (cmpD c2)) (tO p ow tb cf W ea) (tO p ow tb cf W eb) (tE p ow tb cf W ec) σ H Q := by
  rw [evE] at w
  refine two_now ok I w.bind (by rw [ok.ow]; exact hl) hn fun x y dx dy env' H' P bx fz w => ?_
  have w' : Wish F W σ H' env' (match cmpD c1 dx dy with
      | some true => (evE tb cf ec env').bind fun z env => R.of ((cmpD c2 dy z).map .bl) env
      | some false => .ok (.bl false) env'
      | none => .err) S := w
  cases e : cmpD c1 dx dy with
  | none => rw [e] at w'; exact w'.elim
  | some q =>
    rw [e] at w'
    refine ⟨OO F σ env', dx, dy, q, P.fi.alive, by rw [← ok.G]; exact bx, by rw [← ok.G]; exact .inl fz, e, q, rfl, ?_⟩
    cases q with
    | false =>
      rw [if_neg (by decide)]
      exact hS _ _ _ (w' H' (.refl P.fi))
    | true =>
      rw [if_pos rfl]
      refine ⟨F, env', ok, P.fi, Wish.imp (Wish.bind w') fun z env2 H2 P2 w2 v hv => ?_⟩
      obtain ⟨r, e2, w3⟩ := w2.of
      obtain ⟨q2, e3, rfl⟩ := Option.map_eq_some_iff.mp e2
      exact ⟨OO F σ env2, dy, z, q2, P2.fi.alive, by rw [← ok.G]; exact .inl (fz.carry P2.stp), by rw [← ok.G]; exact .inl hv.1, e3, hS _ _ _ (w3 H2 (.refl P2.fi))⟩
theorem s_chain (C : Cok p N tl sc k X W) {c1 c2 : Cm} {ea eb ec : E} {a b c : Expr} (ha : PE X a (tO p ow tb cf W ea)) (hb : PE X b (tO p ow tb cf W eb)) (hc : PE X c (tE p ow tb cf W ec)) (hl : lateIn ow (.cons ea (.cons eb .nil)) = true) (hn : lateOf eb = none)
    (hm : lastMarks [cm2 c1, cm2 c2] [b, c] = false) : PE X (.Compare a [cm2 c1, cm2 c2] [b, c] pos) (tE p ow tb cf W (.chain c1 c2 (.cons ea (.cons eb .nil)) ec)) := by
  have hu : X.A.units + 102 < cLine := by have := C.un; omega
  exact PEimp (pe_chain (op_cmpD C.facts.hK hu c1) (op_cmpD C.facts.hK hu c2) ha hb hc hm) fun σ H Q ⟨F, env, ok, I, w⟩ => chain_run ok hl hn I w fun b env' H' h => h _ (VR.old (.bl b))
theorem t_chain (C : Cok p N tl sc k X W) {c1 c2 : Cm} {ea eb ec : E} {a b c : Expr} (ha : PE X a (tO p ow tb cf W ea)) (hb : PE X b (tO p ow tb cf W eb)) (hc : PE X c (tE p ow tb cf W ec)) (hl : lateIn ow (.cons ea (.cons eb .nil)) = true) (hn : lateOf eb = none)
    (hm : lastMarks [cm2 c1, cm2 c2] [b, c] = false) : PT X (.Compare a [cm2 c1, cm2 c2] [b, c] pos) (tT p ow tb cf W (.chain c1 c2 (.cons ea (.cons eb .nil)) ec)) := by
  have hu : X.A.units + 102 < cLine := by have := C.un; omega
  exact PTimp (pt_chain (op_cmpD C.facts.hK hu c1) (op_cmpD C.facts.hK hu c2) ha hb hc hm) fun σ H Q ⟨F, env, ok, I, w⟩ => chain_run ok hl hn I w fun b env' H' ⟨b', e, q⟩ => by cases e; exact ⟨b, rfl, q⟩
theorem s_neg (C : Cok p N tl sc k X W) {e : E} {a : Expr} (ha : PE X a (tE p ow tb cf W e)) : PE X (.UnaryOp .USub a pos) (tE p ow tb cf W (.neg e)) := by
  refine PEimp (pe_un un_neg ha) fun σ H Q ⟨F, env, ok, I, w⟩ => ?_
  rw [evE] at w
  refine ⟨F, env, ok, I, w.bind.imp fun d env' H' P w v r => ?_⟩
  cases d with
  | int i =>
    have f := r.1
    cases f
    exact ⟨i, rfl, w H' (.refl P.fi) _ (VR.old (.int _))⟩
  | _ => exact w.elim
theorem s_no (C : Cok p N tl sc k X W) {e : E} {a : Expr} (ha : PE X a (tE p ow tb cf W e)) : PE X (.UnaryOp .Not a pos) (tE p ow tb cf W (.no e)) := by
  refine PEimp (pe_not ha) fun σ H Q ⟨F, env, ok, I, w⟩ => ?_
  rw [evE] at w
  refine ⟨F, env, ok, I, w.bind.imp fun d env' H' P w v r => ?_⟩
  cases d with
  | bl i =>
    have f := r.1
    cases f
    exact ⟨i, rfl, w H' (.refl P.fi) _ (VR.old (.bl _))⟩
  | _ => exact w.elim
theorem t_no (C : Cok p N tl sc k X W) {e : E} {a : Expr} (ha : PT X a (tT p ow tb cf W e)) : PT X (.UnaryOp .Not a pos) (tT p ow tb cf W (.no e)) := by
  refine PTimp (pt_not ha) fun σ H Q ⟨F, env, ok, I, w⟩ => ?_
  rw [evE] at w
  refine ⟨F, env, ok, I, w.bind.imp fun d env' H' P w => ?_⟩
  cases d with
  | bl i =>
    obtain ⟨b, e, q⟩ := w H' (.refl P.fi)
    cases e
    exact ⟨i, rfl, q⟩
  | _ => exact w.elim
theorem VR.weak {σ : L2.St} {env : Env} {Hs Hs' H : Hp} {nw : Nat → Bool} {v : V} {d : D} (h : VR F σ env Hs H nw v d) : VR F σ env Hs' H (fun _ => false) v d := ⟨h.1, fun z => nomatch z⟩
theorem s_and (C : Cok p N tl sc k X W) {ea eb : E} {a b : Expr} {r : List Expr} (ha : PE X a (tE p ow tb cf W ea)) (hb : PE X (.BoolOp .And (b :: r) pos) (tE p ow tb cf W eb)) : PE X (.BoolOp .And (a :: b :: r) pos) (tE p ow tb cf W (.and ea eb)) := by
  refine PEimp (pe_and ha hb) fun σ H Q ⟨F, env, ok, I, w⟩ => ?_
  rw [evE] at w
  refine ⟨F, env, ok, I, w.bind.imp fun d env' H' P w v r => ?_⟩
  cases d with
  | bl i =>
    have f := r.1
    cases f
    refine ⟨i, rfl, ?_⟩
    cases i with
    | true =>
      rw [if_pos rfl]
      exact ⟨F, env', ok, P.fi, Wish.imp w fun d env2 H2 P2 w v r => w v r.weak⟩
    | false =>
      rw [if_neg (by decide)]
      exact w H' (.refl P.fi) _ (VR.old (.bl _))
  | _ => exact w.elim
theorem s_or (C : Cok p N tl sc k X W) {ea eb : E} {a b : Expr} {r : List Expr} (ha : PE X a (tE p ow tb cf W ea)) (hb : PE X (.BoolOp .Or (b :: r) pos) (tE p ow tb cf W eb)) : PE X (.BoolOp .Or (a :: b :: r) pos) (tE p ow tb cf W (.or ea eb)) := by
  refine PEimp (pe_or ha hb) fun σ H Q ⟨F, env, ok, I, w⟩ => ?_
  rw [evE] at w
  refine ⟨F, env, ok, I, w.bind.imp fun d env' H' P w v r => ?_⟩
  cases d with
  | bl i =>
    have f := r.1
    cases f
    refine ⟨i, rfl, ?_⟩
    cases i with
    | true =>
      rw [if_pos rfl]
      exact w H' (.refl P.fi) _ (VR.old (.bl _))
    | false =>
      rw [if_neg (by decide)]
      exact ⟨F, env', ok, P.fi, Wish.imp w fun d env2 H2 P2 w v r => w v r.weak⟩
  | _ => exact w.elim
theorem s_ite (C : Cok p N tl sc k X W) {ec ea eb : E} {c a b : Expr} (hc : PT X c (tT p ow tb cf W ec)) (ha : PE X a (tE p ow tb cf W ea)) (hb : PE X b (tE p ow tb cf W eb)) : PE X (.IfExp c a b pos) (tE p ow tb cf W (.ite ec ea eb)) := by
  refine PEimp (pe_ifExp hc ha hb) fun σ H Q ⟨F, env, ok, I, w⟩ => ?_
  rw [evE] at w
  refine ⟨F, env, ok, I, w.bind.imp fun d env' H' P w => ?_⟩
  cases d with
  | bl i =>
    refine ⟨i, rfl, ?_⟩
    cases i with
    | true =>
      rw [if_pos rfl]
      exact ⟨F, env', ok, P.fi, Wish.imp w fun d env2 H2 P2 w v r => w v r.weak⟩
    | false =>
      rw [if_neg (by decide)]
      exact ⟨F, env', ok, P.fi, Wish.imp w fun d env2 H2 P2 w v r => w v r.weak⟩
  | _ => exact w.elim
/-- no late operand -/
def noLate : Es → Bool
  | .nil => true
  | .cons e es => (lateOf e).isNone && noLate es
theorem OR.frs {σ : L2.St} {H : Hp} {env : Env} : ∀ {es : Es} {vs : List V} {ds : List D}, noLate es = true → OR F σ H env es vs ds → FRs F.G H (OO F σ env) vs ds
  | .nil, [], [], _, .nil => .nil
  | .cons e _, _ :: _, _ :: _, h, .late hl hg hs r => by simp [noLate, hl] at h
  | .cons e _, _ :: _, _ :: _, h, .now hl f r => by
    simp only [noLate, hl, Bool.and_eq_true] at h
    exact .cons f (OR.frs h.2 r)
theorem noLate_in : ∀ {es : Es} {ow : List Nat}, noLate es = true → lateIn ow es = true
  | .nil, _, _ => rfl
  | .cons e es, _, h => by
    simp only [noLate, Bool.and_eq_true, Option.isNone_iff_eq_none] at h
    simp only [lateIn, h.1, noLate_in h.2, Bool.and_self]
theorem s_tup (C : Cok p N tl sc k X W) {as : List Expr} {x1 : Nat} (h : PEs X as (tOs p ow tb cf W es)) (hl : noLate es = true) : PE X (.Tuple as x1 pos) (tE p ow tb cf W (.tup es)) := by
  refine PEimp (pe_tup h.pa) fun σ H Q ⟨F, env, ok, I, w⟩ => ?_
  rw [evE] at w
  refine es_run ok es I w.bind fun ds env' H' vs P r w => ?_
  have f := r.frs hl
  have w' : Wish F W σ H' env' (if okLen ds.length then (.ok (.tup ds) env' : R D) else .err) _ := w
  split at w'
  · rename_i hz
    refine ⟨by rw [f.length]; exact okLen_le hz, fun q n => ?_⟩
    exact w' _ (P.fi.post (Ext.upd n)) _ (VR.old (fr_newtup P.fi.alive n f))
  · exact w'.elim
theorem s_lst (C : Cok p N tl sc k X W) {as : List Expr} (h : PEs X as (tOs p ow tb cf W es)) (hl : noLate es = true) : PE X (.List as pos) (tE p ow tb cf W (.lst es)) := by
  refine PEimp (pe_lst h.pa) fun σ H Q ⟨F, env, ok, I, w⟩ => ?_
  rw [evE] at w
  refine es_run ok es I w.bind fun ds env' H' vs P r w => ?_
  have f := r.frs hl
  have w' : Wish F W σ H' env' (if okLen ds.length then (.ok (.lst ds) env' : R D) else .err) _ := w
  split at w'
  · rename_i hz
    refine ⟨by rw [f.length]; exact okLen_le hz, fun q n => ?_⟩
    exact rr_of P.fi P.stp.dom rfl w' H' vs q (Same.refl H') f n
  · exact w'.elim
theorem s_idx (C : Cok p N tl sc k X W) {a b : Expr} (h : PEs X [a, b] (tOs p ow tb cf W es)) (hl : lateIn ow es = true) (hs : isSlice b = false) : PE X (.Subscript a b pos) (tE p ow tb cf W (.idx es)) := by
  obtain ⟨ta, tc, ht, ha, hb⟩ := h.two
  refine PEimp (pe_ix (ix_D C.facts.hK) ha hb (plainIx hs)) fun σ H Q ⟨F, env, ok, I, w⟩ => ?_
  rw [evE] at w
  refine two_run ok I w.bind ht (by rw [ok.ow]; exact hl) fun x y dx dy env' H' P bx bz w => ?_
  obtain ⟨r, e, w⟩ := w.of
  rw [← ok.G]
  exact ⟨OO F σ env', dx, dy, r, P.fi.alive, bx, bz, e, rx_of P.fi w⟩
/-- a built-in function's reading -/
theorem bf_run (ok : FOk p ow F) {g : List D → Option D} {σ : L2.St} {H : Hp} {Q : VK} {e : E} (hl : lateIn ow es = true) (hn : isNew tb e 3 = false) (I : FI F σ H env)
    (w : Wish F W σ H env ((evEs tb cf es env).bind fun ds env => R.of (g ds) env) fun d env' H' => ∀ v, VR F σ env' H H' (isNew tb e) v d → Q v H') : tCB (rBf p.G g) (tAs (tOs p ow tb cf W es)) σ H Q := by
  refine es_run ok es I w.bind fun ds env' H' vs P r w => ?_
  obtain ⟨d, e, w⟩ := w.of
  rw [← ok.G]
  exact ⟨OO F σ env', ds, d, P.fi.alive, r.brs P.fi (by rw [ok.ow]; exact hl), e, rr_of P.fi P.stp.dom hn w⟩
theorem bf_names (b : Bf) : plainName (bfName b) = true := by cases b <;> decide +kernel
theorem s_bf (C : Cok p N tl sc k X W) {b : Bf} {a : Expr} {as : List Expr} {q : Pos} (hg : gloB sc (bfName b) = true) (h : PEs X (a :: as) (tOs p ow tb cf W es)) (hl : lateIn ow es = true) : PE X (.Call (.Name (bfName b) q) (a :: as) [] pos) (tE p ow tb cf W (.bf b es)) := by
  have gl := C.gl hg
  have nm := C.facts.bln b
  have pn := bf_names b
  simp only [plainName, Bool.and_eq_true, Bool.not_eq_true', beq_eq_false_iff_ne] at pn
  obtain ⟨⟨pn1, pn2⟩, pn3⟩ := pn
  have hdb : (bfName b == ("__debug__" : Str)) = false := by simpa using pn1
  have hs : starEach (a :: as) X.env = (false, eval a X.env) :: starEach as X.env ∧ (backTo pos (starEach as X.env)).any (·.1) = false := by
    exact h.hd pos
  have pa := h.pa
  have fin : ∀ σ H Q, tE p ow tb cf W (.bf b es) σ H Q → tCB (rBf p.G (bfD b)) (tAs (tOs p ow tb cf W es)) σ H Q := fun σ H Q ⟨F, env, ok, I, w⟩ => by
    rw [evE] at w
    exact bf_run ok hl rfl I w
  have hu : X.A.units + 105 < cLine := by have := C.un; omega
  cases b
  · exact PEimp (pe_callB (call_lenD' C.facts.hK) gl nm (by decide +kernel) pa pn3 hdb hs.1 hs.2) fin
  · exact PEimp (pe_callB call_absD gl nm (by decide +kernel) pa pn3 hdb hs.1 hs.2) fin
  · exact PEimp (pe_callTy call_intD gl nm (by decide +kernel) pa pn3 hdb hs.1 hs.2) fin
  · exact PEimp (pe_callTy (call_listD C.facts.hK) gl nm (by decide +kernel) pa pn3 hdb hs.1 hs.2) fin
  · exact PEimp (pe_callTy (call_tupleD C.facts.hK) gl nm (by decide +kernel) pa pn3 hdb hs.1 hs.2) fin
  · exact PEimp (pe_callB (call_sortedD' C.facts.hK hu) gl nm (by decide +kernel) pa pn3 hdb hs.1 hs.2) fin
  · exact PEimp (pe_callB (call_maxD C.calm) gl nm (by decide +kernel) pa pn3 hdb hs.1 hs.2) fin
  · exact PEimp (pe_callB (call_minD C.calm) gl nm (by decide +kernel) pa pn3 hdb hs.1 hs.2) fin
  · exact PEimp (pe_callTy (call_dictNK C.facts.hK C.facts.hW C.calm (by omega)) gl nm (by decide +kernel) pa pn3 hdb hs.1 hs.2) fin
end
end Bh
/-! text Bh5d -/
set_option Elab.async false
set_option linter.all false
set_option maxRecDepth 100000
set_option maxHeartbeats 1000000
/-! Bh5d: what a call leaves. -/
namespace Bh
open PySem PySem.W L2 PyProof.Rows

section
variable {F : Fm} {σ : L2.St} {H H1 : Hp} {env env1 : Env}
/-- the frame with more that no data may touch -/
def Fm.more (F : Fm) (O : Addr → Prop) : Fm := { F with Ox := O }
/-- the slots of L, which own, are changed, and what Z tells; all else stands -/
theorem FI.chgs (I : FI F σ H env) {L : List (Nat × D)} {Z Ox' : Addr → Prop} (hL : ∀ q ∈ L, q.1 ∈ F.ow ∧ ∃ d, env.get q.1 = some d) (e1 : env1.length = env.length) (e2 : ∀ j, (∀ q ∈ L, q.1 ≠ j) → env1.get j = env.get j)
    (e3 : ∀ q ∈ L, env1.get q.1 = some q.2) (k : ∀ a o, H a = some o → (∀ q ∈ L, σ[q.1]? ≠ some (some (.ref a))) → Nt o → ¬ Z a → H1 a = some o)
    (hZ : ∀ a, Z a → ¬ Av F.H0 a ∧ F.Ox a ∧ ¬ ownA F.ow σ env a) (dom : ∀ a, Av H a → Av H1 a) (tabs : LamX.Tabs F.T H1)
    (o1 : ∀ a, F.Ox a → Ox' a) (o2 : ∀ a, Ox' a → F.Ox a ∨ ¬ Av H a) (o3 : Live H1 Ox')
    (hc : ∀ q ∈ L, ∀ a, σ[q.1]? = some (some (.ref a)) → Cont F.G H1 (fun b => Ox' b ∨ ownA F.ow σ env b) a q.2) :
    FI (F.more Ox') σ H1 env1 ∧ Stp H (OO F σ env) H1 (OO (F.more Ox') σ env1) ∧ ∀ a, ownA F.ow σ env1 a ↔ ownA F.ow σ env a := by
  have hown : ∀ a, ownA F.ow σ env1 a ↔ ownA F.ow σ env a := fun a => by
    have ex : ∀ i, (∃ d, env1.get i = some d) ↔ ∃ d, env.get i = some d := fun i => by
      by_cases h : ∃ q ∈ L, q.1 = i
      · obtain ⟨q, hq, rfl⟩ := h
        exact ⟨fun _ => (hL q hq).2, fun _ => ⟨_, e3 q hq⟩⟩
      · rw [e2 i fun q hq z => h ⟨q, hq, z⟩]
    unfold ownA
    constructor
    · rintro ⟨i, a1, a2, a3⟩; exact ⟨i, a1, (ex i).mp a2, a3⟩
    · rintro ⟨i, a1, a2, a3⟩; exact ⟨i, a1, (ex i).mpr a2, a3⟩
  have hOO : ∀ a, OO (F.more Ox') σ env1 a ↔ (Ox' a ∨ ownA F.ow σ env a) := fun a => by
    show (Ox' a ∨ ownA F.ow σ env1 a) ↔ _
    rw [hown]
  have st : Stp H (OO F σ env) H1 (OO (F.more Ox') σ env1) := by
    refine ⟨fun a o e t n => k a o e (fun q hq z => ?_) t fun z => n (.inl (hZ a z).2.1), fun a z => ?_, dom⟩
    · exact n (.inr ⟨q.1, (hL q hq).1, (hL q hq).2, z⟩)
    · rcases (hOO a).mp z with z | z
      · rcases o2 a z with y | y
        · exact .inl (.inl y)
        · exact .inr y
      · exact .inl (.inr z)
  have st2 : Stp H1 (fun b => Ox' b ∨ ownA F.ow σ env b) H1 (OO (F.more Ox') σ env1) := .mono fun a z => (hOO a).mp z
  refine ⟨⟨e1.trans I.len, ?_, ?_, ?_, ?_, o3, ?_, I.live0, fun a z => o1 a (I.oe a z), fun a h => dom a (I.sub a h), tabs, fun q hq => (I.ex q hq).carry st⟩, st, hown⟩
  · intro i d h n
    have h' : env.get i = some d := by rw [← e2 i fun q hq z => n (z ▸ (hL q hq).1)]; exact h
    obtain ⟨v, a, b⟩ := I.fr i d h' n
    exact ⟨v, a, b.carry st⟩
  · intro i d h n
    by_cases hi : ∃ q ∈ L, q.1 = i
    · obtain ⟨q, hq, rfl⟩ := hi
      rw [e3 q hq] at h
      cases h
      obtain ⟨d0, h0⟩ := (hL q hq).2
      obtain ⟨a, a1, a2, a3⟩ := I.own _ d0 h0 n
      exact ⟨a, a1, (hc q hq a a1).carry st2 rfl, a3⟩
    · have h' : env.get i = some d := by rw [← e2 i fun q hq z => hi ⟨q, hq, z⟩]; exact h
      obtain ⟨a, a1, a2, a3⟩ := I.own i d h' n
      obtain ⟨o, ho, ht⟩ := a2.av
      have ho' : H a = some o := ho
      have h1 : H1 a = some o := by
        refine k a o ho' (fun q hq z => ?_) ht fun z => (hZ a z).2.2 ⟨i, n, ⟨d, h'⟩, a1⟩
        exact hi ⟨q, hq, I.dist q.1 i a (hL q hq).1 n (hL q hq).2 ⟨d, h'⟩ z a1⟩
      exact ⟨a, a1, a2.carry st (h1.trans ho'.symm), a3⟩
  · rintro i j a hi hj hx hy h1 h2
    have ex : ∀ i, (∃ d, env1.get i = some d) → ∃ d, env.get i = some d := fun i ⟨d, hd⟩ => by
      by_cases h : ∃ q ∈ L, q.1 = i
      · obtain ⟨q, hq, rfl⟩ := h
        exact (hL q hq).2
      · rw [e2 i fun q hq z => h ⟨q, hq, z⟩] at hd
        exact ⟨d, hd⟩
    exact I.dist i j a hi hj (ex i hx) (ex j hy) h1 h2
  · intro a o h n t
    have ha := I.kp a o h n t
    refine k a o ha (fun q hq z => ?_) t fun z => ?_
    · obtain ⟨d0, h0⟩ := (hL q hq).2
      obtain ⟨b, b1, _, b3⟩ := I.own _ d0 h0 (hL q hq).1
      rw [z] at b1
      cases b1
      rcases b3 with ⟨j, hj⟩ | hn
      · exact n j hj
      · exact hn ⟨o, h, t⟩
    · exact (hZ a z).1 ⟨o, h, t⟩
  · intro q hq
    obtain ⟨a, b, c, d, hd⟩ := I.ip q hq
    refine ⟨a, b, c, ?_⟩
    by_cases hi : ∃ r ∈ L, r.1 = q.1
    · obtain ⟨r, hr, er⟩ := hi
      exact ⟨r.2, by rw [← er]; exact e3 r hr⟩
    · exact ⟨d, by rw [e2 q.1 fun r hr z => hi ⟨r, hr, z⟩]; exact hd⟩
end

/-! ### what was lent -/
/-- something of the kind k stands at a -/
inductive KindAt (H : Hp) (a : Addr) : Nat → Prop
  | lst {vs : List V} : H a = some (.lst vs) → KindAt H a 1
  | dct {o : Obj} : H a = some (pin a o) → KindAt H a 2
  | obj {C dx : Addr} {fs : List (Str × V)} : H a = some (.ins C dx fs) → KindAt H a 3
theorem Cont.kind {G : Gx} {H H' : Hp} {O : Addr → Prop} {a : Addr} {d : D} (h : Cont G H O a d) (e : H' a = H a) : KindAt H' a (kindOf d) := by
  cases h with
  | lst e2 _ => exact .lst (e.trans e2)
  | dct e2 _ _ _ _ _ _ => exact .dct (e.trans e2)
  | obj e2 _ => exact .obj (e.trans e2)
section
variable {G : Gx} {H : Hp} {O O2 L : Addr → Prop}
mutual
theorem FR.lent (h2 : ∀ a, O2 a → O a ∨ L a) : ∀ {v : V} {d : D}, (∀ a, L a → ∃ k, KindAt H a k ∧ hasK k d = false) → FR G H O v d → FR G H O2 v d
  | _, _, _, .non => .non
  | _, _, _, .bl b => .bl b
  | _, _, _, .int i => .int i
  | _, _, _, .str x => .str x
  | _, .tup ds, hk, .tup (a := a) e n r => by
    refine .tup e (fun z => ?_) (FRs.lent h2 (fun b hb => let ⟨k, k1, k2⟩ := hk b hb; ⟨k, k1, by simpa [hasK] using k2⟩) r)
    rcases h2 a z with z | z
    · exact n z
    · obtain ⟨k, c, _⟩ := hk a z
      cases c with
      | lst e2 => rw [e] at e2; cases e2
      | dct e2 => rw [e] at e2; cases e2
      | obj e2 => rw [e] at e2; cases e2
  | _, .tup ds, hk, .tupk t r => .tupk t (FRs.lent h2 (fun b hb => let ⟨k, k1, k2⟩ := hk b hb; ⟨k, k1, by simpa [hasK] using k2⟩) r)
  | _, .lst ds, hk, .lst (a := a) e n r => by
    refine .lst e (fun z => ?_) (FRs.lent h2 (fun b hb => let ⟨k, k1, k2⟩ := hk b hb; ⟨k, k1, by simp only [hasK, Bool.or_eq_false_iff] at k2; exact k2.2⟩) r)
    rcases h2 a z with z | z
    · exact n z
    · obtain ⟨k, c, k2⟩ := hk a z
      cases c with
      | lst e2 => simp [hasK] at k2
      | dct e2 => rw [e] at e2; cases e2
      | obj e2 => rw [e] at e2; cases e2
  | _, .dct kvs, hk, .dct (a := a) e n h1 h3 h4 h5 r h6 => by
    have no : ∀ b, ¬ L b := fun b hb => by
      obtain ⟨k, _, k2⟩ := hk b hb
      simp [hasK] at k2
    exact (FR.dct e n h1 h3 h4 h5 r h6).carry (.mono fun b z => (h2 b z).resolve_right (no b))
  | _, .obj c fs, hk, .obj (a := a) e n r => by
    have no : ∀ b, ¬ L b := fun b hb => by
      obtain ⟨k, _, k2⟩ := hk b hb
      simp [hasK] at k2
    exact (FR.obj e n r).carry (.mono fun b z => (h2 b z).resolve_right (no b))
theorem FRs.lent (h2 : ∀ a, O2 a → O a ∨ L a) : ∀ {vs : List V} {ds : List D}, (∀ a, L a → ∃ k, KindAt H a k ∧ hasKs k ds = false) → FRs G H O vs ds → FRs G H O2 vs ds
  | _, _, _, .nil => .nil
  | _, _ :: _, hk, .cons a b => .cons (FR.lent h2 (fun c hc => let ⟨k, k1, k2⟩ := hk c hc; ⟨k, k1, by simp only [hasKs, Bool.or_eq_false_iff] at k2; exact k2.1⟩) a)
      (FRs.lent h2 (fun c hc => let ⟨k, k1, k2⟩ := hk c hc; ⟨k, k1, by simp only [hasKs, Bool.or_eq_false_iff] at k2; exact k2.2⟩) b)
end
theorem Cont.kid (h2 : ∀ a, O2 a → O a ∨ L a) {q : Addr} {d : D} (hk : ∀ a, L a → ∃ k, KindAt H a k ∧ kidK k d = false) (c : Cont G H O q d) : Cont G H O2 q d := by
  have no : (∀ k, kidK k d = true) → ∀ b, ¬ L b := fun h b hb => by
    obtain ⟨k, _, k2⟩ := hk b hb
    rw [h k] at k2; cases k2
  cases c with
  | lst e r => exact .lst e (r.lent h2 fun b hb => let ⟨k, k1, k2⟩ := hk b hb; ⟨k, k1, by simpa [kidK] using k2⟩)
  | dct e a1 a2 a3 a4 r a5 => exact (Cont.dct e a1 a2 a3 a4 r a5).carry (.mono fun b z => (h2 b z).resolve_right (no (fun k => by simp [kidK]) b)) rfl
  | obj e r => exact (Cont.obj e r).carry (.mono fun b z => (h2 b z).resolve_right (no (fun k => by simp [kidK]) b)) rfl
theorem Cont.lent (h2 : ∀ a, O2 a → O a ∨ L a) {q : Addr} {d : D} (hk : ∀ a, L a → ∃ k, KindAt H a k ∧ hasK k d = false) (c : Cont G H O q d) : Cont G H O2 q d := by
  have no : (∀ k, hasK k d = true) → ∀ b, ¬ L b := fun h b hb => by
    obtain ⟨k, _, k2⟩ := hk b hb
    rw [h k] at k2; cases k2
  cases c with
  | lst e r => exact .lst e (r.lent h2 fun b hb => let ⟨k, k1, k2⟩ := hk b hb; ⟨k, k1, by simp only [hasK, Bool.or_eq_false_iff] at k2; exact k2.2⟩)
  | dct e a1 a2 a3 a4 r a5 => exact (Cont.dct e a1 a2 a3 a4 r a5).carry (.mono fun b z => (h2 b z).resolve_right (no (fun k => by simp [hasK]) b)) rfl
  | obj e r => exact (Cont.obj e r).carry (.mono fun b z => (h2 b z).resolve_right (no (fun k => by simp [hasK]) b)) rfl
end
end Bh
/-! text Bh5e -/
set_option Elab.async false
set_option linter.all false
set_option maxRecDepth 100000
set_option maxHeartbeats 1000000
/-! Bh5e: the arguments of a call, and its wish. -/
namespace Bh
open PySem PySem.W L2 PyProof.Rows
def ioOf : E → Option Nat
  | .io i => some i
  | _ => none
def borOf : E → Option Nat
  | .bor i => some i
  | _ => none
def isOwn : E → Bool
  | .own _ => true
  | _ => false
def argIo : Es → Nat → List Nat
  | .nil, _ => []
  | .cons e es, n => match ioOf e with
    | some _ => n :: argIo es (n + 1)
    | none => argIo es (n + 1)
def ioSlots : Es → List Nat
  | .nil => []
  | .cons e es => match ioOf e with
    | some i => i :: ioSlots es
    | none => ioSlots es
def borSlots : Es → List Nat
  | .nil => []
  | .cons e es => match borOf e with
    | some i => i :: borSlots es
    | none => borSlots es
def noOwn : Es → Bool
  | .nil => true
  | .cons e es => !isOwn e && noOwn es
def esLen : Es → Nat
  | .nil => 0
  | .cons _ es => esLen es + 1
/-- positions to slots -/
def ioAt : Es → Nat → Option Nat
  | .nil, _ => none
  | .cons e _, 0 => ioOf e
  | .cons _ es, i + 1 => ioAt es i
def argsOk (ow io : List Nat) (es : Es) : Bool := decide (argIo es 0 = io) && decide (ioSlots es).Nodup && (borSlots es).all (fun i => decide (i ∉ ioSlots es)) && noOwn es && lateIn ow es
/-- the slots of the inout arguments, with what they hold behind the call -/
def backL : Es → List D → List (Nat × D)
  | .nil, _ => []
  | .cons e es, os => match ioOf e, os with
    | some i, o :: os => (i, o) :: backL es os
    | _, os => backL es os
theorem putBack_io {i : Nat} {es : Es} {o : D} {os : List D} {env : Env} : putBack (.cons (.io i) es) (o :: os) env = putBack es os (env.put i o) := rfl
theorem putBack_cons {e : E} {es : Es} {os : List D} {env : Env} (h : ioOf e = none) : putBack (.cons e es) os env = putBack es os env := by
  cases e <;> first | rfl | (simp [ioOf] at h)
theorem ioOf_eq {e : E} {i : Nat} (h : ioOf e = some i) : e = .io i := by cases e <;> simp [ioOf] at h; rw [h]
theorem borOf_eq {e : E} {i : Nat} (h : borOf e = some i) : e = .bor i := by cases e <;> simp [borOf] at h; rw [h]
theorem backL_slots : ∀ {es : Es} {os : List D} {q : Nat × D}, q ∈ backL es os → q.1 ∈ ioSlots es
  | .nil, _, _, h => nomatch h
  | .cons e es, os, q, h => by
    unfold backL at h
    unfold ioSlots
    cases he : ioOf e with
    | none =>
      rw [he] at h
      exact backL_slots h
    | some i =>
      rw [he] at h
      cases os with
      | nil => exact List.mem_cons_of_mem _ (backL_slots h)
      | cons o os =>
        rcases List.mem_cons.mp h with h | h
        · rw [h]; exact List.mem_cons_self
        · exact List.mem_cons_of_mem _ (backL_slots h)
theorem putBack_len : ∀ (es : Es) (os : List D) (env : Env), (putBack es os env).length = env.length
  | .nil, _, _ => by simp [putBack]
  | .cons e es, os, env => by
    cases he : ioOf e with
    | none => rw [putBack_cons he]; exact putBack_len es os env
    | some i =>
      have := ioOf_eq he
      subst this
      cases os with
      | nil => exact putBack_len es [] env
      | cons o os => rw [putBack_io, putBack_len es os, put_len]
theorem putBack_other : ∀ (es : Es) (os : List D) (env : Env) (j : Nat), j ∉ ioSlots es → (putBack es os env).get j = env.get j
  | .nil, _, _, _, _ => by simp [putBack]
  | .cons e es, os, env, j, h => by
    unfold ioSlots at h
    cases he : ioOf e with
    | none =>
      rw [he] at h
      rw [putBack_cons he]; exact putBack_other es os env j h
    | some i =>
      rw [he] at h
      have h1 : j ≠ i := fun z => h (z ▸ List.mem_cons_self)
      have h2 : j ∉ ioSlots es := fun z => h (List.mem_cons_of_mem _ z)
      have := ioOf_eq he
      subst this
      cases os with
      | nil => exact putBack_other es [] env j h2
      | cons o os =>
        rw [putBack_io, putBack_other es os _ j h2]
        unfold Env.get Env.put
        rw [List.getElem?_set_ne (Ne.symm h1)]
theorem putBack_get : ∀ (es : Es) (os : List D) (env : Env), (ioSlots es).Nodup → (∀ i ∈ ioSlots es, i < env.length) → ∀ q ∈ backL es os, (putBack es os env).get q.1 = some q.2
  | .nil, _, _, _, _, q, h => nomatch h
  | .cons e es, os, env, nd, hl, q, h => by
    unfold backL at h
    unfold ioSlots at nd hl
    cases he : ioOf e with
    | none =>
      rw [he] at h nd hl
      rw [putBack_cons he]
      exact putBack_get es os env nd hl q h
    | some i =>
      rw [he] at h nd hl
      have nd' := List.nodup_cons.mp nd
      have := ioOf_eq he
      subst this
      cases os with
      | nil => exact putBack_get es [] env nd'.2 (fun j hj => hl j (List.mem_cons_of_mem _ hj)) q h
      | cons o os =>
        rw [putBack_io]
        rcases List.mem_cons.mp h with h | h
        · rw [h]
          rw [putBack_other es os _ i nd'.1, get_put (hl i List.mem_cons_self), if_pos rfl]
        · exact putBack_get es os _ nd'.2 (fun j hj => by rw [put_len]; exact hl j (List.mem_cons_of_mem _ hj)) q h
/-- a changed slot: its place among the inout parameters -/
theorem backL_at : ∀ (es : Es) (os : List D) (m : Nat) (q : Nat × D), q ∈ backL es os → ∃ n i : Nat, (argIo es m)[n]? = some (i + m) ∧ os[n]? = some q.2 ∧ ioAt es i = some q.1
  | .nil, _, _, q, h => nomatch h
  | .cons e es, os, m, q, h => by
    unfold backL at h
    unfold argIo
    cases he : ioOf e with
    | none =>
      rw [he] at h
      obtain ⟨n, i, h1, h2, h3⟩ := backL_at es os (m + 1) q h
      exact ⟨n, i + 1, by rw [h1]; congr 1; omega, h2, h3⟩
    | some s =>
      rw [he] at h
      cases os with
      | nil =>
        obtain ⟨n, i, h1, h2, h3⟩ := backL_at es [] (m + 1) q h
        simp at h2
      | cons o os =>
        rcases List.mem_cons.mp h with h | h
        · subst h
          exact ⟨0, 0, by simp, by simp, he⟩
        · obtain ⟨n, i, h1, h2, h3⟩ := backL_at es os (m + 1) q h
          exact ⟨n + 1, i + 1, by simp only [List.getElem?_cons_succ]; rw [h1]; congr 1; omega, by simpa using h2, h3⟩
/-- every inout argument is among them -/
theorem backL_all : ∀ (es : Es) (os : List D) (m i s : Nat), os.length = (argIo es m).length → ioAt es i = some s → ∃ o, (s, o) ∈ backL es os
  | .nil, _, _, _, _, _, h => nomatch h
  | .cons e es, os, m, i, s, hl, h => by
    unfold argIo at hl
    unfold backL
    cases he : ioOf e with
    | none =>
      rw [he] at hl
      cases i with
      | zero => have h' : ioOf e = some s := h; rw [he] at h'; cases h'
      | succ i => exact backL_all es os (m + 1) i s hl h
    | some t =>
      rw [he] at hl
      cases os with
      | nil => simp at hl
      | cons o os =>
        cases i with
        | zero =>
          have h' : ioOf e = some s := h
          rw [he] at h'
          cases h'
          exact ⟨o, List.mem_cons_self⟩
        | succ i =>
          obtain ⟨o', ho⟩ := backL_all es os (m + 1) i s (by simpa using hl) h
          exact ⟨o', List.mem_cons_of_mem _ ho⟩
theorem argIo_mem : ∀ (es : Es) (m i : Nat), (i + m) ∈ argIo es m ↔ (ioAt es i).isSome = true
  | .nil, m, i => by simp [argIo, ioAt]
  | .cons e es, m, i => by
    unfold argIo
    have low : ∀ (es : Es) (m x : Nat), x ∈ argIo es m → m ≤ x := by
      intro es
      induction es using Es.rec (motive_1 := fun _ => True) (motive_3 := fun _ => True) (motive_4 := fun _ => True) <;> try trivial
      case nil => intro m x h; simp [argIo] at h
      case cons e es _ ih =>
        intro m x h
        unfold argIo at h
        cases he : ioOf e with
        | none => rw [he] at h; have := ih (m + 1) x h; omega
        | some t =>
          rw [he] at h
          rcases List.mem_cons.mp h with h | h
          · omega
          · have := ih (m + 1) x h; omega
    cases i with
    | zero =>
      show _ ↔ (ioOf e).isSome = true
      cases he : ioOf e with
      | none =>
        simp only [Nat.zero_add, Option.isSome_none, Bool.false_eq_true, iff_false]
        intro z
        have := low es (m + 1) m z
        omega
      | some t => simp
    | succ i =>
      show _ ↔ (ioAt es i).isSome = true
      rw [← argIo_mem es (m + 1) i]
      have e1 : i + 1 + m = i + (m + 1) := by omega
      rw [e1]
      cases he : ioOf e with
      | none => exact Iff.rfl
      | some t =>
        simp only [List.mem_cons]
        constructor
        · rintro (z | z)
          · omega
          · exact z
        · exact .inr
theorem ioAt_slot : ∀ {es : Es} {i s : Nat}, ioAt es i = some s → s ∈ ioSlots es
  | .nil, _, _, h => nomatch h
  | .cons e es, 0, s, h => by
    have h' : ioOf e = some s := h
    unfold ioSlots
    rw [h']
    exact List.mem_cons_self
  | .cons e es, i + 1, s, h => by
    have h' : ioAt es i = some s := h
    unfold ioSlots
    cases he : ioOf e with
    | none => exact ioAt_slot h'
    | some t => exact List.mem_cons_of_mem _ (ioAt_slot h')
theorem ioAt_inj : ∀ {es : Es} {i j s : Nat}, (ioSlots es).Nodup → ioAt es i = some s → ioAt es j = some s → i = j
  | .nil, _, _, _, _, h, _ => nomatch h
  | .cons e es, 0, 0, _, _, _, _ => rfl
  | .cons e es, 0, j + 1, s, nd, h1, h2 => by
    have h' : ioOf e = some s := h1
    unfold ioSlots at nd
    rw [h'] at nd
    exact ((List.nodup_cons.mp nd).1 (ioAt_slot (show ioAt es j = some s from h2))).elim
  | .cons e es, i + 1, 0, s, nd, h1, h2 => by
    have h' : ioOf e = some s := h2
    unfold ioSlots at nd
    rw [h'] at nd
    exact ((List.nodup_cons.mp nd).1 (ioAt_slot (show ioAt es i = some s from h1))).elim
  | .cons e es, i + 1, j + 1, s, nd, h1, h2 => by
    have nd' : (ioSlots es).Nodup := by
      unfold ioSlots at nd
      split at nd
      · exact (List.nodup_cons.mp nd).2
      · exact nd
    rw [ioAt_inj nd' (show ioAt es i = some s from h1) (show ioAt es j = some s from h2)]
section
variable {F : Fm} {W : WX} {σ : L2.St} {H H1 : Hp} {env env1 : Env}
theorem OR.len : ∀ {es : Es} {vs : List V} {ds : List D}, OR F σ H env es vs ds → vs.length = esLen es ∧ ds.length = esLen es
  | .nil, [], [], .nil => ⟨rfl, rfl⟩
  | .cons e _, _ :: _, _ :: _, .late _ _ _ r => by
    obtain ⟨h1, h2⟩ := OR.len r
    exact ⟨by simp [esLen, h1], by simp [esLen, h2]⟩
  | .cons e _, _ :: _, _ :: _, .now _ _ r => by
    obtain ⟨h1, h2⟩ := OR.len r
    exact ⟨by simp [esLen, h1], by simp [esLen, h2]⟩
theorem lateOf_io {e : E} {i : Nat} (h : ioOf e = some i) : lateOf e = some i := by rw [ioOf_eq h]; rfl
theorem lateOf_cases {e : E} {i : Nat} (h : lateOf e = some i) : isOwn e = true ∨ ioOf e = some i ∨ borOf e = some i := by
  cases e <;> simp [lateOf] at h
  · exact .inl rfl
  · exact .inr (.inl (by rw [h]; rfl))
  · exact .inr (.inr (by rw [h]; rfl))
/-- an inout argument -/
theorem OR.io : ∀ {es : Es} {vs : List V} {ds : List D}, OR F σ H env es vs ds → ∀ {i s : Nat}, ioAt es i = some s → ∃ v d, vs[i]? = some v ∧ ds[i]? = some d ∧ σ[s]? = some (some v) ∧ env.get s = some d
  | .nil, [], [], .nil, _, _, h => nomatch h
  | .cons e _, v :: _, d :: _, .late hl hg hs r, 0, s, h => by
    have h' : ioOf e = some s := h
    rw [lateOf_io h'] at hl
    cases hl
    exact ⟨v, d, rfl, rfl, hs, hg⟩
  | .cons e _, v :: _, d :: _, .now hl _ r, 0, s, h => by
    have h' : ioOf e = some s := h
    rw [lateOf_io h'] at hl
    cases hl
  | .cons e _, v :: _, d :: _, .late hl hg hs r, i + 1, s, h => OR.io r (i := i) h
  | .cons e _, v :: _, d :: _, .now _ _ r, i + 1, s, h => OR.io r (i := i) h
/-- another argument -/
theorem OR.other (I : FI F σ H env) {Oe : Addr → Prop} (h2 : ∀ a, Oe a → OO F σ env a) : ∀ {es : Es} {vs : List V} {ds : List D}, OR F σ H env es vs ds → noOwn es = true → lateIn F.ow es = true →
    (∀ i ∈ borSlots es, ∀ a, σ[i]? = some (some (.ref a)) → ¬ Oe a) → ∀ {i : Nat} {d : D}, ds[i]? = some d → ioAt es i = none → ∃ v, vs[i]? = some v ∧ FR F.G H Oe v d
  | .nil, [], [], .nil, _, _, _, _, _, h, _ => by simp at h
  | .cons e _, v :: _, d :: _, .late hl hg hs r, hn, hi, hb, 0, d', h, ha => by
    simp only [List.getElem?_cons_zero, Option.some.injEq] at h
    subst h
    have ha' : ioOf e = none := ha
    simp only [noOwn, Bool.and_eq_true, Bool.not_eq_true'] at hn
    simp only [lateIn, hl, Bool.and_eq_true, decide_eq_true_eq] at hi
    rcases lateOf_cases hl with z | z | z
    · rw [hn.1] at z; cases z
    · rw [ha'] at z; cases z
    · obtain ⟨p, h1, c, _⟩ := I.own _ _ hg hi.1
      rw [hs] at h1
      cases h1
      exact ⟨_, rfl, (c.carry (.mono h2) rfl).fr (hb _ (by unfold borSlots; rw [z]; exact List.mem_cons_self) p hs)⟩
  | .cons e _, v :: _, d :: _, .now hl f r, hn, hi, hb, 0, d', h, ha => by
    simp only [List.getElem?_cons_zero, Option.some.injEq] at h
    subst h
    exact ⟨v, rfl, f.carry (.mono h2)⟩
  | .cons e _, v :: _, d :: _, .late hl hg hs r, hn, hi, hb, i + 1, d', h, ha => by
    simp only [noOwn, Bool.and_eq_true] at hn
    simp only [lateIn, Bool.and_eq_true] at hi
    refine OR.other I h2 r hn.2 hi.2 (fun j hj => hb j ?_) (i := i) (by simpa using h) ha
    unfold borSlots
    split
    · exact List.mem_cons_of_mem _ hj
    · exact hj
  | .cons e _, v :: _, d :: _, .now hl f r, hn, hi, hb, i + 1, d', h, ha => by
    simp only [noOwn, Bool.and_eq_true] at hn
    simp only [lateIn, Bool.and_eq_true] at hi
    refine OR.other I h2 r hn.2 hi.2 (fun j hj => hb j ?_) (i := i) (by simpa using h) ha
    unfold borSlots
    split
    · exact List.mem_cons_of_mem _ hj
    · exact hj
/-- what is lent: its data -/
theorem OR.bor : ∀ {es : Es} {vs : List V} {ds : List D}, OR F σ H env es vs ds → ∀ i ∈ borSlots es, ∃ d, env.get i = some d ∧ (∀ r, lentOk es ds r = true → hasK (kindOf d) r = false) ∧ ∀ r, lentOut es ds r = true → kidK (kindOf d) r = false
  | .nil, [], [], .nil, _, h => nomatch h
  | .cons e es, v :: vs, d :: ds, .late hl hg hs r, i, h => by
    unfold borSlots at h
    cases hb : borOf e with
    | some j =>
      have := borOf_eq hb
      subst this
      cases hl
      rw [hb] at h
      rcases List.mem_cons.mp h with h | h
      · subst h
        refine ⟨d, hg, fun r hr => ?_, fun r hr => ?_⟩
        · have hr' : (!hasK (kindOf d) r && lentOk es ds r) = true := hr
          simp only [Bool.and_eq_true, Bool.not_eq_true'] at hr'
          exact hr'.1
        · have hr' : (!kidK (kindOf d) r && lentOut es ds r) = true := hr
          simp only [Bool.and_eq_true, Bool.not_eq_true'] at hr'
          exact hr'.1
      · obtain ⟨d', h1, h2, h3⟩ := OR.bor r i h
        refine ⟨d', h1, fun r hr => h2 r ?_, fun r hr => h3 r ?_⟩
        · have hr' : (!hasK (kindOf d) r && lentOk es ds r) = true := hr
          simp only [Bool.and_eq_true] at hr'
          exact hr'.2
        · have hr' : (!kidK (kindOf d) r && lentOut es ds r) = true := hr
          simp only [Bool.and_eq_true] at hr'
          exact hr'.2
    | none =>
      rw [hb] at h
      obtain ⟨d', h1, h2, h3⟩ := OR.bor r i h
      exact ⟨d', h1, fun r hr => h2 r (by cases e <;> first | exact hr | (simp [borOf] at hb)), fun r hr => h3 r (by cases e <;> first | exact hr | (simp [borOf] at hb))⟩
  | .cons e es, v :: vs, d :: ds, .now hl f r, i, h => by
    unfold borSlots at h
    cases hb : borOf e with
    | some j =>
      have := borOf_eq hb
      subst this
      cases hl
    | none =>
      rw [hb] at h
      obtain ⟨d', h1, h2, h3⟩ := OR.bor r i h
      exact ⟨d', h1, fun r hr => h2 r (by cases e <;> first | exact hr | (simp [borOf] at hb)), fun r hr => h3 r (by cases e <;> first | exact hr | (simp [borOf] at hb))⟩
end
end Bh
/-! text Bh5f -/
set_option Elab.async false
set_option linter.all false
set_option maxRecDepth 100000
set_option maxHeartbeats 1000000
/-! Bh5f: calls. -/
namespace Bh
open PySem PySem.W L2 PyProof.Rows
section
variable {p : Pr} {N : List Str} {ow : List Nat} {tl : Bool} {sc : Scope} {F : Fm} {k : Nat} {X : Cx} {W : WX} {cf : CF} {tb : Tb} {pos : Pos} {es : Es}
variable {σ : L2.St} {H H' : Hp} {env : Env} {df : Def} {vs : List V} {ds : List D}
/-- lent -/
def Lt (σ : L2.St) (es : Es) (a : Addr) : Prop := ∃ i ∈ borSlots es, σ[i]? = some (some (.ref a))
/-- what no data of the callee may touch -/
def OeC (F : Fm) (σ : L2.St) (env : Env) (es : Es) (a : Addr) : Prop := OO F σ env a ∧ ¬ Lt σ es a
structure ArgsOk (ow io : List Nat) (es : Es) : Prop where
  io : argIo es 0 = io
  nd : (ioSlots es).Nodup
  bor : ∀ i ∈ borSlots es, i ∉ ioSlots es
  own : noOwn es = true
  late : lateIn ow es = true
theorem argsOk_of {io : List Nat} (h : argsOk ow io es = true) : ArgsOk ow io es := by
  unfold argsOk at h
  simp only [Bool.and_eq_true, decide_eq_true_eq, List.all_eq_true] at h
  obtain ⟨⟨⟨⟨h1, h2⟩, h3⟩, h4⟩, h5⟩ := h
  exact ⟨h1, h2, h3, h4, h5⟩
theorem ArgsOk.mem {io : List Nat} (a : ArgsOk ow io es) (i : Nat) : i ∈ io ↔ (ioAt es i).isSome = true := by
  rw [← argIo_mem es 0 i, Nat.add_zero, a.io]
theorem lateIn_io : ∀ {es : Es}, lateIn ow es = true → (∀ s ∈ ioSlots es, s ∈ ow) ∧ ∀ s ∈ borSlots es, s ∈ ow
  | .nil, _ => ⟨fun _ h => (nomatch h), fun _ h => (nomatch h)⟩
  | .cons e es, h => by
    simp only [lateIn, Bool.and_eq_true] at h
    obtain ⟨h1, h2⟩ := lateIn_io h.2
    refine ⟨fun s hs => ?_, fun s hs => ?_⟩
    · unfold ioSlots at hs
      cases he : ioOf e with
      | none => rw [he] at hs; exact h1 s hs
      | some i =>
        rw [he] at hs
        rcases List.mem_cons.mp hs with hs | hs
        · have h0 := h.1
          rw [lateOf_io he] at h0
          rw [hs]
          simpa using h0
        · exact h1 s hs
    · unfold borSlots at hs
      cases he : borOf e with
      | none => rw [he] at hs; exact h2 s hs
      | some i =>
        rw [he] at hs
        rcases List.mem_cons.mp hs with hs | hs
        · have h0 := h.1
          have := borOf_eq he
          subst this
          rw [hs]
          simpa [lateOf] using h0
        · exact h2 s hs
theorem call_ar (hG : F.G = p.G) (hT : F.T = p.T) (hw : F.ow = ow) (I : FI F σ H env) (r : OR F σ H env es vs ds) (a : ArgsOk ow df.io es) (hn : esLen es = df.np) : AR p.T df p.G H (OeC F σ env es) vs ds := by
  obtain ⟨l1, l2⟩ := r.len
  have sub : ∀ a, OeC F σ env es a → OO F σ env a := fun _ z => z.1
  have hl : lateIn F.ow es = true := by rw [hw]; exact a.late
  obtain ⟨m1, m2⟩ := lateIn_io a.late
  refine ⟨l1.trans hn, l2.trans hn, fun b z => I.alive b z.1, by rw [← hT]; exact I.tabs, fun i d h hi => ?_, fun i d h hi => ?_, fun i j b hi hj h1 h2 => ?_⟩
  · rw [← hG]
    refine r.other I sub a.own hl (fun j hj b hb z => z.2 ⟨j, hj, hb⟩) h ?_
    cases e : ioAt es i with
    | none => rfl
    | some s => exact (hi ((a.mem i).mpr (by rw [e]; rfl))).elim
  · obtain ⟨s, hs⟩ := Option.isSome_iff_exists.mp ((a.mem i).mp hi)
    obtain ⟨v, d', h1, h2, h3, h4⟩ := r.io hs
    rw [h] at h2
    cases h2
    have hso := m1 s (ioAt_slot hs)
    obtain ⟨b, b1, c, _⟩ := I.own s d h4 (by rw [hw]; exact hso)
    rw [h3] at b1
    cases b1
    refine ⟨b, h1, ⟨.inr ⟨s, by rw [hw]; exact hso, ⟨d, h4⟩, h3⟩, fun ⟨j, hj, hb⟩ => ?_⟩, by rw [← hG]; exact c.carry (.mono sub) rfl⟩
    obtain ⟨d2, g2, _⟩ := r.bor j hj
    have := I.dist s j b (by rw [hw]; exact hso) (by rw [hw]; exact m2 j hj) ⟨d, h4⟩ ⟨d2, g2⟩ h3 hb
    exact a.bor j hj (this ▸ ioAt_slot hs)
  · obtain ⟨s, hs⟩ := Option.isSome_iff_exists.mp ((a.mem i).mp hi)
    obtain ⟨t, ht⟩ := Option.isSome_iff_exists.mp ((a.mem j).mp hj)
    obtain ⟨v, d, g1, g2, g3, g4⟩ := r.io hs
    obtain ⟨w, e, f1, f2, f3, f4⟩ := r.io ht
    rw [h1] at g1
    rw [h2] at f1
    cases g1
    cases f1
    have := I.dist s t b (by rw [hw]; exact m1 s (ioAt_slot hs)) (by rw [hw]; exact m1 t (ioAt_slot ht)) ⟨d, g4⟩ ⟨e, f4⟩ g3 f3
    rw [← this] at ht
    exact ioAt_inj a.nd hs ht
/-- what was lent stands as it did -/
theorem lent_kind {T : List (Addr × Str)} {io : List Nat} {Oe O' : Addr → Prop} {outs : List D} (hT : F.T = T) (hw : F.ow = ow) (I : FI F σ H env) (r : OR F σ H env es vs ds) (a : ArgsOk ow io es) (P : DP T io vs F.G H Oe H' O' outs) :
    ∀ b, Lt σ es b → ∃ d, (∀ x, lentOk es ds x = true → hasK (kindOf d) x = false) ∧ (∀ x, lentOut es ds x = true → kidK (kindOf d) x = false) ∧ KindAt H' b (kindOf d) := fun b ⟨i, hi, hs⟩ => by
  obtain ⟨m1, m2⟩ := lateIn_io a.late
  obtain ⟨d, hg, k1, k2⟩ := r.bor i hi
  have hio : i ∈ F.ow := by rw [hw]; exact m2 i hi
  obtain ⟨q, q1, c, _⟩ := I.own i d hg hio
  rw [hs] at q1
  cases q1
  obtain ⟨o, ho, hnt⟩ := c.av
  have ho' : H b = some o := ho
  have h1 : H' b = some o := by
    refine P.keep b o ho' (fun j hj z => ?_) hnt
    · obtain ⟨s, es'⟩ := Option.isSome_iff_exists.mp ((a.mem j).mp hj)
      obtain ⟨v, d2, g1, g2, g3, g4⟩ := r.io es'
      rw [z] at g1
      cases g1
      have := I.dist i s b hio (by rw [hw]; exact m1 s (ioAt_slot es')) ⟨d, hg⟩ ⟨d2, g4⟩ hs g3
      exact a.bor i hi (this ▸ ioAt_slot es')
  exact ⟨d, k1, k2, c.kind (h1.trans ho'.symm)⟩
theorem slot_at : ∀ {es : Es} {s : Nat}, s ∈ ioSlots es → ∃ i, ioAt es i = some s
  | .nil, _, h => nomatch h
  | .cons e es, s, h => by
    unfold ioSlots at h
    cases he : ioOf e with
    | none =>
      rw [he] at h
      obtain ⟨i, hi⟩ := slot_at h
      exact ⟨i + 1, hi⟩
    | some t =>
      rw [he] at h
      rcases List.mem_cons.mp h with h | h
      · exact ⟨0, by rw [h]; exact he⟩
      · obtain ⟨i, hi⟩ := slot_at h
        exact ⟨i + 1, hi⟩
/-- the frame behind a call -/
theorem call_back {T : List (Addr × Str)} {io : List Nat} {O' Ox' : Addr → Prop} {outs : List D} (hT : F.T = T) (hw : F.ow = ow) (I : FI F σ H env) (r : OR F σ H env es vs ds) (a : ArgsOk ow io es) {Oe : Addr → Prop} (P : DP T io vs F.G H Oe H' O' outs)
    (lo : outs.all (lentOut es ds) = true) (o1 : ∀ b, F.Ox b → Ox' b) (o2 : ∀ b, Ox' b → F.Ox b ∨ ¬ Av H b) (o3 : Live H' Ox') (oo : ∀ b, (Ox' b ∨ ownA F.ow σ env b) → O' b ∨ Lt σ es b) :
    FI (F.more Ox') σ H' (putBack es outs env) ∧ Stp H (OO F σ env) H' (OO (F.more Ox') σ (putBack es outs env)) ∧ ∀ b, ownA F.ow σ (putBack es outs env) b ↔ ownA F.ow σ env b := by
  obtain ⟨m1, m2⟩ := lateIn_io a.late
  have hlen : outs.length = (argIo es 0).length := by rw [a.io]; exact P.len
  have hget : ∀ s ∈ ioSlots es, ∃ d, env.get s = some d := by
    intro s hs
    obtain ⟨i, hi⟩ := slot_at hs
    obtain ⟨v, d, _, _, _, h⟩ := r.io hi
    exact ⟨d, h⟩
  refine I.chgs (L := backL es outs) (Z := fun _ => False) (fun q hq => ⟨by rw [hw]; exact m1 _ (backL_slots hq), hget _ (backL_slots hq)⟩) (putBack_len es outs env) (fun j hj => ?_) (putBack_get es outs env a.nd fun i hi => ?_) (fun b o e n t _ => ?_)
    (fun _ z => z.elim) P.sub (hT ▸ P.tabs) o1 o2 o3 fun q hq b hb => ?_
  · by_cases h : j ∈ ioSlots es
    · obtain ⟨i, hi⟩ := slot_at h
      obtain ⟨o', ho⟩ := backL_all es outs 0 i j hlen hi
      exact (hj _ ho rfl).elim
    · exact putBack_other es outs env j h
  · obtain ⟨d, hd⟩ := hget i hi
    exact get_lt hd
  · refine P.keep b o e (fun i hi z => ?_) t
    obtain ⟨s, hs⟩ := Option.isSome_iff_exists.mp ((a.mem i).mp hi)
    obtain ⟨v, d, g1, g2, g3, g4⟩ := r.io hs
    rw [z] at g1
    cases g1
    obtain ⟨o', ho⟩ := backL_all es outs 0 i s hlen hs
    exact n _ ho g3
  · obtain ⟨n, i, h1, h2, h3⟩ := backL_at es outs 0 q hq
    rw [a.io, Nat.add_zero] at h1
    obtain ⟨b', g1, c⟩ := P.out n i q.2 h1 h2
    obtain ⟨v, d, f1, f2, f3, f4⟩ := r.io h3
    rw [g1] at f1
    cases f1
    rw [hb] at f3
    cases f3
    have lo' := List.all_eq_true.mp lo q.2 (List.mem_of_getElem? h2)
    refine c.kid oo fun x hx => ?_
    obtain ⟨d0, _, k2, k3⟩ := lent_kind hT hw I r a P x hx
    exact ⟨_, k3, k2 _ lo'⟩
/-- what is not owned stands behind a call -/
theorem call_kx {T : List (Addr × Str)} {io : List Nat} {Oe O' : Addr → Prop} {outs : List D} (hT : F.T = T) (hw : F.ow = ow) (r : OR F σ H env es vs ds) (a : ArgsOk ow io es) (P : DP T io vs F.G H Oe H' O' outs) :
    ∀ b o, H b = some o → ¬ ownA F.ow σ env b → Nt o → H' b = some o := fun b o h n t => P.keep b o h (fun i hi z => by
  obtain ⟨s, hs⟩ := Option.isSome_iff_exists.mp ((a.mem i).mp hi)
  obtain ⟨v, d, g1, g2, g3, g4⟩ := r.io hs
  rw [z] at g1
  cases g1
  exact n ⟨s, by rw [hw]; exact (lateIn_io a.late).1 s (ioAt_slot hs), ⟨d, g4⟩, g3⟩) t
end
end Bh
/-! text Bh5g -/
set_option Elab.async false
set_option linter.all false
set_option maxRecDepth 100000
set_option maxHeartbeats 1000000
/-! Bh5g: calls of defs, methods, classes. -/
namespace Bh
open PySem PySem.W L2 PyProof.Rows
section
variable {p : Pr} {N : List Str} {ow : List Nat} {tl : Bool} {sc : Scope} {F : Fm} {k : Nat} {X : Cx} {W : WX} {cf : CF} {tb : Tb} {pos : Pos} {es : Es}
theorem call_sp {σ : L2.St} {H Hs : Hp} {env : Env} {df : Def} {vs : List V} {ds : List D} (hG : F.G = p.G) (hT : F.T = p.T) (hw : F.ow = ow) {g : List D → CR} {Q : VK} {nw : Nat → Bool} (hnw : ∀ k, nw k = true → df.fr = true ∧ (k = 1 ∨ k = 2))
    (I : FI F σ H env) (r : OR F σ H env es vs ds) (a : ArgsOk ow df.io es) (hn : esLen es = df.np) (dom : ∀ b, Av Hs b → Av H b)
    (w : Wish F W σ H env (callRes es ds env (g ds)) fun d env' H' => ∀ v, VR F σ env' Hs H' nw v d → Q v H') : spD p df g vs H Q (WE W σ) := by
  refine ⟨OeC F σ env es, ds, call_ar hG hT hw I r a hn, ?_⟩
  have oo : ∀ b, OO F σ env b → OeC F σ env es b ∨ Lt σ es b := fun b z => by
    by_cases h : Lt σ es b
    · exact .inr h
    · exact .inl ⟨z, h⟩
  cases hg : g ds with
  | err => rw [hg] at w; exact w.elim
  | exc c outs =>
    rw [hg] at w
    intro dx H' P
    have w' : Wish F W σ H env (if outs.all (lentOut es ds) then (.exc c (putBack es outs env) : R D) else .err) _ := w
    split at w'
    · rename_i lo
      rw [← hG] at P
      obtain ⟨I1, st, own⟩ := call_back (Ox' := F.Ox) hT hw I r a P lo (fun _ z => z) (fun _ z => .inl z) (fun b z => P.sub b (I.live b z)) oo
      have P1 : Post F σ H env H' (putBack es outs env) := ⟨I1, st, fun b z => (own b).mp z, call_kx hT hw r a P⟩
      have := w' dx H' P1
      rw [hG] at this
      exact this
    · exact w'.elim
  | ok r' outs =>
    rw [hg] at w
    intro v H' P f nw'
    have w' : Wish F W σ H env (if lentOk es ds r' && outs.all (lentOut es ds) then (.ok r' (putBack es outs env) : R D) else .err) _ := w
    split at w'
    · rename_i lo
      rw [Bool.and_eq_true] at lo
      rw [← hG] at P f nw'
      obtain ⟨I1, st, own⟩ := call_back (Ox' := F.Ox) hT hw I r a P lo.2 (fun _ z => z) (fun _ z => .inl z) (fun b z => P.sub b (I.live b z)) oo
      have P1 : Post F σ H env H' (putBack es outs env) := ⟨I1, st, fun b z => (own b).mp z, call_kx hT hw r a P⟩
      have lk : ∀ b, Lt σ es b → ∃ k, KindAt H' b k ∧ hasK k r' = false := fun b hb =>
        let ⟨d0, k1, _, k3⟩ := lent_kind hT hw I r a P b hb
        ⟨_, k3, k1 _ lo.1⟩
      have oo' : ∀ b, OO F σ (putBack es outs env) b → OeC F σ env es b ∨ Lt σ es b := fun b z => oo b (z.imp id (own b).mp)
      refine w' H' P1 v ⟨f.lent oo' lk, fun z1 z2 => ?_⟩
      obtain ⟨q, rfl, hq, cq, Pq⟩ := nw' (hnw _ z1).1 (hnw _ z1).2
      have oq : ∀ b, ((F.Ox b ∨ b = q) ∨ ownA F.ow σ env b) → (OeC F σ env es b ∨ b = q) ∨ Lt σ es b := fun b z => by
        rcases z with (z | z) | z
        · exact (oo b (.inl z)).elim (fun y => .inl (.inl y)) .inr
        · exact .inl (.inr z)
        · exact (oo b (.inr z)).elim (fun y => .inl (.inl y)) .inr
      obtain ⟨I2, st2, own2⟩ := call_back (Ox' := fun b => F.Ox b ∨ b = q) hT hw I r a Pq lo.2 (fun _ z => .inl z) (fun b z => z.elim .inl fun y => .inr (y ▸ hq)) (fun b z => z.elim (fun y => P.sub b (I.live b y)) fun y => y ▸ cq.av) oq
      have nq : ¬ OO F σ (putBack es outs env) q := fun z => I.free hq (z.imp id (own q).mp)
      have hs0 : ¬ Av Hs q := fun z => hq (dom q z)
      refine ⟨q, rfl, hs0, nq, cq.lent (fun b z => ?_) lk, I2⟩
      refine oq b ?_
      rcases z with z | z
      · exact .inl z
      · exact .inr ((own2 b).mp z)
    · exact w'.elim
theorem pe_callS0 {CX : CXT} {f : Addr} {fd : FuncData} {ps : List Str} {sp : Sp} {E : L2.St → XK} {x : Str} {q : Pos} (F : FnOk X.prog X.w X.K X.mg X.base CX k f fd ps sp) (hr : Room k X.A) (hg : Gl X x) (hm : X.mg x = some (.ref f)) (hk : keepIn X.K (.ref f) = true) (hb : L2.Binds X.K fd ps [])
    (hx : ∀ σ, PassesAt CX X σ (E σ)) (hdb : (x == ("__debug__" : Str)) = false) : PE X (.Call (.Name x q) [] [] pos) (tCallS sp E tNil) := by
  refine ⟨fun pins s σ H Q I h => ?_⟩
  refine wpAny_Call_Name_kw (ld_glob I hg hm ?_ hdb)
  exact callWith_K0 I.kIn hk (run_fnS (us := []) F hr hb (hx σ) I .nil h)
theorem Post.domL {σ : L2.St} {H H' : Hp} {env env' : Env} (P : Post F σ H env H' env') : ∀ b, Av H b → Av H' b := P.stp.dom
theorem s_call (C : Cok p N tl sc k X W) {f : Nat} {df : Def} {as : List Expr} {q : Pos} (hdf : p.pg.defs f = some df) (ht : p.top f = true) (hfr : p.pg.tb.fresh f = df.fr) (hg : gloB sc (p.dn f) = true) (hpn : plainName (p.dn f) = true)
    (h : PEs X as (tOs p ow p.pg.tb (lev p.pg k) W es)) (ha : argsOk ow df.io es = true) (hn : esLen es = df.np) : PE X (.Call (.Name (p.dn f) q) as [] pos) (tE p ow p.pg.tb (lev p.pg k) W (.call f es)) := by
  simp only [plainName, Bool.and_eq_true, Bool.not_eq_true'] at hpn
  have fin : ∀ σ H Q, tE p ow p.pg.tb (lev p.pg k) W (.call f es) σ H Q → tCallS (spD p df ((lev p.pg k).c 0 f)) (WE W) (tAs (tOs p ow p.pg.tb (lev p.pg k) W es)) σ H Q := fun σ H Q ⟨F, env, ok, I, w⟩ => by
    rw [evE] at w
    exact es_run ok es I w.bind fun ds env' H' vs P r w => call_sp ok.G ok.T ok.ow (fun j hj => by
      have hj' : ((j == 1 || j == 2) && p.pg.tb.fresh f) = true := hj
      rw [Bool.and_eq_true, Bool.or_eq_true, beq_iff_eq, beq_iff_eq] at hj'
      exact ⟨by rw [← hfr]; exact hj'.2, hj'.1⟩) P.fi r (argsOk_of ha) hn P.domL w
  cases as with
  | nil =>
    refine PEimp (pe_callS0 (C.facts.fn k (Nat.le_refl _) f df hdf) C.room (C.gl hg) (C.facts.dm f ht) (C.facts.kp f df hdf) (C.facts.bi f df hdf) (fun σ => passAt C.tk σ) hpn.1.1) fun σ H Q hh => ?_
    have := fin σ H Q hh
    generalize hts : tOs p ow p.pg.tb (lev p.pg k) W es = ts at h this
    cases h
    exact this
  | cons e es' =>
    exact PEimp (pe_callS (C.facts.fn k (Nat.le_refl _) f df hdf) C.room (C.gl hg) (C.facts.dm f ht) (C.facts.kp f df hdf) (C.facts.bi f df hdf) (fun σ => passAt C.tk σ) h.pa hpn.1.1 (h.hd pos).1 (h.hd pos).2) fin
/-! methods -/
def tM (X : Cx) (k : Nat) (m : Str) (E : L2.St → XK) (ta : TE) (t : TA) : TE := fun σ H Q => ta σ H fun x H1 => ∃ (a C dx : Addr) (fs : List (Str × V)) (f : Addr) (fd : FuncData) (ps : List Str) (sp : Sp), x = .ref a ∧ H1 a = some (.ins C dx fs) ∧ Cls X.K C ∧ Meth X.K C m f ∧ fs.lookup m = none ∧
  FnOk X.prog X.w X.K X.mg X.base (L2.CX X.prog X.w) k f fd ps sp ∧ L2.Binds X.K fd ps [] ∧ t σ H1 fun vs H2 => sp (x :: vs) H2 Q (E σ)
theorem meth_eval {o : Expr} (h : isCall o = false) (m : Str) (apos pos : Pos) (es : List Expr) (env : PySem.Env) (hf : methodCallForm es.length (backTo pos (starEach es env)) [] = true) (hl : (apos.endLine == pos.line) = true) :
    eval (.Call (.Attribute o m apos) es [] pos) env = (do
      let ov ← eval o env
      standAt apos.atName
      let (f, first) ← holding [ov] (getMethod ov m (do return (← importBound o env).getD true))
      callWith pos f first (backTo pos (starEach es env)) (backToKw pos (keywordEach [] env))) := by
  have e1 : eval (.Call (.Attribute o m apos) es [] pos) env = (do
      let ov ← attributeBase o m env (eval o env)
      standAt apos.atName
      methodCall o m apos pos env ov es.length (backTo pos (starEach es env)) []) := by rfl
  rw [e1, attrBase h]
  unfold methodCall calleeOf methodCallPos
  simp only [hf, hl, Bool.not_true, Bool.false_or, if_true]
  rfl
theorem few_of {ts : List TE} {as : List Expr} (h : PEs X as ts) (hn : as.length < 30) : methodCallForm as.length (backTo pos (starEach as X.env)) [] = true := by
  have h1 := h.plain pos
  unfold methodCallForm
  have h2 : (backTo pos (starEach as X.env)).all (fun x => !x.1) = true := by
    rw [List.all_eq_not_any_not]
    simp only [Bool.not_not]
    rw [h1]; rfl
  rw [h2]
  simpa using hn
theorem pe_methS {E : L2.St → XK} {o : Expr} {m : Str} {as : List Expr} {ap : Pos} {ta : TE} {ts : List TE} (ho : isCall o = false) (he : PE X o ta) (hr : Room k X.A) (hx : ∀ σ, PassesAt (L2.CX X.prog X.w) X σ (E σ)) (ha : PEs X as ts) (hn : as.length < 30) (hl : (ap.endLine == pos.line) = true) :
    PE X (.Call (.Attribute o m ap) as [] pos) (tM X k m E ta (tAs ts)) := by
  have ht := meth_eval ho m ap pos as X.env (few_of ha hn) hl
  refine ⟨fun pins s σ H Q I h => ?_⟩
  refine methodCall_KW (thn (he.run pins s σ H _ I h) fun u s1 ⟨x, H1, I1, rx, a, C, dx, fs, f, fd, ps, sp, ex, ea, c, hm, l, F, hb, q⟩ => ?_) ht
  subst ex
  obtain rfl : u = Value.ref a := rx
  refine getmeth_ok I1 ea c hm l ?_
  cases as with
  | nil =>
    cases ha
    exact callWith_K0 (first := [.ref a]) I1.kIn hm.kp (run_fnS (us := [.ref a]) (vs := [.ref a]) F hr hb (hx σ) I1 (.cons rfl .nil) q)
  | cons e es' =>
    refine callWith_K (first := [.ref a]) (h₀ := X.base) I.ok.mod.kin hm.kp (thn (ha.pa.run pos pins s1 σ H1 _ I1 q) fun us s2 ⟨vs, H2, I2, r, q2⟩ => ⟨I2.kIn, ?_⟩) (ha.hd pos).1 (ha.hd pos).2
    exact run_fnS (us := .ref a :: us) (vs := .ref a :: vs) F hr hb (hx σ) I2 (.cons rfl r) q2
/-- the args of a method fit its def -/
def methOk (p : Pr) (ow : List Nat) (m : Nat) (es : Es) : Prop := ∀ c f, p.pg.tb.meth c m = some f → ∀ df, p.pg.defs f = some df → argsOk ow df.io es = true ∧ esLen es = df.np
theorem obj_here {σ : L2.St} {H : Hp} {O : Addr → Prop} {a : Addr} {c m f : Nat} {fs : List (Nat × D)} (C : Cok p N tl sc k X W) (ok : FOk p ow F) (hmt : p.pg.tb.meth c m = some f) (b : Cont F.G H O a (.obj c fs)) :
    ∃ (dx : Addr) (vs : List (Str × V)) (df : Def), H a = some (.ins (p.G.ca c) dx vs) ∧ Cls X.K (p.G.ca c) ∧ Meth X.K (p.G.ca c) (p.mn m) (p.da f) ∧ vs.lookup (p.mn m) = none ∧ p.pg.defs f = some df := by
  obtain ⟨h1, h2, df, h3⟩ := C.facts.meth c m f hmt
  cases b with
  | obj e r =>
    rw [ok.G] at e r
    exact ⟨_, _, df, e, h1, h2, r.noLook (fun g => C.facts.nom g m), h3⟩
theorem s_meth (C : Cok p N tl sc k X W) {m : Nat} {eo : E} {o : Expr} {as : List Expr} {ap : Pos} (hc : isCall o = false) (ho : PE X o (tO p ow p.pg.tb (lev p.pg k) W eo)) (h : PEs X as (tOs p ow p.pg.tb (lev p.pg k) W es)) (hn : as.length < 30) (hlp : (ap.endLine == pos.line) = true)
    (hl : ∀ i, lateOf eo = some i → i ∈ ow) (hm : methOk p ow m (.cons eo es)) : PE X (.Call (.Attribute o (p.mn m) ap) as [] pos) (tE p ow p.pg.tb (lev p.pg k) W (.meth m eo es)) := by
  refine PEimp (pe_methS (E := WE W) hc ho C.room (fun σ => passAt C.tk σ) h hn hlp) fun σ H Q ⟨F, env, ok, I, w⟩ => ?_
  rw [evE] at w
  show tO p ow p.pg.tb (lev p.pg k) W eo σ H _
  unfold tO
  cases hlo : lateOf eo with
  | some i =>
    rw [hlo] at w
    have w1 : Wish F W σ H env (match env.get i with
      | some (.obj c _) => match p.pg.tb.meth c m with
        | some f => (evEs p.pg.tb (lev p.pg k) es env).bind fun ds env => match env.get i with
          | some (.obj c' fs) => if c' = c then callRes (.cons eo es) (.obj c' fs :: ds) env ((lev p.pg k).c 0 f (.obj c' fs :: ds)) else .err
          | _ => .err
        | none => .err
      | _ => .err) _ := w
    split at w1
    · rename_i c fs0 hg
      have hio : i ∈ F.ow := by rw [ok.ow]; exact hl i hlo
      obtain ⟨a, hs, ct, _⟩ := I.own i _ hg hio
      split at w1
      · rename_i f hmt
        obtain ⟨dx, vs0, df, g1, g2, g3, g4, g5⟩ := obj_here (σ := σ) C ok hmt ct
        obtain ⟨m1, m2⟩ := hm c f hmt df g5
        refine ⟨_, hs, a, p.G.ca c, dx, vs0, p.da f, p.dfd f, p.dps f, spD p df ((lev p.pg k).c 0 f), rfl, g1, g2, g3, g4, C.facts.fn k (Nat.le_refl _) f df g5, C.facts.bi f df g5, ?_⟩
        refine es_run ok es I w1.bind fun ds env' H' vs P r w => ?_
        split at w
        · rename_i c' fs hg'
          split at w
          · rename_i ec
            subst ec
            exact call_sp (nw := fun _ => false) ok.G ok.T ok.ow (fun j hj => nomatch hj) P.fi (.late hlo hg' hs r) (argsOk_of m1) m2 P.domL w
          · exact w.elim
        · exact w.elim
      · exact w1.elim
    · exact w1.elim
  | none =>
    rw [hlo] at w
    refine ⟨F, env, ok, I, w.bind.imp fun d env1 H1 P1 w1 v hv => ?_⟩
    split at w1
    · rename_i c fs
      have hv1 := hv.1
      cases hv1 with
      | obj e n rf =>
        rename_i a dx0 vsx
        split at w1
        · rename_i f hmt
          obtain ⟨dx, vs0, df, g1, g2, g3, g4, g5⟩ := obj_here (σ := σ) C ok hmt (Cont.obj e rf)
          obtain ⟨m1, m2⟩ := hm c f hmt df g5
          refine ⟨a, p.G.ca c, dx, vs0, p.da f, p.dfd f, p.dps f, spD p df ((lev p.pg k).c 0 f), rfl, g1, g2, g3, g4, C.facts.fn k (Nat.le_refl _) f df g5, C.facts.bi f df g5, ?_⟩
          refine es_run ok es P1.fi w1.bind fun ds env' H' vs P r w => ?_
          exact call_sp (nw := fun _ => false) ok.G ok.T ok.ow (fun j hj => nomatch hj) P.fi (.now hlo (hv.1.carry P.stp) r) (argsOk_of m1) m2 (fun b hb => P.domL b (P1.domL b hb)) w
        · exact w1.elim
    · exact w1.elim
end
end Bh
/-! text Bh5h -/
set_option Elab.async false
set_option linter.all false
set_option maxRecDepth 100000
set_option maxHeartbeats 1000000
/-! Bh5h: making, fields, methods of lists, a look into a display. -/
namespace Bh
open PySem PySem.W L2 PyProof.Rows
section
variable {p : Pr} {N : List Str} {ow : List Nat} {tl : Bool} {sc : Scope} {F : Fm} {k : Nat} {X : Cx} {W : WX} {cf : CF} {tb : Tb} {pos : Pos} {es : Es}
theorem run_makeS {pins : List (Addr × Obj)} {σ : L2.St} {H : Hp} {s : Shared} {Q : VK} {us : List Value} {vs : List V} {C f : Addr} {fd : FuncData} {ps : List Str} {sp : Sp} {CX : CXT} {E : XK} (M : Mk X.K C f) (F : FnOk X.prog X.w X.K X.mg X.base CX k f fd ps sp) (hr : Room (k + 1) X.A) (hb : L2.Binds X.K fd ps [])
    (hx : PassesAt CX X σ E) (I : Inv X pins σ H s) (r : Vals vs us)
    (h : ∀ x dx, H x = none → H dx = none → dx ≠ x → sp (.ref x :: vs) (upd (upd H dx (.own x)) x (.ins C dx [])) (fun v H2 => v = .non ∧ Q (.ref x) H2) E) :
    wpAny (model X.prog X.w) X.A (call (.ref C) us) (EP X pins σ Q) X.xe s := by
  have hq := h (s.heap.objs.size + 1) s.heap.objs.size (I.hok.fresh (Nat.le_succ _)) (I.hok.fresh (Nat.le_refl _)) (Nat.ne_of_lt (Nat.lt_succ_self _))
  have I2 := Inv.made (C := C) I
  have r2 : Vals (V.ref (s.heap.objs.size + 1) :: vs) (Value.ref (s.heap.objs.size + 1) :: us) := .cons rfl r
  have hl : (Value.ref (s.heap.objs.size + 1) :: us ++ []).length = ps.length := by
    have e := r2.length
    rw [F.len _ _ _ _ hq] at e
    rw [List.append_nil]
    exact e.symm
  have hb2 := hb _ (Value.ref (s.heap.objs.size + 1) :: us) I2.kIn hl
  rw [List.append_nil] at hb2
  refine wpAny_call (make_map (f := f) I.kIn M.makes M.init (beq_iff_eq.mp M.fn) (codeAny_mono (F.run _ X.stack _ _ ⟨Value.ref (s.heap.objs.size + 1) :: us, []⟩ (Value.ref (s.heap.objs.size + 1) :: us) _ _ E (hr.make C us [])
    (I2.env0.make C us []) hb2 r2 hq) fun r s' hq' => ?_))
  cases r with
  | error e => exact hx pins _ _ e s' I2 hq'
  | ok fl =>
    cases fl with
    | ret u =>
      obtain ⟨v, H', I3, rv, ev, q3⟩ := I2.after hq'
      subst ev
      exact ⟨rv, ⟨V.ref (s.heap.objs.size + 1), H', I3, rfl, q3⟩⟩
    | next => exact False.elim hq'
    | brk => exact False.elim hq'
    | cont => exact False.elim hq'
def tMakeS (C : Addr) (sp : Sp) (E : L2.St → XK) (t : TA) : TE := fun σ H Q => t σ H fun vs H1 => ∀ x dx, H1 x = none → H1 dx = none → dx ≠ x →
  sp (.ref x :: vs) (upd (upd H1 dx (.own x)) x (.ins C dx [])) (fun v H2 => v = .non ∧ Q (.ref x) H2) (E σ)
theorem pe_makeS {C f : Addr} {fd : FuncData} {ps : List Str} {sp : Sp} {CX : CXT} {E : L2.St → XK} {x : Str} {q : Pos} {as : List Expr} {ts : List TE} (M : Mk X.K C f) (F : FnOk X.prog X.w X.K X.mg X.base CX k f fd ps sp) (hr : Room (k + 1) X.A) (hg : Gl X x) (hm : X.mg x = some (.ref C)) (hb : L2.Binds X.K fd ps [])
    (hx : ∀ σ, PassesAt CX X σ (E σ)) (ha : PEs X as ts) (hdb : (x == ("__debug__" : Str)) = false) : PE X (.Call (.Name x q) as [] pos) (tMakeS C sp E (tAs ts)) := by
  refine ⟨fun pins s σ H Q I h => ?_⟩
  refine wpAny_Call_Name_kw (ld_glob I hg hm ?_ hdb)
  cases as with
  | nil =>
    cases ha
    exact callWith_K0 I.kIn M.kp (run_makeS (us := []) M F hr hb (hx σ) I .nil h)
  | cons e es' =>
    refine callWith_K (h₀ := X.base) I.ok.mod.kin M.kp (thn (ha.pa.run pos pins s σ H _ I h) fun us s1 ⟨vs, H1, I1, r, q⟩ => ⟨I1.kIn, ?_⟩) (ha.hd pos).1 (ha.hd pos).2
    exact run_makeS M F hr hb (hx σ) I1 r q
theorem noLate_none : ∀ {es : Es}, noLate es = true → ioSlots es = [] ∧ borSlots es = [] ∧ ∀ os env, putBack es os env = env
  | .nil, _ => ⟨rfl, rfl, fun os env => by simp [putBack]⟩
  | .cons e es, h => by
    simp only [noLate, Bool.and_eq_true, Option.isNone_iff_eq_none] at h
    obtain ⟨h1, h2, h3⟩ := noLate_none h.2
    have i1 : ioOf e = none := by
      cases z : ioOf e with
      | none => rfl
      | some i => rw [lateOf_io z] at h; exact nomatch h.1
    have i2 : borOf e = none := by
      cases z : borOf e with
      | none => rfl
      | some i =>
        have := borOf_eq z
        subst this
        exact nomatch h.1
    exact ⟨by unfold ioSlots; rw [i1]; exact h1, by unfold borSlots; rw [i2]; exact h2, fun os env => by rw [putBack_cons i1]; exact h3 os env⟩
theorem make_sp (ok : FOk p ow F) {σ : L2.St} {H Hs : Hp} {env : Env} {df : Def} {vs : List V} {ds : List D} {x dx : Addr} {c : Nat} {g : List D → CR} {Q : VK}
    (I : FI F σ H env) (f : FRs F.G H (OO F σ env) vs ds) (hio : df.io = [0]) (hn : ds.length + 1 = df.np) (nx : H x = none) (nd : H dx = none) (ne : dx ≠ x) (dom : ∀ b, Av Hs b → Av H b)
    (hl : noLate es = true) (w : Wish F W σ H env (makeRes es ds env (g (.obj c [] :: ds))) fun d env' H' => ∀ v, VR F σ env' Hs H' (fun _ => true) v d → Q v H') :
    spD p df g (.ref x :: vs) (upd (upd H dx (.own x)) x (.ins (p.G.ca c) dx [])) (fun v H2 => v = .non ∧ Q (.ref x) H2) (WE W σ) := by
  obtain ⟨n1, n2, n3⟩ := noLate_none hl
  have e0 : Ext H (upd H dx (.own x)) := Ext.upd nd
  have I0 := I.ext e0
  have nx0 : upd H dx (.own x) x = none := by rw [upd_ne (Ne.symm ne)]; exact nx
  have Ig := I0.guard (o := .ins (p.G.ca c) dx []) nx0
  have e1 : Ext (upd H dx (.own x)) (upd (upd H dx (.own x)) x (.ins (p.G.ca c) dx [])) := Ext.upd nx0
  have st : Stp H (OO F σ env) (upd (upd H dx (.own x)) x (.ins (p.G.ca c) dx [])) (fun b => OO F σ env b ∨ b = x) := ⟨fun a o h _ _ => e1 a o (e0 a o h), fun a z => z.elim .inl fun y => .inr (by rw [y]; exact Av.none nx), fun a n => e1.dom a (e0.dom a n)⟩
  have fg := f.carry st
  have back : ∀ (H' : Hp) (outs : List D), DP p.T df.io (.ref x :: vs) p.G (upd (upd H dx (.own x)) x (.ins (p.G.ca c) dx [])) (fun b => OO F σ env b ∨ b = x) H' (fun b => OO F σ env b ∨ b = x) outs →
      FI (F.guard x) σ H' env ∧ Post F σ H env H' env := fun H' outs P => by
    have k1 : ∀ a o, (upd (upd H dx (.own x)) x (.ins (p.G.ca c) dx [])) a = some o → (∀ q ∈ ([] : List (Nat × D)), σ[q.1]? ≠ some (some (.ref a))) → Nt o → ¬ a = x → H' a = some o := fun a o h _ t z => by
      refine P.keep a o h (fun i hi q => ?_) t
      rw [hio] at hi
      have hi0 : i = 0 := by simpa using hi
      subst hi0
      simp only [List.getElem?_cons_zero, ne_eq, Option.some.injEq, V.ref.injEq] at q
      exact z q.symm
    have k2 : ∀ a, a = x → ¬ Av (F.guard x).H0 a ∧ (F.guard x).Ox a ∧ ¬ ownA (F.guard x).ow σ env a := fun a z => by
      subst z
      refine ⟨?_, .inr rfl, fun ⟨i, hi, ⟨d, hd⟩, hs⟩ => ?_⟩
      · exact fun z => Av.none nx (I.sub a z)
      · obtain ⟨b, b1, ct, _⟩ := I.own i d hd hi
        rw [hs] at b1
        cases b1
        exact Av.none nx ct.av
    have k3 : LamX.Tabs (F.guard x).T H' := by
      show LamX.Tabs F.T H'
      rw [ok.T]; exact P.tabs
    obtain ⟨I1, st1, own⟩ := Ig.chgs (L := []) (env1 := env) (H1 := H') (Z := fun b => b = x) (Ox' := (F.guard x).Ox) (fun _ h => nomatch h) rfl (fun _ _ => rfl) (fun _ h => nomatch h) k1 k2 P.sub k3 (fun _ z => z) (fun _ z => .inl z) (fun a z => P.sub a (Ig.live a z)) (fun _ h => nomatch h)
    have IF : FI F σ H' env := FI.unguard I1 ok.oe
    refine ⟨I1, IF, ⟨fun a o h t n => ?_, fun a z => .inl z, fun a n => P.sub a (e1.dom a (e0.dom a n))⟩, fun _ z => z, fun a o h n t => k1 a o (e1 a o (e0 a o h)) (fun _ h => nomatch h) t fun z => by rw [z, nx] at h; cases h⟩
    exact st1.keep a o (e1 a o (e0 a o h)) t fun z => by
      rcases (guard_oo a).mp z with z | z
      · exact n z
      · rw [z, nx] at h; cases h
  refine ⟨fun b => OO F σ env b ∨ b = x, .obj c [] :: ds, ⟨?_, ?_, ?_, ?_, ?_, ?_, ?_⟩, ?_⟩
  · rw [List.length_cons, f.length]; exact hn
  · rw [List.length_cons]; exact hn
  · rintro b (z | z)
    · exact e1.dom b (e0.dom b (I.alive b z))
    · rw [z]; exact ⟨_, upd_same, fun _ y => nomatch y⟩
  · have := Ig.tabs
    rw [← ok.T]; exact this
  · intro i d h hi
    rw [hio] at hi
    cases i with
    | zero => simp at hi
    | succ i =>
      obtain ⟨v, h1, h2⟩ := fg.get (i := i) (by simpa using h)
      exact ⟨v, by simpa using h1, by rw [ok.G] at h2; exact h2⟩
  · intro i d h hi
    rw [hio] at hi
    have hi0 : i = 0 := by simpa using hi
    subst hi0
    simp only [List.getElem?_cons_zero, Option.some.injEq] at h
    subst h
    exact ⟨x, rfl, .inr rfl, .obj upd_same .nil⟩
  · intro i j b hi hj _ _
    rw [hio] at hi hj
    have h1 : i = 0 := by simpa using hi
    have h2 : j = 0 := by simpa using hj
    rw [h1, h2]
  · cases hg : g (.obj c [] :: ds) with
    | err => rw [hg] at w; exact w.elim
    | exc cx outs =>
      rw [hg] at w
      intro d2 H' P
      cases outs with
      | nil => exact w.elim
      | cons o outs =>
        have w' : Wish F W σ H env (if outs.all (lentOut es ds) then (.exc cx (putBack es outs env) : R D) else .err) _ := w
        split at w'
        · rw [n3] at w'
          have := w' d2 H' (back H' _ P).2
          rw [ok.G] at this
          exact this
        · exact w'.elim
    | ok r outs =>
      rw [hg] at w
      intro v H' P fr _
      cases r with
      | non =>
        cases outs with
        | nil => exact w.elim
        | cons o outs =>
          have w' : Wish F W σ H env (if lentOk es ds o && outs.all (lentOut es ds) then (.ok o (putBack es outs env) : R D) else .err) _ := w
          split at w'
          · rw [n3] at w'
            cases fr
            obtain ⟨I1, P1⟩ := back H' _ P
            obtain ⟨q, q1, cq⟩ := P.out 0 0 o (by rw [hio]; rfl) rfl
            simp only [List.getElem?_cons_zero, Option.some.injEq, V.ref.injEq] at q1
            subst q1
            have nxo : ¬ OO F σ env x := I.free (Av.none nx)
            have hs0 : ¬ Av Hs x := fun z => Av.none nx (dom x z)
            rw [← ok.G] at cq
            refine ⟨rfl, w' H' P1 (.ref x) ⟨(cq.carry (.mono fun b z => .inl z) rfl).fr nxo, fun _ _ => ⟨x, rfl, hs0, nxo, cq.carry (.mono fun b z => (guard_oo b).mp z) rfl, I1⟩⟩⟩
          · exact w'.elim
      | _ => exact w.elim
/-- the defs of the classes' __init__ -/
theorem s_make (C : Cok p N tl sc k X W) {c f : Nat} {df : Def} {as : List Expr} {q : Pos} (hi : p.pg.tb.init c = some f) (hdf : p.pg.defs f = some df) (hg : gloB sc (p.cn c) = true) (hpn : plainName (p.cn c) = true)
    (h : PEs X as (tOs p ow p.pg.tb (lev p.pg k) W es)) (hl : noLate es = true) (hio : df.io = [0]) (hn : esLen es + 1 = df.np) : PE X (.Call (.Name (p.cn c) q) as [] pos) (tE p ow p.pg.tb (lev p.pg k) W (.make c es)) := by
  obtain ⟨g1, g2, df', g3⟩ := C.facts.init c f hi
  simp only [plainName, Bool.and_eq_true, Bool.not_eq_true'] at hpn
  cases k with
  | zero =>
    have hz : ∀ σ H Q, tE p ow p.pg.tb (lev p.pg 0) W (.make c es) σ H Q → tAs (tOs p ow p.pg.tb (lev p.pg 0) W es) σ H (fun _ _ => False) := fun σ H Q ⟨F, env, ok, IF, w⟩ => by
      rw [evE] at w
      refine es_run ok es IF w.bind fun ds env' H' vs P r w => ?_
      rw [hi] at w
      exact w
    refine PEimp (t := fun σ H Q => tAs (tOs p ow p.pg.tb (lev p.pg 0) W es) σ H (fun _ _ => False)) ⟨fun pins s σ H Q I hh => ?_⟩ hz
    refine wpAny_Call_Name_kw (ld_glob I (C.gl hg) g1 ?_ hpn.1.1)
    cases as with
    | nil =>
      generalize hts : tOs p ow p.pg.tb (lev p.pg 0) W es = ts at h hh
      cases h
      exact hh.elim
    | cons e es' => exact callWith_K (h₀ := X.base) I.ok.mod.kin g2.kp (thn (h.pa.run pos pins s σ H _ I hh) fun us s1 ⟨vs, H1, I1, r, q⟩ => q.elim) (h.hd pos).1 (h.hd pos).2
  | succ k =>
    refine PEimp (pe_makeS (k := k) g2 (C.facts.fn k (Nat.le_succ k) f df hdf) C.room (C.gl hg) g1 (C.facts.bi f df hdf) (fun σ => passAt C.tk σ) h hpn.1.1) fun σ H Q ⟨F, env, ok, I, w⟩ => ?_
    rw [evE] at w
    refine es_run ok es I w.bind fun ds env' H' vs P r w => ?_
    rw [hi] at w
    intro x dx nx nd ne
    exact make_sp ok P.fi (r.frs hl) hio (by rw [r.len.2]; exact hn) nx nd ne P.domL hl w
theorem s_fld (C : Cok p N tl sc k X W) {f : Nat} {a : Expr} {e : E} (hc : isCall a = false) (ha : PE X a (tO p ow p.pg.tb cf W e)) (hl : lateIn ow (.cons e .nil) = true) : PE X (.Attribute a (p.G.fnm f) pos) (tE p ow p.pg.tb cf W (.fld (.cons e .nil) f)) := by
  refine PEimp (pe_fld ha (attrBase hc _ _)) fun σ H Q ⟨F, env, ok, I, w⟩ => ?_
  rw [evE] at w
  have h := es_run ok (.cons e .nil) (Q := fun vs H' => match vs with
    | [x] => ∃ a C dx fs v, x = .ref a ∧ H' a = some (.ins C dx fs) ∧ Cls X.K C ∧ NoAttr X.K C (p.G.fnm f) ∧ fs.lookup (p.G.fnm f) = some v ∧ Q v H'
    | _ => True) I w.bind fun ds env' H' vs P r w => by
    have b := OR.brs P.fi (by rw [ok.ow]; exact hl) r
    cases b with
    | nil => trivial
    | cons b1 b2 =>
      cases b2 with
      | cons _ _ => trivial
      | nil =>
        split at w
        · rename_i c fs hd
          cases hd
          split at w
          · rename_i hf
            obtain ⟨d, hd, w⟩ := w.of
            obtain ⟨a, dx, vs, rfl, e1, r1⟩ := b1.obj
            obtain ⟨h1, h2⟩ := C.facts.fld c f hf
            rw [ok.G] at e1 r1
            obtain ⟨v, hv, fv⟩ := r1.look (fun g' e => C.facts.inj f g' e) hd
            exact ⟨a, _, dx, vs, v, rfl, e1, h1, h2, hv, w H' (.refl P.fi) v (VR.old (by rw [ok.G]; exact fv))⟩
          · exact w.elim
        · exact w.elim
  exact h
end
end Bh
/-! text Bh5i -/
set_option Elab.async false
set_option linter.all false
set_option maxRecDepth 100000
set_option maxHeartbeats 1000000
/-! Bh5i: targets, what is walked, methods of lists. -/
namespace Bh
open PySem PySem.W L2 PyProof.Rows
/-! ### targets -/
/-- off the slots is, the two are one -/
structure SameOff (is : List Nat) (σ σ' : L2.St) : Prop where
  len : σ'.length = σ.length
  off : ∀ j, j ∉ is → σ'[j]? = σ[j]?
theorem SameOff.refl {is : List Nat} {σ : L2.St} : SameOff is σ σ := ⟨rfl, fun _ _ => rfl⟩
theorem wipe_get {σ : L2.St} {j : Nat} : ∀ {is : List Nat}, (L2.wipe σ is)[j]? = if j ∈ is ∧ j < σ.length then some none else σ[j]?
  | [] => by simp [L2.wipe]
  | i :: is => by
    unfold L2.wipe
    by_cases h : j = i
    · subst h
      by_cases hl : j < σ.length
      · rw [List.getElem?_set_self (by rw [wipe_length]; exact hl), if_pos ⟨List.mem_cons_self, hl⟩]
      · rw [List.getElem?_eq_none (by rw [List.length_set, wipe_length]; omega), if_neg (fun z => hl z.2), List.getElem?_eq_none (by omega)]
    · rw [List.getElem?_set_ne (Ne.symm h), wipe_get]
      simp [h]
theorem SameOff.wipe {is : List Nat} {σ σ' : L2.St} (h : SameOff is (L2.wipe σ is) σ') : L2.wipe σ' is = L2.wipe σ is := by
  apply List.ext_getElem?
  intro j
  rw [wipe_get, wipe_get, h.len, wipe_length]
  by_cases hj : j ∈ is
  · by_cases hl : j < σ.length
    · rw [if_pos ⟨hj, hl⟩, if_pos ⟨hj, hl⟩]
    · rw [if_neg (fun z => hl z.2), if_neg (fun z => hl z.2), List.getElem?_eq_none (by rw [h.len, wipe_length]; omega), List.getElem?_eq_none (by omega)]
  · rw [if_neg (fun z => hj z.1), if_neg (fun z => hj z.1), h.off j hj, wipe_get, if_neg (fun z => hj z.1)]
/-- the values of names, one by one -/
def gNames : List Nat → TGs
  | [] => gNil
  | i :: is => gCons (gName i) (gNames is)
def tG (K : Frag) : T → TG
  | .one i => gName i
  | .many is => fun v σ H Q => gTup K is.length (gNames is) v σ H Q ∨ gUnl K is.length (gNames is) v σ H Q
/-- a pair of a slot and a target -/
def tgtIs (N : List Str) (sc : Scope) (i : Nat) : Expr → Bool
  | .Name x _ => decide (N[i]? = some x) && locB sc x
  | _ => false
def tgtsAre (N : List Str) (sc : Scope) : List Nat → List Expr → Bool
  | [], [] => true
  | i :: is, e :: es => tgtIs N sc i e && tgtsAre N sc is es
  | _, _ => false
def mT (N : List Str) (sc : Scope) : T → Expr → Bool
  | .one i, e => tgtIs N sc i e
  | .many is, .Tuple es _ _ => tgtsAre N sc is es
  | _, _ => false
section
variable {p : Pr} {N : List Str} {ow : List Nat} {tl : Bool} {sc : Scope} {F : Fm} {k : Nat} {X : Cx} {W : WX} {cf : CF} {tb : Tb} {pos : Pos} {es : Es}
/-- names can be set here -/
structure Sets (N : List Str) (sc : Scope) (X : Cx) : Prop where
  nm : X.N = N
  nd : X.N.Nodup
  calm : X.calm = true
  st : ∀ x, L2.Loc sc x → L2.Loc X.env.scope x ∧ (X.fn x = true ∨ X.env.scope.names.lookup x = some .local)
theorem pg_one (C : Sets N sc X) {i : Nat} {e : Expr} (h : tgtIs N sc i e = true) : PG X e (gName i) := by
  unfold tgtIs at h
  split at h
  · simp only [Bool.and_eq_true, decide_eq_true_eq] at h
    have hl := locB_loc h.2
    exact pg_name C.nd (by rw [C.nm]; exact h.1) (C.st _ hl).1 (C.st _ hl).2
  · cases h
theorem assignEach_cons {e : Expr} (h : isStar e = false) (es : List Expr) (env : PySem.Env) : assignEach (e :: es) env = (false, assign e env) :: assignEach es env := by
  cases e <;> first | rfl | (simp [isStar] at h)
theorem tgt_star {i : Nat} {e : Expr} (h : tgtIs N sc i e = true) : isStar e = false := by
  cases e <;> first | rfl | (simp [tgtIs] at h)
theorem pgs_names (C : Sets N sc X) : ∀ {is : List Nat} {es : List Expr}, tgtsAre N sc is es = true → PGs X es (gNames is) ∧ (assignEach es X.env).length = is.length ∧ (assignEach es X.env).findIdx? (·.1) = none
  | [], [], _ => ⟨pgs_nil, rfl, rfl⟩
  | i :: is, e :: es, h => by
    simp only [tgtsAre, Bool.and_eq_true] at h
    obtain ⟨h1, h2, h3⟩ := pgs_names C h.2
    have e1 := assignEach_cons (tgt_star h.1) es X.env
    refine ⟨pgs_cons (pg_one C h.1) h1 (by rw [e1]; rfl), by rw [e1, List.length_cons, h2, List.length_cons], ?_⟩
    rw [e1, List.findIdx?_cons]
    simp [h3]
  | [], _ :: _, h => by simp [tgtsAre] at h
  | _ :: _, [], h => by simp [tgtsAre] at h
theorem pg_T (C : Sets N sc X) {t : T} {e : Expr} (h : mT N sc t e = true) : PG X e (tG X.K t) := by
  unfold mT at h
  split at h
  · exact pg_one C h
  · obtain ⟨h1, h2, h3⟩ := pgs_names C h
    exact ⟨fun pins s σ H v u Q I r q => q.elim (fun q => (pg_tup C.calm h1 h2 h3).run pins s σ H v u Q I r q) fun q => (pg_unl C.calm h1 h2 h3).run pins s σ H v u Q I r q⟩
  · cases h
/-- data are put into a slot: the frame, the slots -/
theorem set_one {σ : L2.St} {H : Hp} {env : Env} {i : Nat} {v : V} {d : D} (I : FI F σ H env) (hi : i ∉ F.ow) (f : FR F.G H (OO F σ env) v d) :
    FI F (σ.set i (some v)) H (env.put i d) ∧ (∀ a, OO F (σ.set i (some v)) (env.put i d) a ↔ OO F σ env a) ∧ (∀ a, ownA F.ow (σ.set i (some v)) (env.put i d) a ↔ ownA F.ow σ env a) := by
  by_cases hl : i < env.length
  case neg =>
    have e1 : env.put i d = env := List.set_eq_of_length_le (by omega)
    have e2 : σ.set i (some v) = σ := List.set_eq_of_length_le (by rw [← I.len]; omega)
    rw [e1, e2]
    exact ⟨I, fun _ => Iff.rfl, fun _ => Iff.rfl⟩
  obtain ⟨h1, h2⟩ := I.put hi hl f
  refine ⟨h1, h2, fun a => ?_⟩
  have ne : ∀ j, j ∈ F.ow → j ≠ i := fun j hj z => hi (z ▸ hj)
  unfold ownA
  constructor
  · rintro ⟨j, hj, ⟨e, he⟩, h⟩
    rw [get_put hl, if_neg (ne j hj)] at he
    rw [List.getElem?_set_ne (Ne.symm (ne j hj))] at h
    exact ⟨j, hj, ⟨e, he⟩, h⟩
  · rintro ⟨j, hj, ⟨e, he⟩, h⟩
    refine ⟨j, hj, ⟨e, ?_⟩, ?_⟩
    · rw [get_put hl, if_neg (ne j hj)]; exact he
    · rw [List.getElem?_set_ne (Ne.symm (ne j hj))]; exact h
/-- a target's reading -/
theorem names_run : ∀ (is : List Nat) (ds : List D) (vs : List V) {σ : L2.St} {H : Hp} {env : Env} {Q : L2.St → Hp → Prop}, FI F σ H env → FRs F.G H (OO F σ env) vs ds → is.length = ds.length → (∀ i ∈ is, i ∉ F.ow) →
    (∀ σ', FI F σ' H ((is.zip ds).foldl (fun e p => e.put p.1 p.2) env) → SameOff is σ σ' → (∀ a, OO F σ' ((is.zip ds).foldl (fun e p => e.put p.1 p.2) env) a ↔ OO F σ env a) → (∀ a, ownA F.ow σ' ((is.zip ds).foldl (fun e p => e.put p.1 p.2) env) a ↔ ownA F.ow σ env a) → Q σ' H) →
    gNames is vs σ H Q
  | [], [], [], σ, H, env, Q, I, _, _, _, q => ⟨rfl, q σ I .refl (fun _ => Iff.rfl) fun _ => Iff.rfl⟩
  | i :: is, d :: ds, v :: vs, σ, H, env, Q, I, .cons f r, hl, ho, q => by
    obtain ⟨I1, o1, w1⟩ := set_one I (ho i List.mem_cons_self) f
    refine ⟨v, vs, rfl, ?_⟩
    show gNames is vs (σ.set i (some v)) H Q
    have st : Stp H (OO F σ env) H (OO F (σ.set i (some v)) (env.put i d)) := .mono fun a z => (o1 a).mp z
    refine names_run is ds vs I1 (r.carry st) (by simpa using hl) (fun j hj => ho j (List.mem_cons_of_mem _ hj)) fun σ' I' so oo wo => ?_
    refine q σ' I' ⟨so.len.trans (by rw [List.length_set]), fun j hj => ?_⟩ (fun a => (oo a).trans (o1 a)) fun a => (wo a).trans (w1 a)
    have h1 : j ≠ i := fun z => hj (z ▸ List.mem_cons_self)
    have h2 : j ∉ is := fun z => hj (List.mem_cons_of_mem _ z)
    rw [so.off j h2, List.getElem?_set_ne (Ne.symm h1)]
  | [], [], _ :: _, _, _, _, _, _, r, _, _, _ => nomatch r
  | [], _ :: _, _, _, _, _, _, _, _, hl, _, _ => by simp at hl
  | _ :: _, [], _, _, _, _, _, _, _, hl, _, _ => by simp at hl
theorem tG_run {t : T} {σ : L2.St} {H : Hp} {env env1 : Env} {v : V} {d : D} {Q : L2.St → Hp → Prop} (hK : F.G.K = X.K) (I : FI F σ H env) (f : FR F.G H (OO F σ env) v d) (hb : bindT t d env = some env1) (ho : ∀ i ∈ t.slots, i ∉ F.ow)
    (q : ∀ σ', FI F σ' H env1 → SameOff t.slots σ σ' → (∀ a, OO F σ' env1 a ↔ OO F σ env a) → (∀ a, ownA F.ow σ' env1 a ↔ ownA F.ow σ env a) → Q σ' H) : tG X.K t v σ H Q := by
  cases t with
  | one i =>
    cases hb
    obtain ⟨I1, o1, w1⟩ := set_one I (ho i List.mem_cons_self) f
    exact q _ I1 ⟨List.length_set, fun j hj => List.getElem?_set_ne fun z => hj (by rw [← z]; exact List.mem_cons_self)⟩ o1 w1
  | many is =>
    obtain ⟨xs, hx, hb⟩ := Option.bind_eq_some_iff.mp (show ((itemsD d).bind fun xs => if xs.length = is.length then some ((is.zip xs).foldl (fun e p => e.put p.1 p.2) env) else none) = some env1 from hb)
    split at hb
    · rename_i hlen
      cases hb
      obtain ⟨a, vs, rfl, r, s⟩ := (show BR F.G H (OO F σ env) v d from .inl f).items hK hx
      rcases s with ⟨s, _⟩ | ⟨s, _⟩
      · exact .inr ⟨a, vs, rfl, s, by rw [r.length]; exact hlen, names_run is _ vs I r hlen.symm ho q⟩
      · exact .inl ⟨a, vs, rfl, s, by rw [r.length]; exact hlen, names_run is _ vs I r hlen.symm ho q⟩
    · cases hb
/-! ### what is walked -/
/-- what is walked stands -/
def AnP (G : Gx) (pv : Option (V × D)) (H : Hp) (O : Addr → Prop) : Prop := match pv with
  | none => True
  | some q => FR G H O q.1 q.2
theorem AnP.carry {G : Gx} {pv : Option (V × D)} {H H' : Hp} {O O' : Addr → Prop} (h : AnP G pv H O) (s : Stp H O H' O') : AnP G pv H' O' := by
  cases pv with
  | none => trivial
  | some q => exact FR.carry s h
structure IsJ (G : Gx) (J : L2.It) (ds : List D) (pv : Option (V × D)) : Prop where
  go : ∀ {H O i d}, AnP G pv H O → ds[i]? = some d → J.go i H ∧ ∀ x H', J.yld i H x H' → H' = H ∧ FR G H O x d
  stop : ∀ {H O}, AnP G pv H O → J.stop ds.length H
def tI (p : Pr) (ow : List Nat) (tb : Tb) (cf : CF) (W : WX) (it : It) : TI := fun σ H R =>
  ∃ F env, FOk p ow F ∧ FI F σ H env ∧ Wish F W σ H env (evI tb cf it env) fun ds env' H' => ∀ J pv, IsJ F.G J ds pv → AnP F.G pv H' (OO F σ env') → R J H'
theorem isJ_list {G : Gx} {K : Frag} (hK : G.K = K) {a : Addr} {ds : List D} : IsJ G (Itl K a) ds (some (.ref a, .lst ds)) where
  go := fun {H O i d} h e => by
    have h : FR G H O (.ref a) (.lst ds) := h
    cases h with
    | lst e1 n r =>
      obtain ⟨v, h1, h2⟩ := r.get e
      refine ⟨⟨_, v, SqL.of e1, h1⟩, fun x H' y => ⟨y.1, ?_⟩⟩
      have := y.2 _ (SqL.of e1)
      rw [h1] at this
      cases this
      exact h2
  stop := fun {H O} h => by
    have h : FR G H O (.ref a) (.lst ds) := h
    cases h with
    | lst e1 n r => exact ⟨_, SqL.of e1, by rw [r.length]; exact Nat.le_refl _⟩
theorem isJ_tup {G : Gx} {K : Frag} (hK : G.K = K) {a : Addr} {ds : List D} : IsJ G (Itt K a) ds (some (.ref a, .tup ds)) where
  go := fun {H O i d} h e => by
    have b : BR G H O (.ref a) (.tup ds) := .inl h
    obtain ⟨q, vs, e1, s, r⟩ := b.tup
    cases e1
    obtain ⟨v, h1, h2⟩ := r.get e
    refine ⟨⟨_, v, hK ▸ s, h1⟩, fun x H' y => ⟨y.1, ?_⟩⟩
    have := y.2 _ (hK ▸ s)
    rw [h1] at this
    cases this
    exact h2
  stop := fun {H O} h => by
    have b : BR G H O (.ref a) (.tup ds) := .inl h
    obtain ⟨q, vs, e1, s, r⟩ := b.tup
    cases e1
    exact ⟨_, hK ▸ s, by rw [r.length]; exact Nat.le_refl _⟩
theorem isJ_rng {G : Gx} {lo : Int} {hi : Int} : IsJ G (Itr lo (hi - lo).toNat) (rangeD lo hi) none where
  go := fun {H O i d} _ e => by
    unfold rangeD at e
    obtain ⟨j, h1, h2⟩ := List.mem_of_getElem? e |> List.mem_map.mp
    have hlt : i < (hi - lo).toNat := by
      have := (List.getElem?_eq_some_iff.mp e).1
      simpa using this
    refine ⟨hlt, fun x H' y => ⟨y.1, ?_⟩⟩
    rw [y.2]
    rw [List.getElem?_map, List.getElem?_range hlt] at e
    cases e
    exact .int _
  stop := fun {H O} _ => by
    show (hi - lo).toNat ≤ (rangeD lo hi).length
    unfold rangeD
    simp
theorem PIimp {tg e : Expr} {w w' : TI} (h : PI X tg e w) (q : ∀ σ H R, w' σ H R → w σ H R) : PI X tg e w' := ⟨fun pins s σ H R I z => h.run pins s σ H R I (q σ H R z)⟩
theorem pi_both {tg l : Expr} {tl' : TE} (hl : PE X l tl') : PI X tg l (fun σ H R => tl' σ H fun x H1 => (∃ a, x = .ref a ∧ (∃ xs, SqL X.K H1 a xs) ∧ R (Itl X.K a) H1) ∨ ∃ a, x = .ref a ∧ (∃ xs, SqT X.K H1 a xs) ∧ R (Itt X.K a) H1) := by
  refine ⟨fun pins s σ H R I h => ?_⟩
  refine thn (hl.run pins s σ H _ I h) fun v s1 ⟨x, H1, I1, r1, q1⟩ => ?_
  rcases q1 with ⟨a, e, ⟨xs, hq⟩, q⟩ | ⟨a, e, ⟨xs, hq⟩, q⟩
  · subst e
    cases r1
    obtain ⟨its, rv, p, hz⟩ := I1.list hq
    refine wpAny_pyIter_list p.isList ?_
    refine ⟨s1.heap.objs.size, [s1.heap.objs.size], _, _, H1, rfl, I1.kept (t' := s1.toks) fun b o e => Heap.get?_push_of_some _ e, turn_list a _, ⟨_, Heap.get?_push_size _ rfl, rfl, rfl⟩, fun b hb => ?_, q⟩
    have e : b = s1.heap.objs.size := by simpa using hb
    subst e
    exact I1.fpOk (Nat.le_refl _) (I1.hok.fresh (Nat.le_refl _))
  · subst e
    cases r1
    obtain ⟨its, rv, p, hz⟩ := I1.tuple hq
    refine wpAny_pyIter_tuple (show s1.heap.IsTuple a its.toArray from p) ?_
    refine ⟨s1.heap.objs.size, [s1.heap.objs.size], _, _, H1, rfl, I1.kept (t' := s1.toks) fun b o e => Heap.get?_push_of_some _ e, turn_tuple a _, ⟨_, Heap.get?_push_size _ rfl, rfl, rfl⟩, fun b hb => ?_, q⟩
    have e : b = s1.heap.objs.size := by simpa using hb
    subst e
    exact I1.fpOk (Nat.le_refl _) (I1.hok.fresh (Nat.le_refl _))
theorem i_seq (C : Cok p N tl sc k X W) {e : E} {l tg : Expr} (h : PE X l (tE p ow tb cf W e)) : PI X tg l (tI p ow tb cf W (.seq e)) := by
  refine PIimp (pi_both h) fun σ H R ⟨F, env, ok, I, w⟩ => ?_
  rw [evI] at w
  refine ⟨F, env, ok, I, w.bind.imp fun d env' H' P w v r => ?_⟩
  obtain ⟨ds, e, w⟩ := w.of
  have hK : F.G.K = X.K := by rw [ok.G]; exact C.facts.hK
  have f := r.1
  unfold itemsD at e
  split at e
  · cases e
    cases f with
    | lst e1 n r => exact .inl ⟨_, rfl, ⟨_, SqL.of e1⟩, w H' (.refl P.fi) _ _ (isJ_list hK) (.lst e1 n r)⟩
  · cases e
    obtain ⟨q, vs, e1, s, r⟩ := (show BR F.G H' (OO F σ env') v (.tup _) from .inl f).tup
    subst e1
    exact .inr ⟨q, rfl, ⟨_, hK ▸ s⟩, w H' (.refl P.fi) _ _ (isJ_tup hK) f⟩
  · cases e
theorem rngOk_of {a b : Int} (h : rngOk a b = true) : (-(2 ^ 62) ≤ a ∧ a < 2 ^ 62) ∧ -(2 ^ 62) ≤ b ∧ b < 2 ^ 62 := by
  simp only [rngOk, Bool.and_eq_true, decide_eq_true_eq] at h
  omega
theorem i_rng1 (C : Cok p N tl sc k X W) {e : E} {a tg : Expr} {q : Pos} (hg : gloB sc "range" = true) (h : PE X a (tE p ow tb cf W e)) (hs : isStar a = false) : PI X tg (.Call (.Name "range" q) [a] [] pos) (tI p ow tb cf W (.rng1 e)) := by
  refine PIimp (pi_range1 (C.gl hg) C.facts.rng (pa_cons h pa_nil (starEach_cons hs _ _)) (starEach_cons hs _ _)) fun σ H R ⟨F, env, ok, I, w⟩ => ?_
  rw [evI] at w
  refine ⟨F, env, ok, I, w.bind.imp fun d env' H' P w v r => ?_⟩
  have f := r.1
  split at w
  · split at w
    · rename_i hr
      cases f
      have hb := rngOk_of hr
      refine ⟨_, rfl, hb.2.1, hb.2.2, ?_⟩
      have := w H' (.refl P.fi) _ _ (isJ_rng (lo := 0)) trivial
      simpa using this
    · exact w.elim
  · exact w.elim
theorem i_rng2 (C : Cok p N tl sc k X W) {a b tg : Expr} {q : Pos} (hg : gloB sc "range" = true) (h : PEs X [a, b] (tOs p ow tb cf W es)) (hl : lateIn ow es = true) : PI X tg (.Call (.Name "range" q) [a, b] [] pos) (tI p ow tb cf W (.rng2 es)) := by
  have h1 := (h.hd pos).1
  have h2 : starEach [b] X.env = [(false, eval b X.env)] := by
    generalize tOs p ow tb cf W es = ts at h
    cases h with
    | cons _ _ r => cases r with
      | cons _ s _ => exact starEach_cons s _ _
  refine PIimp (pi_range2 (C.gl hg) C.facts.rng h.pa (by rw [h1, h2]) h2) fun σ H R ⟨F, env, ok, I, w⟩ => ?_
  rw [evI] at w
  refine es_run ok es I w.bind fun ds env' H' vs P r w => ?_
  have b := r.brs P.fi (by rw [ok.ow]; exact hl)
  split at w
  · split at w
    · rename_i hr
      obtain ⟨x, y, rfl, b1, b2⟩ := b.of_two
      have e1 := b1.int
      have e2 := b2.int
      subst e1; subst e2
      have hb := rngOk_of hr
      exact ⟨_, _, rfl, ⟨hb.1.1, hb.1.2, hb.2.1, hb.2.2⟩, w H' (.refl P.fi) _ _ isJ_rng trivial⟩
    · exact w.elim
  · exact w.elim
end
end Bh
/-! text Bh5j -/
set_option Elab.async false
set_option linter.all false
set_option maxRecDepth 100000
set_option maxHeartbeats 1000000
/-! Bh5j: comprehensions. -/
namespace Bh
open PySem PySem.W L2 PyProof.Rows
theorem ewipe_len (env : Env) : ∀ is : List Nat, (env.wipe is).length = env.length
  | [] => rfl
  | i :: is => by unfold Env.wipe; rw [List.length_set, ewipe_len env is]
theorem ewipe_get {env : Env} {j : Nat} : ∀ {is : List Nat}, (env.wipe is).get j = if j ∈ is then none else env.get j
  | [] => by simp [Env.wipe]
  | i :: is => by
    unfold Env.wipe
    rw [get_off, ewipe_get]
    by_cases h : j = i
    · simp [h]
    · simp [h]
theorem eback_len (env env0 : Env) : ∀ is : List Nat, (env.back env0 is).length = env.length
  | [] => rfl
  | i :: is => by unfold Env.back; rw [List.length_set, eback_len env env0 is]
theorem eback_get {env env0 : Env} (hl : env.length = env0.length) {j : Nat} : ∀ {is : List Nat}, (env.back env0 is).get j = if j ∈ is then env0.get j else env.get j
  | [] => by simp [Env.back]
  | i :: is => by
    unfold Env.back
    by_cases h : j = i
    · subst h
      rw [if_pos List.mem_cons_self]
      unfold Env.get
      by_cases hj : j < env.length
      · rw [List.getElem?_set_self (by rw [eback_len]; exact hj)]
        rfl
      · rw [List.getElem?_eq_none (by rw [List.length_set, eback_len]; omega), List.getElem?_eq_none (by omega)]
    · have e1 : Env.get ((env.back env0 is).set i (env0.get i)) j = (env.back env0 is).get j := by
        unfold Env.get
        rw [List.getElem?_set_ne (Ne.symm h)]
      rw [e1, eback_get hl]
      simp [h]
def W0 : WX := fun _ _ _ _ => False
def tCd (p : Pr) (ow : List Nat) (tb : Tb) (cf : CF) : Option E → TT
  | none => tYes
  | some c => tT p ow tb cf W0 c
section
variable {p : Pr} {N : List Str} {ow : List Nat} {tl : Bool} {sc : Scope} {F : Fm} {k : Nat} {X : Cx} {W : WX} {cf : CF} {tb : Tb} {pos : Pos} {es : Es}
structure LcI (F : Fm) (σ : L2.St) (H1 : Hp) (env0 : Env) (is : List Nat) (D : Addr) (H : Hp) (env : Env) (acc : List Bh.D) : Prop where
  fi : FI (F.guard D) (L2.wipe σ is) H (env.wipe is)
  acc : ∃ vs, H D = some (.lst vs) ∧ FRs F.G H (OO (F.guard D) (L2.wipe σ is) (env.wipe is)) vs acc
  stp : Stp H1 (OO F σ env0) H (OO (F.guard D) (L2.wipe σ is) (env.wipe is))
  ow : ∀ a, ownA F.ow (L2.wipe σ is) (env.wipe is) a → ownA F.ow σ env0 a
  kx : ∀ a o, H1 a = some o → ¬ ownA F.ow σ env0 a → Nt o → H a = some o
variable {σ : L2.St} {H1 H : Hp} {env0 env : Env} {is : List Nat} {D : Addr} {acc : List Bh.D}
theorem FI.wipes {F : Fm} (I : FI F σ H env) (ho : ∀ i ∈ is, i ∉ F.ow) : FI F (L2.wipe σ is) H (env.wipe is) ∧ ∀ a, OO F (L2.wipe σ is) (env.wipe is) a ↔ OO F σ env a :=
  I.slots (by rw [ewipe_len, wipe_length]; exact I.len) (fun i hi => ⟨by rw [wipe_get, if_neg (fun z => ho i z.1 hi)], by rw [ewipe_get, if_neg (fun z => ho i z hi)]⟩) fun i d hi h => by
    rw [ewipe_get] at h
    split at h
    · cases h
    · rename_i hn
      obtain ⟨v, a, b⟩ := I.fr i d h hi
      exact ⟨v, by rw [wipe_get, if_neg (fun z => hn z.1)]; exact a, b⟩
theorem own_wipes {ow : List Nat} (ho : ∀ i ∈ is, i ∉ ow) (a : Addr) : ownA ow (L2.wipe σ is) (env.wipe is) a ↔ ownA ow σ env a := by
  unfold ownA
  constructor
  · rintro ⟨j, hj, ⟨e, he⟩, h⟩
    rw [ewipe_get, if_neg (fun z => ho j z hj)] at he
    rw [wipe_get, if_neg (fun z => ho j z.1 hj)] at h
    exact ⟨j, hj, ⟨e, he⟩, h⟩
  · rintro ⟨j, hj, ⟨e, he⟩, h⟩
    refine ⟨j, hj, ⟨e, ?_⟩, ?_⟩
    · rw [ewipe_get, if_neg (fun z => ho j z hj)]; exact he
    · rw [wipe_get, if_neg (fun z => ho j z.1 hj)]; exact h
theorem lc_init (I : FI F σ H1 env0) (ho : ∀ i ∈ is, i ∉ F.ow) (n : H1 D = none) : LcI F σ H1 env0 is D (upd H1 D (.lst [])) env0 [] := by
  have Ig := I.guard (o := .lst []) n
  obtain ⟨I2, o2⟩ := Ig.wipes (is := is) ho
  refine ⟨I2, ⟨[], upd_same, .nil⟩, ⟨fun a o h _ _ => Ext.upd n a o h, fun a z => ?_, (Ext.upd n).dom⟩, fun a z => (own_wipes ho a).mp z, fun a o h _ _ => Ext.upd n a o h⟩
  rcases (guard_oo a).mp ((o2 a).mp z) with z | z
  · exact .inl z
  · exact .inr (z ▸ Av.none n)
/-- within a turn -/
theorem LcI.move (L : LcI F σ H1 env0 is D H env acc) (ho : ∀ i ∈ is, i ∉ F.ow) {σ2 : L2.St} {env1 env2 : Env} {H2 : Hp} (so : SameOff is (L2.wipe σ is) σ2) (oo : ∀ a, OO (F.guard D) σ2 env1 a ↔ OO (F.guard D) (L2.wipe σ is) (env.wipe is) a)
    (wo : ∀ a, ownA F.ow σ2 env1 a ↔ ownA F.ow (L2.wipe σ is) (env.wipe is) a) (n1 : H1 D = none) (I0 : FI F σ H1 env0) (P : Post (F.guard D) σ2 H env1 H2 env2) : LcI F σ H1 env0 is D H2 env2 acc := by
  obtain ⟨I2, o2⟩ := P.fi.wipes (is := is) ho
  rw [so.wipe] at I2 o2
  have st : Stp H (OO (F.guard D) (L2.wipe σ is) (env.wipe is)) H2 (OO (F.guard D) (L2.wipe σ is) (env2.wipe is)) := ⟨fun a o h t m => P.stp.keep a o h t fun z => m ((oo a).mp z), fun a z => .inl ((oo a).mp (P.os a ((o2 a).mp z))), P.stp.dom⟩
  have w2 : ∀ a, ownA F.ow (L2.wipe σ is) (env2.wipe is) a → ownA F.ow (L2.wipe σ is) (env.wipe is) a := fun a z => by
    rw [← so.wipe] at z
    exact (wo a).mp (P.ow a ((own_wipes ho a).mp z))
  have kx2 : ∀ a o, H a = some o → ¬ ownA F.ow (L2.wipe σ is) (env.wipe is) a → Nt o → H2 a = some o := fun a o h m t => P.kx a o h (fun z => m ((wo a).mp z)) t
  obtain ⟨vs, hD, hf⟩ := L.acc
  have nown : ¬ ownA F.ow (L2.wipe σ is) (env.wipe is) D := fun z => I0.free (Av.none n1) (.inr (L.ow D z))
  exact ⟨I2, ⟨vs, kx2 D _ hD nown (fun _ z => nomatch z), hf.carry st⟩, L.stp.trans st, fun a z => L.ow a (w2 a z), fun a o h m t => kx2 a o (L.kx a o h m t) (fun z => m (L.ow a z)) t⟩
/-- the list grows -/
theorem LcI.grow (L : LcI F σ H1 env0 is D H env acc) (n1 : H1 D = none) (I0 : FI F σ H1 env0) {v : V} {d : Bh.D} (f : FR F.G H (OO (F.guard D) (L2.wipe σ is) (env.wipe is)) v d) :
    ∃ vs, H D = some (.lst vs) ∧ vs.length = acc.length ∧ LcI F σ H1 env0 is D (upd H D (.lst (vs ++ [v]))) env (acc ++ [d]) := by
  obtain ⟨vs, hD, hf⟩ := L.acc
  have nO : ¬ OO F (L2.wipe σ is) (env.wipe is) D := fun z => by
    rcases z with z | z
    · exact Av.none n1 (I0.live D z)
    · exact I0.free (Av.none n1) (.inr (L.ow D z))
  have h0 : ¬ Av F.H0 D := fun z => Av.none n1 (I0.sub D z)
  have hp : OO (F.guard D) (L2.wipe σ is) (env.wipe is) D := (guard_oo D).mpr (.inr rfl)
  have dm : ∀ a, Av H a → Av (upd H D (.lst (vs ++ [v]))) a := av_upd fun _ z => nomatch z
  have st : Stp H (OO (F.guard D) (L2.wipe σ is) (env.wipe is)) (upd H D (.lst (vs ++ [v]))) (OO (F.guard D) (L2.wipe σ is) (env.wipe is)) := ⟨fun a o h _ m => by rw [upd_ne (fun z => m (by rw [z]; exact hp))]; exact h, fun _ z => .inl z, dm⟩
  have pl : Plc H D := ⟨fun ps z => (by rw [hD] at z; cases z), fun q z => (by rw [hD] at z; cases z)⟩
  have ne1 : ∀ a o, H1 a = some o → a ≠ D := fun a o h z => by rw [z, n1] at h; cases h
  refine ⟨vs, hD, hf.length, L.fi.wrote nO pl h0, ⟨_, upd_same, (hf.carry st).app (.one (f.carry st))⟩, ⟨fun a o h t m => ?_, L.stp.sub, fun a m => dm a (L.stp.dom a m)⟩, L.ow, fun a o h m t => ?_⟩
  · rw [upd_ne (ne1 a o h)]; exact L.stp.keep a o h t m
  · rw [upd_ne (ne1 a o h)]; exact L.kx a o h m t
/-- at the end -/
theorem LcI.done (L : LcI F σ H1 env0 is D H env acc) (ho : ∀ i ∈ is, i ∉ F.ow) (oe : ∀ a, F.Oe a → F.Ox a) (n1 : H1 D = none) (I0 : FI F σ H1 env0) {Hs : Hp} (dom : ∀ a, Av Hs a → Av H1 a) {nw : Nat → Bool} :
    Post F σ H1 env0 H (env.back env0 is) ∧ VR F σ (env.back env0 is) Hs H nw (.ref D) (.lst acc) := by
  have hlen : env.length = env0.length := by
    have h1 := L.fi.len
    rw [ewipe_len, wipe_length] at h1
    rw [h1, I0.len]
  obtain ⟨I2, o2⟩ := L.fi.slots (σ' := σ) (env' := env.back env0 is) (by rw [eback_len, hlen]; exact I0.len) (fun i hi => ⟨by rw [wipe_get, if_neg (fun z => ho i z.1 hi)], by rw [eback_get hlen, ewipe_get, if_neg (fun z => ho i z hi), if_neg (fun z => ho i z hi)]⟩) fun i d hi h => by
    rw [eback_get hlen] at h
    split at h
    · obtain ⟨v, a, b⟩ := I0.fr i d h hi
      exact ⟨v, a, b.carry L.stp⟩
    · rename_i hn
      obtain ⟨v, a, b⟩ := L.fi.fr i d (by rw [ewipe_get, if_neg hn]; exact h) hi
      rw [wipe_get, if_neg (fun z => hn z.1)] at a
      exact ⟨v, a, b⟩
  have IF := FI.unguard I2 oe
  have wo : ∀ a, ownA F.ow σ (env.back env0 is) a → ownA F.ow σ env0 a := fun a ⟨j, hj, ⟨e, he⟩, h⟩ => by
    refine L.ow a ⟨j, hj, ⟨e, ?_⟩, ?_⟩
    · rw [eback_get hlen, if_neg (fun z => ho j z hj)] at he
      rw [ewipe_get, if_neg (fun z => ho j z hj)]; exact he
    · rw [wipe_get, if_neg (fun z => ho j z.1 hj)]; exact h
  obtain ⟨vs, hD, hf⟩ := L.acc
  have nO : ¬ OO F σ (env.back env0 is) D := fun z => I0.free (Av.none n1) (z.imp id (wo D))
  have hs0 : ¬ Av Hs D := fun z => Av.none n1 (dom D z)
  have cg : Cont F.G H (OO (F.guard D) σ (env.back env0 is)) D (.lst acc) := .lst hD (hf.carry (.mono fun a z => (o2 a).mp z))
  refine ⟨⟨IF, ⟨fun a o h t m => L.stp.keep a o h t m, fun a z => .inl (z.imp id (wo a)), L.stp.dom⟩, wo, L.kx⟩, (cg.carry (.mono fun a z => (guard_oo a).mpr (.inl z)) rfl).fr nO, fun _ _ => ⟨D, rfl, hs0, nO, cg, I2⟩⟩
def turn2 (tb : Tb) (cf : CF) (e : E) (q : Bh.D) (env2 : Env) : R (Option Bh.D) := match q with
  | .bl true => (evE tb cf e env2).bind fun y env3 => .ok (some y) env3
  | .bl false => .ok none env2
  | _ => .err
def turnOf (tb : Tb) (cf : CF) (c : Option E) (e : E) (env1 : Env) : R (Option Bh.D) := (evC tb cf c env1).bind (turn2 tb cf e)
theorem lc_run (ok : FOk p ow F) (hK : F.G.K = X.K) {t : T} {c : Option E} {e : E} {ds : List Bh.D} {J : L2.It} {pv : Option (V × Bh.D)} {Hs : Hp} {Q : VK} {nw : Nat → Bool} (I : FI F σ H1 env0) (dom : ∀ a, Av Hs a → Av H1 a) (hJ : IsJ F.G J ds pv) (hA : AnP F.G pv H1 (OO F σ env0))
    (ho : ∀ i ∈ t.slots, i ∉ F.ow) (n : H1 D = none)
    (w : Wish F W σ H1 env0 ((lcLoop t (turnOf tb cf c e) ds env0 []).bind fun ys env => .ok (.lst ys) (env.back env0 t.slots)) fun d env' H' => ∀ v, VR F σ env' Hs H' nw v d → Q v H') :
    ∃ Wn : Nat → Nat → Hp → Prop, (∃ m, Wn 0 m (upd H1 D (.lst []))) ∧ ∀ i m H, Wn i m H →
      (J.stop i H ∧ Q (.ref D) H) ∨ (J.go i H ∧ ∃ Nx : Hp → Prop, (∀ H', Nx H' → ∃ m', m' < m ∧ Wn (i + 1) m' H') ∧ ∀ x H', J.yld i H x H' → tG X.K t x (L2.wipe σ t.slots) H' fun σ2 H2 => L2.wipe σ2 t.slots = L2.wipe σ t.slots ∧ tCd p ow tb cf c σ2 H2 fun b H3 =>
        if b = true then tE p ow tb cf W0 e σ2 H3 fun y H4 => ∃ acc, H4 D = some (.lst acc) ∧ acc.length < sizeLine ∧ Nx (upd H4 D (.lst (acc ++ [y]))) else Nx H3) := by
  let LW := fun (ds' : List Bh.D) (env : Env) (acc : List Bh.D) => Wish F W σ H1 env0 ((lcLoop t (turnOf tb cf c e) ds' env acc).bind fun ys env => (.ok (.lst ys) (env.back env0 t.slots) : R Bh.D)) fun d env' H' => ∀ v, VR F σ env' Hs H' nw v d → Q v H'
  let Iv := fun (i : Nat) (H : Hp) => ∃ env acc, LcI F σ H1 env0 t.slots D H env acc ∧ LW (ds.drop i) env acc
  refine ⟨fun i m H => m = ds.length - i ∧ i ≤ ds.length ∧ Iv i H, ⟨_, rfl, Nat.zero_le _, env0, [], lc_init I ho n, w⟩, fun i m H ⟨hm, hi, env, acc, L, lw⟩ => ?_⟩
  have hAn : AnP F.G pv H (OO (F.guard D) (L2.wipe σ t.slots) (env.wipe t.slots)) := hA.carry L.stp
  by_cases he : i = ds.length
  · subst he
    refine .inl ⟨hJ.stop hAn, ?_⟩
    have lw' : LW [] env acc := by
      have := lw
      rwa [List.drop_length] at this
    obtain ⟨P, v⟩ := L.done ho ok.oe n I dom (nw := nw)
    exact lw' H P _ v
  · have hlt : i < ds.length := by omega
    have hx : ds[i]? = some ds[i] := List.getElem?_eq_getElem hlt
    refine .inr ⟨(hJ.go hAn hx).1, Iv (i + 1), fun H' h => ⟨ds.length - (i + 1), by omega, rfl, by omega, h⟩, fun x H' hy => ?_⟩
    obtain ⟨rfl, fx⟩ := (hJ.go hAn hx).2 x H' hy
    have lw' : LW (ds[i] :: ds.drop (i + 1)) env acc := by
      have := lw
      rwa [List.drop_eq_getElem_cons hlt] at this
    -- the target
    cases hb : bindT t ds[i] (env.wipe t.slots) with
    | none =>
      have : LW (ds[i] :: ds.drop (i + 1)) env acc := lw'
      simp only [LW, lcLoop, hb] at this
      exact this.elim
    | some env1 =>
      have lw2 : Wish F W σ H1 env0 ((match turnOf tb cf c e env1 with
          | .ok none env2 => lcLoop t (turnOf tb cf c e) (ds.drop (i + 1)) env2 acc
          | .ok (some y) env2 => if okLen (acc.length + 1) then lcLoop t (turnOf tb cf c e) (ds.drop (i + 1)) env2 (acc ++ [y]) else .err
          | _ => .err).bind fun ys env => (.ok (.lst ys) (env.back env0 t.slots) : R Bh.D)) fun d env' H' => ∀ v, VR F σ env' Hs H' nw v d → Q v H' := by
        have : LW (ds[i] :: ds.drop (i + 1)) env acc := lw'
        simp only [LW, lcLoop, hb] at this
        exact this
      refine tG_run (F := F.guard D) (X := X) hK L.fi fx hb ho fun σ2 I2 so oo wo => ⟨so.wipe, ?_⟩
      · -- the element
        have elem : ∀ (env2 : Env) (H3 : Hp), Post (F.guard D) σ2 H' env1 H3 env2 → (∀ r, (evE tb cf e env2).bind (fun y env3 => (.ok (some y) env3 : R (Option Bh.D))) = r → turnOf tb cf c e env1 = r) →
            tE p ow tb cf W0 e σ2 H3 fun y H4 => ∃ acc, H4 D = some (.lst acc) ∧ acc.length < sizeLine ∧ Iv (i + 1) (upd H4 D (.lst (acc ++ [y]))) := fun env2 H3 P tu => by
          refine ⟨F.guard D, env2, ok.guard D, P.fi, ?_⟩
          cases hev : evE tb cf e env2 with
          | err => rw [tu _ rfl, hev] at lw2; exact lw2.elim
          | exc cx ex => rw [tu _ rfl, hev] at lw2; exact lw2.elim
          | ok y env3 =>
            rw [tu _ rfl, hev] at lw2
            intro H4 P4 v hv
            have lw3 : Wish F W σ H1 env0 ((if okLen (acc.length + 1) then lcLoop t (turnOf tb cf c e) (ds.drop (i + 1)) env3 (acc ++ [y]) else .err).bind fun ys env => (.ok (.lst ys) (env.back env0 t.slots) : R Bh.D)) fun d env' H' => ∀ v, VR F σ env' Hs H' nw v d → Q v H' := lw2
            split at lw3
            · rename_i hz
              have L4 := L.move ho so oo wo n I (P.trans P4)
              have fy : FR F.G H4 (OO (F.guard D) (L2.wipe σ t.slots) (env3.wipe t.slots)) v y := hv.1.carry (.mono fun a z => by
                have := ((P.trans P4).fi.wipes (is := t.slots) ho).2 a
                rw [so.wipe] at this
                exact this.mp z)
              obtain ⟨vs, hD, hvl, L5⟩ := L4.grow n I fy
              exact ⟨vs, hD, by have := okLen_le hz; omega, env3, acc ++ [y], L5, lw3⟩
            · exact lw3.elim
        cases c with
        | none =>
          show (if (true = true) then tE p ow tb cf W0 e σ2 H' (fun y H4 => ∃ acc, H4 D = some (.lst acc) ∧ acc.length < sizeLine ∧ Iv (i + 1) (upd H4 D (.lst (acc ++ [y])))) else Iv (i + 1) H')
          rw [if_pos rfl]
          exact elem env1 H' (.refl I2) fun r hr => hr
        | some c =>
          refine ⟨F.guard D, env1, ok.guard D, I2, ?_⟩
          cases hc : evE tb cf c env1 with
          | err =>
            have tz : turnOf tb cf (some c) e env1 = .err := by unfold turnOf; rw [evC, hc]; rfl
            rw [tz] at lw2; exact lw2.elim
          | exc cx ex =>
            have tz : turnOf tb cf (some c) e env1 = .exc cx ex := by unfold turnOf; rw [evC, hc]; rfl
            rw [tz] at lw2; exact lw2.elim
          | ok q env2 =>
            intro H3 P3
            have tz : turnOf tb cf (some c) e env1 = turn2 tb cf e q env2 := by unfold turnOf; rw [evC, hc]; rfl
            cases q with
            | bl b =>
              refine ⟨b, rfl, ?_⟩
              cases b with
              | true =>
                rw [if_pos rfl]
                exact elem env2 H3 P3 fun r hr => tz.trans hr
              | false =>
                rw [if_neg (by decide)]
                rw [tz] at lw2
                exact ⟨env2, acc, L.move ho so oo wo n I P3, lw2⟩
            | _ => rw [tz] at lw2; exact lw2.elim
def isSetE : Expr → Bool
  | .Set _ _ _ => true
  | _ => false
theorem folded {e : Expr} (h : isSetE e = false) (env : PySem.Env) (x : Value) : foldedSetIterable e env x = pure x := by
  cases e <;> first | rfl | (simp [isSetE] at h)
theorem lc_read (C : Cok p N tl sc k X W) {t : T} {it : It} {c : Option E} {e : E} (ho : ∀ i ∈ t.slots, i ∉ ow) {Q : VK} (h : tE p ow tb cf W (.lc t it c e) σ H Q) : tLc (tI p ow tb cf W it) (tG X.K t) (tCd p ow tb cf c) (tE p ow tb cf W0 e) t.slots σ H Q := by
  obtain ⟨F, env, ok, I, w⟩ := h
  rw [evE] at w
  refine ⟨F, env, ok, I, w.bind.imp fun ds env0 Ha P1 w1 J An hJ hA D nD => ?_⟩
  exact lc_run ok (by rw [ok.G]; exact C.facts.hK) P1.fi P1.domL hJ hA (by rw [ok.ow]; exact ho) nD w1
theorem s_lc (C : Cok p N tl sc k X W) {t : T} {it : It} {c : Option E} {e : E} {elt tg iter : Expr} {ifs : List Expr} {scope : Scope} {own : List (Str × Nat)} (hi : PI X tg iter (tI p ow tb cf W it)) (bk : BlkOk N sc scope own) (hown : own.map (·.2) = t.slots)
    (hg : ∀ (s : Shared) (H : Hp) (Cc : Addr) (cl : List (Str × Addr)) (fp : List Addr), PG (X.blk s H scope (compEnvC scope cl Cc X.env) fp) tg (tG X.K t))
    (ht : ∀ (s : Shared) (H : Hp) (Cc : Addr) (cl : List (Str × Addr)) (fp : List Addr), PTs (X.blk s H scope (compEnvC scope cl Cc X.env) fp) ifs (tCd p ow tb cf c))
    (he : ∀ (s : Shared) (H : Hp) (Cc : Addr) (cl : List (Str × Addr)) (fp : List Addr), PE (X.blk s H scope (compEnvC scope cl Cc X.env) fp) elt (tE p ow tb cf W0 e)) (hs : isSetE iter = false) (ho : ∀ i ∈ t.slots, i ∉ ow) :
    PE X (.ListComp elt [⟨tg, iter, ifs, 0⟩] scope pos) (tE p ow tb cf W (.lc t it c e)) := by
  have b2 : BlkOk X.N X.env.scope scope own := by rw [C.nm, C.scope]; exact bk
  have h1 := pe_lc (pos := pos) C.calm C.nd hi b2 hg ht he (fun x => folded hs _ x)
  rw [hown] at h1
  exact PEimp h1 fun σ H Q h => lc_read C ho h
end
end Bh
/-! text Bh5k -/
set_option Elab.async false
set_option linter.all false
set_option maxRecDepth 100000
set_option maxHeartbeats 1000000
/-! Bh5k: append, a look into a display, told lambdas. -/
namespace Bh
open PySem PySem.W L2 PyProof.Rows
section
variable {p : Pr} {N : List Str} {ow : List Nat} {tl : Bool} {sc : Scope} {F : Fm} {k : Nat} {X : Cx} {W : WX} {cf : CF} {tb : Tb} {pos : Pos} {es : Es}
theorem s_append (C : Cok p N tl sc k X W) {i : Nat} {o a : Expr} {e : E} {ap : Pos} (hi : i ∈ ow) (hc : isCall o = false) (ho : PE X o (tVar i)) (h : PEs X [a] (tOs p ow tb cf W (.cons e .nil))) (hl : lateOf e = none) (hlp : (ap.endLine == pos.line) = true) :
    PE X (.Call (.Attribute o "append" ap) [a] [] pos) (tE p ow tb cf W (.mm .append i (.cons e .nil))) := by
  have hfew := few_of (pos := pos) h (by show 1 < 30; decide)
  refine PEimp (pe_bm (apos := ap) (cpos := pos) PySem.F.plainAttrs_list PySem.F.slot_list_append PySem.F.type_list_append (mt_append (X := X)) ho h.pa (attrBase hc _ _) (by
    simp only [methodCallForm] at hfew
    simpa [backToKw, keywordEach] using hfew) hlp (h.hd pos).1 (h.hd pos).2) fun σ H Q ⟨F, env, ok, I, w⟩ => ?_
  rw [evE] at w
  split at w
  · rename_i xs0 hg
    have hio : i ∈ F.ow := by rw [ok.ow]; exact hi
    obtain ⟨q, hs, ct, _⟩ := I.own i _ hg hio
    cases ct with
    | lst e0 r0 =>
      refine ⟨_, hs, .inl ⟨rfl, _, SqL.of e0⟩, ?_⟩
      refine es_run ok _ I w.bind fun ds env' H' vs P r w => ?_
      split at w
      · rename_i x hg'
        split at w
        · rename_i rr hm
          have hm : appD x ds = some rr := hm
          unfold appD at hm
          split at hm
          · rename_i xs v _
            split at hm
            · rename_i hz
              cases hm
              have f := r.frs (by simp [noLate, hl])
              obtain ⟨u, rfl, fu⟩ := f.of_one
              obtain ⟨q2, hs2, ct2, _⟩ := P.fi.own i _ hg' hio
              rw [hs] at hs2
              cases hs2
              cases ct2 with
              | lst e1 r1 =>
                rename_i ws
                have hp : OO F σ env' q := .inr ⟨i, hio, ⟨_, hg'⟩, hs⟩
                have st : Stp H' (OO F σ env') (upd H' q (.lst (ws ++ [u]))) (OO F σ env') := ⟨fun a o h _ m => (by rw [upd_ne (fun z => m (by rw [z]; exact hp))]; exact h), fun _ z => .inl z, av_upd fun _ z => nomatch z⟩
                refine ⟨q, ws, u, rfl, rfl, e1, ?_, ?_⟩
                · have := okLen_le hz
                  rw [r1.length]; omega
                · have P2 := P.fi.write (d' := .lst (xs ++ [v])) hio hg' hs (.lst upd_same ((r1.carry st).app (.one (fu.carry st))))
                  exact w _ P2 _ (VR.old .non)
            · cases hm
          · cases hm
        · exact w.elim
      · exact w.elim
  · exact w.elim
/-! ### a look into a display -/
theorem Post.unguard {σ : L2.St} {H H' : Hp} {env env' : Env} {q : Addr} {o : HO} (n : H q = none) (I : FI F σ H env) (oe : ∀ a, F.Oe a → F.Ox a) (P : Post (F.guard q) σ (upd H q o) env H' env') : Post F σ H env H' env' where
  fi := P.fi.unguard oe
  stp := by
    refine ⟨fun a u h t m => P.stp.keep a u (Ext.upd n a u h) t fun z => ?_, fun a z => .inl (z.imp id (P.ow a)), fun a m => P.stp.dom a (Ext.dom (Ext.upd n) a m)⟩
    rcases (guard_oo a).mp z with z | z
    · exact m z
    · rw [z, n] at h; cases h
  ow := P.ow
  kx := fun a u h m t => P.kx a u (Ext.upd n a u h) m t
theorem Wish.guarded {σ : L2.St} {H : Hp} {env : Env} {q : Addr} {o : HO} {α : Type} {r : R α} {S : α → Env → Hp → Prop} (n : H q = none) (I : FI F σ H env) (oe : ∀ a, F.Oe a → F.Ox a) (w : Wish F W σ H env r S) :
    Wish (F.guard q) W σ (upd H q o) env r fun a env' H' => Post (F.guard q) σ (upd H q o) env H' env' ∧ S a env' H' := by
  cases r with
  | ok a e => exact fun H' P => ⟨P, w H' (P.unguard n I oe)⟩
  | exc c e => exact fun dx H' P => w dx H' (P.unguard n I oe)
  | err => exact w
theorem Wish.all {σ : L2.St} {H : Hp} {env : Env} {α : Type} {r : R α} {S : α → Env → Hp → Prop} (w : Wish F W σ H env r S) : Wish F W σ H env r fun a env' _ => ∀ H', Post F σ H env H' env' → S a env' H' := by
  cases r with
  | ok a e => exact fun _ _ => w
  | exc c e => exact w
  | err => exact w
def keysAre : List (List Nat) → List (Option Expr) → Bool
  | [], [] => true
  | s :: ks, some (.Constant (.str x) _ _) :: es => decide (x.cps.toList = s) && keysAre ks es
  | _, _ => false
def kStr (s : List Nat) : Str := ⟨s.toArray⟩
theorem kStr_inj {s t : List Nat} (h : kStr s = kStr t) : s = t := by
  have := congrArg (fun x : Str => x.cps.toList) h
  simpa [kStr] using this
def trsOf : List (List Nat) → List TE → List (TE × TE)
  | s :: ks, t :: ts => (tC (.str (kStr s)), t) :: trsOf ks ts
  | _, _ => []
theorem pps_of : ∀ {ks : List (List Nat)} {keys : List (Option Expr)} {vals : List Expr} {ts : List TE}, keysAre ks keys = true → ks.length = vals.length → PEs X vals ts → PPs X pos keys vals (trsOf ks ts)
  | [], [], [], _, _, _, .nil => pps_nil
  | s :: ks, some (.Constant (.str x) j q) :: keys, v :: vals, _, h, hl, .cons hv _ r => by
    simp only [keysAre, Bool.and_eq_true, decide_eq_true_eq] at h
    have e : x = kStr s := by
      obtain ⟨c⟩ := x
      unfold kStr
      rw [← h.1]
    subst e
    exact pps_cons pe_str hv (pps_of h.2 (by simpa using hl) r)
  | [], _ :: _, _, _, h, _, _ => by simp [keysAre] at h
  | [], [], _ :: _, _, _, hl, _ => by simp at hl
  | _ :: _, [], _, _, h, _, _ => by simp [keysAre] at h
  | _ :: _, _, [], _, _, hl, _ => by simp at hl
  | _ :: _, none :: _, _, _, h, _, _ => by simp [keysAre] at h
theorem keysAre_all : ∀ {ks : List (List Nat)} {keys : List (Option Expr)}, keysAre ks keys = true → keys.all (·.isSome) = true ∧ keys.length = ks.length
  | [], [], _ => ⟨rfl, rfl⟩
  | s :: ks, e :: keys, h => by
    unfold keysAre at h
    split at h
    · rename_i h1 h2; cases h1
    · rename_i h1 h2
      cases h1; cases h2
      simp only [Bool.and_eq_true] at h
      obtain ⟨a, b⟩ := keysAre_all h.2
      exact ⟨by simp [a], by simp [b]⟩
    · cases h
  | [], _ :: _, h => by simp [keysAre] at h
  | _ :: _, [], h => by simp [keysAre] at h
/-- the pairs of a display -/
theorem pairs_run (ok : FOk p ow F) {σ : L2.St} : ∀ (es : Es) (ks : List (List Nat)) {H : Hp} {env : Env} {S : List D → Env → Hp → Prop} {Q : List (V × V) → Hp → Prop}, FI F σ H env → Wish F W σ H env (evEs tb cf es env) S → noLate es = true → ks.length = esLen es →
    (∀ ds env' H' vs, Post F σ H env H' env' → FRs F.G H' (OO F σ env') vs ds → S ds env' H' → Q ((ks.zip vs).map fun q => (.str (kStr q.1), q.2)) H') → tPairs (trsOf ks (tOs p ow tb cf W es)) σ H Q
  | .nil, [], H, env, S, Q, I, w, _, _, q => q [] env H [] (.refl I) .nil (w H (.refl I))
  | .cons e es, s :: ks, H, env, S, Q, I, w, hn, hl, q => by
    simp only [noLate, Bool.and_eq_true, Option.isNone_iff_eq_none] at hn
    show tO p ow tb cf W e σ H fun x H1 => tPairs (trsOf ks (tOs p ow tb cf W es)) σ H1 fun ps H2 => Q ((.str (kStr s), x) :: ps) H2
    unfold tO
    unfold evEs at w
    rw [hn.1] at w ⊢
    refine ⟨F, env, ok, I, w.bind.imp fun d env1 H1 P1 w1 v hv => ?_⟩
    refine pairs_run ok es ks P1.fi w1.bind hn.2 (by simpa [esLen] using hl) fun ds env' H' vs P r w2 => ?_
    exact q (d :: ds) env' H' (v :: vs) (P1.trans P) (.cons (hv.1.carry P.stp) r) (w2 H' (.refl P.fi))
  | .nil, _ :: _, _, _, _, _, _, _, _, hl, _ => by simp [esLen] at hl
  | .cons _ _, [], _, _, _, _, _, _, _, hl, _ => by simp [esLen] at hl
def kvK (ks : List (List Nat)) (vs : List V) : List (Key × V) := (ks.zip vs).map fun q => (Sum.inr (kStr q.1), q.2)
theorem merge_val : ∀ (kvs acc : List (Key × V)) (j : Key), (kvs.map (·.1)).Nodup → valV (mergeK acc kvs) j = (valV kvs j).or (valV acc j)
  | [], acc, j, _ => by simp [mergeK, valV_nil]
  | (k1, v1) :: r, acc, j, nd => by
    have nd' := List.nodup_cons.mp nd
    show valV (mergeK (putK acc k1 v1) r) j = _
    rw [merge_val r _ j nd'.2, valV_put]
    by_cases h : k1 = j
    · subst h
      rw [valV_pos (p := (k1, v1)) rfl, if_pos rfl]
      have : valV r k1 = none := by
        cases z : valV r k1 with
        | none => rfl
        | some v => exact (nd'.1 (valV_in z)).elim
      rw [this]; rfl
    · rw [valV_neg (p := (k1, v1)) h, if_neg (fun z => h z.symm)]
theorem pick_val {G : Gx} {H : Hp} {O : Addr → Prop} : ∀ {ks : List (List Nat)} {vs : List V} {ds : List D} {s : List Nat} {d : D}, FRs G H O vs ds → (ks.zip ds).lookup s = some d → ∃ v, valV (kvK ks vs) (Sum.inr (kStr s)) = some v ∧ FR G H O v d
  | [], _, _, _, _, _, h => by simp at h
  | t :: ks, _, _, _, _, .nil, h => by simp at h
  | t :: ks, _, _, s, d, .cons (v := v) (d := d0) f r, h => by
    rw [List.zip_cons_cons, List.lookup_cons] at h
    show ∃ v', valV ((Sum.inr (kStr t), v) :: kvK ks _) (Sum.inr (kStr s)) = some v' ∧ _
    by_cases e : s = t
    · subst e
      simp only [BEq.rfl] at h
      cases h
      exact ⟨v, valV_pos (p := (Sum.inr (kStr s), v)) rfl, f⟩
    · have e1 : (s == t) = false := by simpa using e
      rw [e1] at h
      obtain ⟨v', h1, h2⟩ := pick_val r h
      refine ⟨v', ?_, h2⟩
      rw [valV_neg (p := (Sum.inr (kStr t), v))]
      · exact h1
      · intro z
        exact e (kStr_inj (Sum.inr.inj z)).symm
theorem kvK_nodup : ∀ {ks : List (List Nat)} (vs : List V), ks.Nodup → ((kvK ks vs).map (·.1)).Nodup
  | [], _, _ => by simp [kvK]
  | _ :: _, [], _ => by simp [kvK]
  | t :: ks, v :: vs, h => by
    have h' := List.nodup_cons.mp h
    show (Sum.inr (kStr t) :: (kvK ks vs).map (·.1)).Nodup
    refine List.nodup_cons.mpr ⟨fun z => ?_, kvK_nodup vs h'.2⟩
    obtain ⟨q, h1, h2⟩ := List.mem_map.mp z
    unfold kvK at h1
    obtain ⟨r, h3, rfl⟩ := List.mem_map.mp h1
    have := kStr_inj (Sum.inr.inj h2)
    exact h'.1 (this ▸ (List.of_mem_zip h3).1)
theorem s_pick (C : Cok p N tl sc k X W) {ks : List (List Nat)} {keys : List (Option Expr)} {vals : List Expr} {ek : E} {ke : Expr} {q : Pos} (hk : keysAre ks keys = true) (hl : ks.length = vals.length) (h : PEs X vals (tOs p ow tb cf W es)) (hn : noLate es = true) (hle : ks.length = esLen es) (nd : ks.Nodup) (h0 : keys ≠ [])
    (h15 : ks.length ≤ 15) (hke : PE X ke (tE p ow tb cf W ek)) (hs : isSlice ke = false) : PE X (.Subscript (.Dict keys vals q) ke pos) (tE p ow tb cf W (.pick ks es ek)) := by
  obtain ⟨ka, kl⟩ := keysAre_all hk
  have hu : X.A.units + 1 < cLine := by have := C.un; omega
  refine PEimp (pe_dget hu (pe_disp (pps_of hk hl h) ka (by rw [kl]; exact hl) h0 (by rw [kl]; exact h15)) hke (plainIx hs)) fun σ H Q ⟨F, env, ok, I, w⟩ => ?_
  rw [evE] at w
  intro a n
  refine pairs_run (ok.guard a) es ks (I.guard n) (Wish.guarded n I ok.oe w.bind.all) hn hle fun ds env' H' vs P f ⟨P0, w⟩ => ?_
  have P1 := P0.unguard n I ok.oe
  have na : ¬ ownA F.ow σ env a := fun z => I.free (Av.none n) (.inr z)
  have hD : H' a = some (.dK []) := P.kx a _ upd_same na fun _ z => nomatch z
  have naO : ¬ OO F σ env' a := fun z => I.free (Av.none n) (P1.os a z)
  have pl : Plc H' a := ⟨fun ps z => (by rw [hD] at z; cases z), fun q z => (by rw [hD] at z; cases z)⟩
  have h00 : ¬ Av F.H0 a := fun z => Av.none n (I.sub a z)
  have Iw := P.fi.wrote (o := .dK (mergeK [] (kvK ks vs))) naO pl h00
  have aO : OO (F.guard a) σ env' a := (guard_oo a).mpr (.inr rfl)
  have P2 : Post F σ H env (upd H' a (.dK (mergeK [] (kvK ks vs)))) env' := by
    refine ⟨Iw.unguard ok.oe, ⟨fun b u e t m => ?_, P1.stp.sub, fun b m => av_upd (o := .dK (mergeK [] (kvK ks vs))) (fun _ z => nomatch z) b (P1.stp.dom b m)⟩, P1.ow, fun b u e m t => ?_⟩
    · rw [upd_ne (ne_of_none e n)]; exact P1.stp.keep b u e t m
    · rw [upd_ne (ne_of_none e n)]; exact P1.kx b u e m t
  have fw : FRs F.G (upd H' a (.dK (mergeK [] (kvK ks vs)))) (OO F σ env') vs ds := f.carry ⟨fun b u e _ m => (by rw [upd_ne (fun z => m (by rw [z]; exact aO))]; exact e), fun b z => .inl ((guard_oo b).mpr (.inl z)), av_upd (o := .dK (mergeK [] (kvK ks vs))) fun _ z => nomatch z⟩
  refine ⟨hD, kvK ks vs, by simp [kvK, List.map_map, Function.comp, kV], by unfold kvK; rw [List.length_map, List.length_zip]; omega, ?_⟩
  have w2 := w _ P2
  refine ⟨F, env', ok, P2.fi, w2.bind.imp fun x env3 H3 P3 w3 y hy => ?_⟩
  obtain ⟨r, e, w4⟩ := w3.of
  have f3 := hy.1
  unfold pickD at e
  split at e
  · rename_i s
    cases f3
    have na2 : ¬ ownA F.ow σ env' a := fun z => naO (.inr z)
    have hD3 : H3 a = some (.dK (mergeK [] (kvK ks vs))) := P3.kx a _ upd_same na2 fun _ z => nomatch z
    obtain ⟨v, hv, fv⟩ := pick_val (fw.carry P3.stp) e
    refine ⟨a, v, rfl, ?_, w4 H3 (.refl P3.fi) v (VR.old fv)⟩
    have e2 : valV (mergeK [] (kvK ks vs)) (Sum.inr (kStr s)) = some v := by
      rw [merge_val _ _ _ (kvK_nodup vs nd), hv]; rfl
    have g := DGet.k (k := (Sum.inr (kStr s) : Key)) hD3
    rw [e2] at g
    exact g
  · cases e
end
end Bh
/-! text Bh5l -/
set_option Elab.async false
set_option linter.all false
set_option maxRecDepth 100000
set_option maxHeartbeats 1000000
/-! Bh5l: told lambdas. -/
namespace Bh
open PySem PySem.W L2 PyProof.Rows
section
variable {p : Pr} {N : List Str} {ow : List Nat} {tl : Bool} {sc : Scope} {F : Fm} {k : Nat} {X : Cx} {W : WX} {cf : CF} {tb : Tb} {pos : Pos} {es : Es}
theorem FI.extN {σ : L2.St} {H H1 : Hp} {env : Env} (I : FI F σ H env) (e : LamX.ExtN H H1) (t : LamX.Tabs F.T H1) : Post F σ H env H1 env := by
  have dm : ∀ a, Av H a → Av H1 a := fun a ⟨o, h, n⟩ => ⟨o, e a o h n, n⟩
  have st : Stp H (OO F σ env) H1 (OO F σ env) := ⟨fun a o h n _ => e a o h n, fun _ z => .inl z, dm⟩
  refine ⟨⟨I.len, fun i d h m => ?_, fun i d h m => ?_, I.dist, fun a o h n m => e a o (I.kp a o h n m) m, fun a z => dm a (I.live a z), I.ip, I.live0, I.oe, fun a h => dm a (I.sub a h), t, fun q hq => (I.ex q hq).carry st⟩, st, fun _ z => z, fun a o h _ n => e a o h n⟩
  · obtain ⟨v, a, b⟩ := I.fr i d h m
    exact ⟨v, a, b.carry st⟩
  · obtain ⟨q, a, b, c⟩ := I.own i d h m
    obtain ⟨o, ho, hn⟩ := b.av
    exact ⟨q, a, b.carry st ((e q o ho hn).trans ho.symm), c⟩
/-- which text is told -/
def wT (K : Frag) : List (Value × Str) → Value → (Str → Prop) → Prop
  | [], _, _ => False
  | (c, ret) :: r, cls, k => ∃ b, exmOne K cls c = some b ∧ (b = true → k ret) ∧ (b = false → wT K r cls k)
def TTm (K : Frag) (hs : List (Value × Str)) : (XK → Hp → VK → Prop) → Hp → VK → Prop := fun tl H Q => tl (fun cls _ H' => wT K hs cls fun r => Q (.str r) H') H Q
/-- the clauses -/
inductive Hds (sg : Scope) (mg : Str → Option Value) : List ExceptHandler → List (Value × Str) → Prop
  | nil : Hds sg mg [] []
  | cons {e ret : Str} {c : Value} {j : Nat} {p4 p5 p6 p7 : Pos} {hds : List ExceptHandler} {l : List (Value × Str)} (hge : sg.names.lookup e = some .globalImplicit) (hme : mg e = some c) (hde : (e == ("__debug__" : Str)) = false) (r : Hds sg mg hds l) :
      Hds sg mg (.ExceptHandler (some (.Name e p4)) none [.Return (some (.Constant (.str ret) j p5)) p6] p7 :: hds) ((c, ret) :: l)
theorem wT_many {K : Frag} {Wout : WX} {D : Ends} {cls : Value} {d : Option Addr} {σ : L2.St} {H : Hp} : ∀ {hs : List (Value × Str)}, wT K hs cls (fun r => D.rt (.str r) H) → wMany K Wout D (hs.map fun q => (q.1, fun _ _ _ => tRet (tC (.str q.2)))) cls d σ H
  | [], h => h.elim
  | (c, ret) :: r, ⟨b, h1, h2, h3⟩ => ⟨b, h1, fun hb a _ => h2 hb, fun hb => wT_many (h3 hb)⟩
theorem told_many {Ng : List Str} {x a q : Str} {sg : Scope} {g : Addr} {cdg : Value} {h0 : ExceptHandler} {hds : List ExceptHandler} {c0 : Value × Str} {hs : List (Value × Str)} {p1 p2 p3 p8 : Pos} (hh : Hds sg X.mg (h0 :: hds) (c0 :: hs)) (hz : ∀ f : Addr, (L2.start Ng [V.ref f])[0]? = some (some (V.ref f))) :
    LamX.GivesTo X Ng x sg g cdg [.Try [.Return (some (.Call (.Name a p1) [] [] p2)) p3] (h0 :: hds) [] [] p8] a q (TTm X.K (c0 :: hs)) := by
  intro f c' s H Q tl act hc h
  have hok : ∀ {hd : List ExceptHandler} {l : List (Value × Str)}, Hds sg X.mg hd l → HdsOk (cxOf C8.CX0 X.prog X.w X.K X.mg X.base Ng x sg g cdg X.A X.stack s H C8.E0).nox hd (l.map fun q => (q.1, fun _ _ _ => tRet (tC (.str q.2)))) := by
    intro hd l hh
    induction hh with
    | nil => exact .nil
    | cons hge hme hde r ih => exact .cons ⟨hge, hde, .inl hme⟩ (fun a oe cls d pn _ _ => pss_one (ps_ret pe_str)) ih
  refine ⟨_, pss_one (ps_try_many (X := (cxOf C8.CX0 X.prog X.w X.K X.mg X.base Ng x sg g cdg X.A X.stack s H C8.E0).nox) (Wout := fun _ _ _ _ => False)
      (tb := fun W D σ H => ∃ Ech : XK, (∀ cls d σ' H', Ech cls d H' → W cls d σ' H') ∧ σ[0]? = some (some (.ref f)) ∧ H c' = some (LamX.CodeO c' q) ∧ tl Ech H D.rt)
      rfl rfl LamX.takes0 (fun W pn xe tk _ => ?_) (hok hh)), ?_⟩
  · refine ⟨fun pins s' σ H' D I h' => ?_⟩
    obtain ⟨Ech, hW, h1, h2, h3⟩ := h'
    have hp := act W pn xe Ech p1 p2 tk hW
    have hq := pss_one (ps_ret (pos := p3) hp)
    exact hq.run pins s' σ H' D I ⟨h1, h2, h3⟩
  · exact ⟨fun cls _ H' => wT X.K (c0 :: hs) cls fun r => Q (.str r) H', fun cls d σ' H' w => wT_many w, hz f, hc, h⟩
/-- the def that tells: where it stands, what it catches -/
structure ToldAt (p : Pr) (K : Frag) (mg : Str → Option Value) (x : Str) : Prop where
  ex : ∃ (g : Addr) (a : Str) (pg : Arguments) (sg : Scope) (dV kV doc pm cdv ct oc : Value) (an od : Option Addr) (osl : Array (Option Value)) (Ng : List Str) (h0 : ExceptHandler) (hds : List ExceptHandler) (c0 : Value × Str) (hs : List (Value × Str)) (p1 p2 p3 p8 : Pos),
    mg x = some (.ref g) ∧ keepIn K (.ref g) = true ∧ K.lookup g = some ⟨oc, od, .func (fnOf x x pg [.Try [.Return (some (.Call (.Name a p1) [] [] p2)) p3] (h0 :: hds) [] [] p8] sg dV kV doc pm an cdv ct), osl⟩ ∧ codeIn K cdv x = true ∧
    L2.Binds K (fnOf x x pg [.Try [.Return (some (.Call (.Name a p1) [] [] p2)) p3] (h0 :: hds) [] [] p8] sg dV kV doc pm an cdv ct) [a] [] ∧ FnScope Ng [a] sg ∧ Ng[0]? = some a ∧ Vis sg a ∧ Hds sg mg (h0 :: hds) (c0 :: hs) ∧ plainName a = true ∧
    ∀ c d, p.pg.tb.told c = some d → ∃ s, d = .str s ∧ ∀ k : Str → Prop, k (kStr s) → wT K (c0 :: hs) (.ref (p.G.ca c)) k
theorem start0 {Ng : List Str} {a : Str} (h : Ng[0]? = some a) (f : Addr) : (L2.start Ng [V.ref f])[0]? = some (some (V.ref f)) := by
  unfold L2.start
  cases Ng with
  | nil => cases h
  | cons x xs => rfl
theorem s_told (C : Cok p N tl sc k X W) {x : Str} {e : E} {params : Arguments} {body : Expr} {scope : Scope} {lpos q : Pos} (T : ToldAt p X.K X.mg x) (hg : gloB sc x = true) (hx : plainName x = true) (htl : tl = true) (hL : LamX.lamSB sc scope = true)
    (hdef : ∀ env, defaultsOf params env = ([], [])) (hbind : ∀ (q : Str) (cl : List (Str × Addr)) (pm cv ctv : Value), bindArgs (kla_fn "<lambda>" q params body scope cl pm cv ctv) ⟨[], []⟩ = pure [])
    (hbody : ∀ (k' : Nat), k = k' + 2 → ∀ (A : Around) (outer : List PySem.Env) (s : Shared) (H : Hp) (E : XK) (f c' : Addr), Room k' (A.deeper (LamX.lamEnv X scope s.heap.objs.size f c')) → PE (LamX.lamCx X A outer s H E scope f c') body (tE p ow p.pg.tb (lev p.pg k') (fun cls d _ H => E cls d H) e)) :
    PE X (.Call (.Name x q) [.Lambda params body scope lpos] [] pos) (tE p ow p.pg.tb (lev p.pg k) W (.told e)) := by
  cases k with
  | zero =>
    refine PEimp (t := fun _ _ _ => False) ⟨fun _ _ _ _ _ _ h => h.elim⟩ fun σ H Q ⟨F, env, ok, I, w⟩ => ?_
    rw [evE] at w
    split at w
    · rename_i h; rw [lev_lv] at h; omega
    · exact w
  | succ k1 =>
    cases k1 with
    | zero =>
      refine PEimp (t := fun _ _ _ => False) ⟨fun _ _ _ _ _ _ h => h.elim⟩ fun σ H Q ⟨F, env, ok, I, w⟩ => ?_
      rw [evE] at w
      split at w
      · rename_i h; rw [lev_lv] at h; omega
      · exact w
    | succ k' =>
      obtain ⟨g, a, pg, sg, dV, kV, doc, pm, cdv, ct, oc, an, od, osl, Ng, h0, hds, c0, hs, p1, p2, p3, p8, t1, t2, t3, t4, t5, t6, t7, t8, t9, ta, t10⟩ := T.ex
      simp only [plainName, Bool.and_eq_true, Bool.not_eq_true'] at ta
      obtain ⟨c, P, ql, hql, TB, hcode, hmT, hu⟩ := C.lam htl
      subst hql
      simp only [plainName, Bool.and_eq_true, Bool.not_eq_true'] at hx
      have L : LamX.LamS X.env.scope scope := by rw [C.scope]; exact LamX.lamS_by hL
      refine PEimp (LamX.pe_lamcall (T := p.T) (TT := TTm X.K (c0 :: hs)) (k := k') (t := fun E => tE p ow p.pg.tb (lev p.pg k') (fun cls d _ H => E cls d H) e) (C.gl hg) t1 t2 t3 t4 t5 t6 t7 t8 (told_many t9 (start0 t7)) TB hcode hmT hu C.room L (hdef _) hbind
        (fun A outer s H E f c' hr => hbody k' rfl A outer s H E f c' hr) hx.1.1 (hd := ta.1.1) (hcd := ta.1.2)) fun σ H Q ⟨F, env, ok, I, w⟩ => ⟨by rw [← ok.T]; exact I.tabs, fun H1 ex tt => ?_⟩
      have P1 := I.extN ex (by rw [ok.T]; exact tt)
      refine ⟨F, env, ok, P1.fi, ?_⟩
      rw [evE] at w
      split at w
      · rw [lev_low] at w
        cases hev : evE p.pg.tb (lev p.pg k') e env with
        | err => rw [hev] at w; exact w.elim
        | ok d env' =>
          rw [hev] at w
          exact fun H' P v hv => w H' (P1.trans P) v hv.weak
        | exc cx env' =>
          rw [hev] at w
          intro dx H' P
          cases ht : p.pg.tb.told cx with
          | none => simp only [ht] at w; exact w.elim
          | some d =>
            simp only [ht] at w
            obtain ⟨s, rfl, hw⟩ := t10 cx d ht
            rw [ok.G]
            exact hw _ (w H' (P1.trans P) (.str (kStr s)) (VR.old (.str s)))
      · exact w.elim
end
end Bh
/-! text Bh5m -/
set_option Elab.async false
set_option linter.all false
set_option maxRecDepth 100000
set_option maxHeartbeats 1000000
/-! Bh5m: statements. -/
namespace Bh
open PySem PySem.W L2 PyProof.Rows
/-- what is handed back -/
def RET (F : Fm) (fr : Bool) (H : Hp) (env : Env) (v : V) (d : D) : Prop := FR F.G H F.Oe v d ∧ (fr = true → kindOf d = 1 ∨ kindOf d = 2 → ∃ q, v = .ref q ∧ ¬ Av F.H0 q ∧ Cont F.G H (fun a => F.Oe a ∨ a = q) q d ∧
  ∀ j b, (j, b) ∈ F.Ip → ∀ e, env.get j = some e → Cont F.G H (fun a => F.Oe a ∨ a = q) b e)
def OW (F : Fm) (fr : Bool) (W : WX) (D : Ends) : O → Prop
  | .nx env => ∀ σ H, FI F σ H env → D.nx σ H
  | .ret d env => ∀ v σ H, FI F σ H env → RET F fr H env v d → D.rt v H
  | .brk env => ∀ σ H, FI F σ H env → D.bk σ H
  | .cont env => ∀ σ H, FI F σ H env → D.ct σ H
  | .exc c env => ∀ dx σ H, FI F σ H env → W (.ref (F.G.ca c)) dx σ H
  | .err => False
structure SOk (p : Pr) (ow io : List Nat) (F : Fm) : Prop where
  ok : FOk p ow F
  ox : F.Ox = F.Oe
  ip : ∀ q ∈ F.Ip, q.1 ∈ io
def tS (p : Pr) (ow io : List Nat) (fr : Bool) (W : WX) (s : Env → O) : TS := fun D σ H => ∃ F env, SOk p ow io F ∧ FI F σ H env ∧ OW F fr W D (s env)
theorem PSimp {X : Cx} {st : Stmt} {t t' : TS} (h : PS X st t) (q : ∀ D σ H, t' D σ H → t D σ H) : PS X st t' := ⟨fun pins s σ H D I z => h.run pins s σ H D I (q D σ H z)⟩
theorem PSsimp {X : Cx} {st : List Stmt} {t t' : TS} (h : PSs X st t) (q : ∀ D σ H, t' D σ H → t D σ H) : PSs X st t' := ⟨fun pins s σ H D I z => h.run pins s σ H D I (q D σ H z)⟩
section
variable {p : Pr} {N : List Str} {ow io : List Nat} {tl fr : Bool} {sc : Scope} {F : Fm} {k : Nat} {X : Cx} {W : WX} {cf : CF} {tb : Tb} {pos : Pos} {es : Es}
variable {σ : L2.St} {H : Hp} {env : Env} {D : Ends}
/-- an expression's result taken up by a statement -/
theorem ow_wish {r : R Bh.D} {kk : Bh.D → Env → O} (I : FI F σ H env) (h : OW F fr W D (r.o kk)) : Wish F W σ H env r fun d env' H' => OW F fr W D (kk d env') := by
  cases r with
  | ok d e => exact fun H' P => h
  | exc c e => exact fun dx H' P => h dx σ H' P.fi
  | err => exact h
theorem ss_nil : PSs X [] (tS p ow io fr W (evSs tb cf [])) := PSsimp pss_nil fun D σ H ⟨F, env, ok, I, w⟩ => w σ H I
theorem ss_cons {s : S} {ss : List S} {st : Stmt} {sts : List Stmt} (h1 : PS X st (tS p ow io fr W (evS tb cf s))) (h2 : PSs X sts (tS p ow io fr W (evSs tb cf ss))) : PSs X (st :: sts) (tS p ow io fr W (evSs tb cf (s :: ss))) := by
  refine PSsimp (pss_cons h1 h2) fun D σ H ⟨F, env, ok, I, w⟩ => ⟨F, env, ok, I, ?_⟩
  rw [evSs] at w
  cases e : evS tb cf s env with
  | nx env' => rw [e] at w; exact fun σ' H' I' => ⟨F, env', ok, I', w⟩
  | ret d env' => rw [e] at w; exact w
  | brk env' => rw [e] at w; exact w
  | cont env' => rw [e] at w; exact w
  | exc c env' => rw [e] at w; exact w
  | err => rw [e] at w; exact w
/-- name = value, as it runs -/
def AsgN (p : Pr) (ow : List Nat) (tb : Tb) (cf : CF) (W : WX) (X : Cx) (st : Stmt) (i : Nat) (e : E) : Prop := PS X st (tAsg (tE p ow tb cf W e) (gName i))
theorem r_set {i : Nat} {e : E} {st : Stmt} (h : AsgN p ow tb cf W X st i e) (hi : i ∉ ow) : PS X st (tS p ow io fr W (evS tb cf (.set i e))) := by
  refine ⟨fun pins s σ H D Iv ⟨F, env, ok, I, w⟩ => h.run pins s σ H D Iv ⟨F, env, ok.ok, I, ?_⟩⟩
  rw [evS] at w
  refine (ow_wish I w).imp fun d env' H' P w v r => ?_
  exact w _ H' (set_one P.fi (by rw [ok.ok.ow]; exact hi) r.1).1
theorem h0_of (I : FI F σ H env) {H' : Hp} {q : Addr} (h : ¬ Av H q) : ¬ Av F.H0 q := fun z => h (I.sub q z)
theorem r_thaw {i : Nat} {e : E} {st : Stmt} (h : AsgN p ow tb cf W X st i e) (hi : i ∈ ow) (hio : i ∉ io) (hl : i < N.length) (hN : X.N = N) : PS X st (tS p ow io fr W (evS tb cf (.thaw i e))) := by
  refine ⟨fun pins s σ H D Iv ⟨F, env, ok, I, w⟩ => h.run pins s σ H D Iv ⟨F, env, ok.ok, I, ?_⟩⟩
  rw [evS] at w
  refine (ow_wish I w).imp fun d env' H' P w v r => ?_
  have hlen : i < env'.length := by rw [P.fi.len, Iv.len, hN]; exact hl
  unfold setO at w
  split at w
  · exact w.elim
  · rename_i hc
    simp only [Bool.true_and, Bool.not_eq_true', Bool.not_eq_false, Bool.and_eq_true, beq_eq_false_iff_ne] at hc
    obtain ⟨q, rfl, hq, nO, cq, Iq⟩ := r.2 hc.1 hc.2
    exact w _ H' (Iq.thaw ok.ok.oe (by rw [ok.ok.ow]; exact hi) hlen (fun b hb z => hio (z ▸ ok.ip b hb)) nO (fun z => hq (I.sub q z)) cq)
def isComp : Expr → Bool
  | .ListComp _ _ _ _ => true
  | .SetComp _ _ _ _ => true
  | .DictComp _ _ _ _ _ => true
  | _ => false
theorem no_swap {e : Expr} (h : isComp e = false) (t : Option Expr) (l : Nat) (env : PySem.Env) : swapsWith e t l env = pure false := by
  cases e <;> first | rfl | (simp [isComp] at h)
theorem asg_plain (C : Cok p N tl sc k X W) (S : Sets N sc X) {i : Nat} {e : E} {ex : Expr} {tg : Expr} (ht : tgtIs N sc i tg = true) (he : PE X ex (tE p ow tb cf W e)) (hc : isComp ex = false) : AsgN p ow tb cf W X (.Assign [tg] ex pos) i e := by
  unfold tgtIs at ht
  split at ht
  · simp only [Bool.and_eq_true, decide_eq_true_eq] at ht
    have hl := locB_loc ht.2
    exact PSimp (ps_set C.nd (by rw [C.nm]; exact ht.1) (S.st _ hl).1 he (no_swap hc _ _ _) (S.st _ hl).2) fun D σ H h => h
  · cases ht
theorem r_expr {e : E} {ex : Expr} (he : PE X ex (tE p ow tb cf W e)) (hc : isComp ex = false) : PS X (.Expr ex pos) (tS p ow io fr W (evS tb cf (.expr e))) := by
  refine PSimp (ps_expr he (no_swap hc _ _ _)) fun D σ H ⟨F, env, ok, I, w⟩ => ⟨F, env, ok.ok, I, ?_⟩
  rw [evS] at w
  exact (ow_wish I w).imp fun d env' H' P w v r => w σ H' P.fi
theorem r_pass : PS X (.Pass pos) (tS p ow io fr W (evS tb cf .pass)) := PSimp ps_pass fun D σ H ⟨F, env, ok, I, w⟩ => by rw [evS] at w; exact w σ H I
theorem r_brk : PS X (.Break pos) (tS p ow io fr W (evS tb cf .brk)) := PSimp ps_break fun D σ H ⟨F, env, ok, I, w⟩ => by rw [evS] at w; exact w σ H I
theorem r_cont : PS X (.Continue pos) (tS p ow io fr W (evS tb cf .cont)) := PSimp ps_continue fun D σ H ⟨F, env, ok, I, w⟩ => by rw [evS] at w; exact w σ H I
theorem fr_oe (I : FI F σ H env) {v : V} {d : Bh.D} (f : FR F.G H (OO F σ env) v d) : FR F.G H F.Oe v d := f.carry (.mono fun a z => .inl (I.oe a z))
theorem r_ret {e : E} {ex : Expr} (he : PE X ex (tE p ow tb cf W e)) (hf : fr = true → isNew tb e 1 = true ∧ isNew tb e 2 = true) : PS X (.Return (some ex) pos) (tS p ow io fr W (evS tb cf (.ret e))) := by
  refine PSimp (ps_ret he) fun D σ H ⟨F, env, ok, I, w⟩ => ⟨F, env, ok.ok, I, ?_⟩
  rw [evS] at w
  refine (ow_wish I w).imp fun d env' H' P w v r => w v σ H' P.fi ⟨fr_oe P.fi r.1, fun h1 h2 => ?_⟩
  have hn : isNew tb e (kindOf d) = true := by
    rcases h2 with h | h
    · rw [h]; exact (hf h1).1
    · rw [h]; exact (hf h1).2
  obtain ⟨q, rfl, hq, nO, cq, Iq⟩ := r.2 hn (by rcases h2 with h | h <;> omega)
  have mo : ∀ a, (F.Oe a ∨ a = q) → OO (F.guard q) σ env' a := fun a z => (guard_oo a).mpr (z.imp (fun y => .inl (P.fi.oe a y)) id)
  refine ⟨q, rfl, fun z => hq (I.sub q z), cq.carry (.mono mo) rfl, fun j b hb e he => ?_⟩
  obtain ⟨i1, i2, i3, i4⟩ := Iq.ip (j, b) hb
  obtain ⟨b', h1, h2', _⟩ := Iq.own j e he i1
  rw [i3] at h1
  cases h1
  exact h2'.carry (.mono mo) rfl
theorem r_retO {i : Nat} {ex : Expr} (he : PE X ex (tVar i)) (hi : i ∈ ow) (hio : i ∉ io) : PS X (.Return (some ex) pos) (tS p ow io fr W (evS tb cf (.retO i))) := by
  refine PSimp (ps_ret he) fun D σ H ⟨F, env, ok, I, w⟩ => ?_
  rw [evS] at w
  obtain ⟨d, hg, w⟩ := (ow_wish I w).of
  have hio' : i ∈ F.ow := by rw [ok.ok.ow]; exact hi
  obtain ⟨q, hs, c, h0⟩ := I.own i d hg hio'
  have n0 : ¬ Av F.H0 q := by
    rcases h0 with ⟨j, hj⟩ | h0
    · obtain ⟨i1, i2, i3, i4⟩ := I.ip (j, q) hj
      have := I.dist i j q hio' i1 ⟨d, hg⟩ i4 hs i3
      exact (hio (this ▸ ok.ip (j, q) hj)).elim
    · exact h0
  have nOe : ¬ F.Oe q := fun z => n0 (I.live0 q z)
  have mo : ∀ a, (F.Oe a ∨ a = q) → OO F σ env a := fun a z => z.elim (fun y => .inl (I.oe a y)) fun y => .inr ⟨i, hio', ⟨d, hg⟩, y ▸ hs⟩
  refine ⟨_, hs, w H (.refl I) (.ref q) σ H I ⟨(c.carry (.mono fun a z => .inl (I.oe a z)) rfl).fr nOe, fun _ _ => ⟨q, rfl, n0, c.carry (.mono mo) rfl, fun j b hb e he => ?_⟩⟩⟩
  obtain ⟨i1, i2, i3, i4⟩ := I.ip (j, b) hb
  obtain ⟨b', h1, h2', _⟩ := I.own j e he i1
  rw [i3] at h1
  cases h1
  exact h2'.carry (.mono mo) rfl
theorem r_ite {e : E} {c : Expr} {a b : List S} {sa sb : List Stmt} (hc : PT X c (tT p ow tb cf W e)) (ha : PSs X sa (tS p ow io fr W (evSs tb cf a))) (hb : PSs X sb (tS p ow io fr W (evSs tb cf b))) : PS X (.If c sa sb pos) (tS p ow io fr W (evS tb cf (.ite e a b))) := by
  refine PSimp (ps_if hc ha hb) fun D σ H ⟨F, env, ok, I, w⟩ => ⟨F, env, ok.ok, I, ?_⟩
  rw [evS] at w
  refine (ow_wish I w).imp fun d env' H' P w => ?_
  cases d with
  | bl q =>
    refine ⟨q, rfl, ?_⟩
    cases q with
    | true => rw [if_pos rfl]; exact ⟨F, env', ok, P.fi, w⟩
    | false => rw [if_neg (by decide)]; exact ⟨F, env', ok, P.fi, w⟩
  | _ => exact w.elim
theorem r_while {n : Nat} {e : E} {c : Expr} {b : List S} {sb : List Stmt} (hp : PassesOwn (model X.prog X.w) X.A X.env X.xe) (hc : PT X c (tT p ow tb cf W e)) (hb : PSs X sb (tS p ow io fr W (evSs tb cf b))) : PS X (.While c sb [] pos) (tS p ow io fr W (evS tb cf (.whil n e b))) := by
  refine PSimp (ps_while hp hc hb) fun D σ H ⟨F, env, ok, I, w⟩ => ?_
  rw [evS] at w
  refine ⟨fun m σ H => ∃ env, FI F σ H env ∧ OW F fr W D (whileL (evE tb cf e) (evSs tb cf b) m env), ⟨n, env, I, w⟩, fun m σ H ⟨env, I, w⟩ => ?_⟩
  cases m with
  | zero => exact w.elim
  | succ m =>
    rw [whileL] at w
    refine ⟨F, env, ok.ok, I, (ow_wish I w).imp fun d env' H' P w => ?_⟩
    cases d with
    | bl q =>
      refine ⟨q, rfl, ?_⟩
      cases q with
      | false => rw [if_neg (by decide)]; exact w σ H' P.fi
      | true =>
        rw [if_pos rfl]
        refine ⟨fun σ' H' => ∃ env, FI F σ' H' env ∧ OW F fr W D (whileL (evE tb cf e) (evSs tb cf b) m env), fun σ' H' h => ⟨m, Nat.lt_succ_self m, h⟩, F, env', ok, P.fi, ?_⟩
        cases hb : evSs tb cf b env' with
        | nx e1 => simp only [hb] at w; exact fun σ' H' I' => ⟨e1, I', w⟩
        | cont e1 => simp only [hb] at w; exact fun σ' H' I' => ⟨e1, I', w⟩
        | brk e1 => simp only [hb] at w; exact w
        | ret d e1 => simp only [hb] at w; exact w
        | exc c e1 => simp only [hb] at w; exact w
        | err => simp only [hb] at w; exact w
    | _ => exact w.elim
/-- the frame with a datum that is walked -/
def Fm.walk (F : Fm) (pv : Option (V × Bh.D)) : Fm := match pv with
  | none => F
  | some q => { F with Ex := q :: F.Ex }
theorem walk_fi {pv : Option (V × Bh.D)} (I : FI F σ H env) (h : AnP F.G pv H (OO F σ env)) : FI (F.walk pv) σ H env := by
  cases pv with
  | none => exact I
  | some q => exact ⟨I.len, I.fr, I.own, I.dist, I.kp, I.live, I.ip, I.live0, I.oe, I.sub, I.tabs, fun r hr => by
      rcases List.mem_cons.mp hr with hr | hr
      · rw [hr]; exact h
      · exact I.ex r hr⟩
theorem walk_out {pv : Option (V × Bh.D)} (I : FI (F.walk pv) σ H env) : FI F σ H env ∧ AnP F.G pv H (OO F σ env) := by
  cases pv with
  | none => exact ⟨I, trivial⟩
  | some q => exact ⟨⟨I.len, I.fr, I.own, I.dist, I.kp, I.live, I.ip, I.live0, I.oe, I.sub, I.tabs, fun r hr => I.ex r (List.mem_cons_of_mem _ hr)⟩, I.ex q List.mem_cons_self⟩
theorem walk_ow {pv : Option (V × Bh.D)} {o : O} (h : OW F fr W D o) : OW (F.walk pv) fr W D o := by
  cases pv with
  | none => exact h
  | some q =>
    cases o with
    | nx e => exact fun σ H I => h σ H (walk_out (pv := some q) I).1
    | ret d e => exact fun v σ H I r => h v σ H (walk_out (pv := some q) I).1 r
    | brk e => exact fun σ H I => h σ H (walk_out (pv := some q) I).1
    | cont e => exact fun σ H I => h σ H (walk_out (pv := some q) I).1
    | exc c e => exact fun dx σ H I => h dx σ H (walk_out (pv := some q) I).1
    | err => exact h
theorem walk_ok {pv : Option (V × Bh.D)} (k : SOk p ow io F) : SOk p ow io (F.walk pv) := by
  cases pv with
  | none => exact k
  | some q => exact ⟨⟨k.ok.ow, k.ok.G, k.ok.T, k.ok.oe⟩, k.ox, k.ip⟩
theorem walk_G {pv : Option (V × Bh.D)} : (F.walk pv).G = F.G ∧ (F.walk pv).ow = F.ow ∧ ∀ σ env, OO (F.walk pv) σ env = OO F σ env := by
  cases pv with
  | none => exact ⟨rfl, rfl, fun _ _ => rfl⟩
  | some q => exact ⟨rfl, rfl, fun _ _ => rfl⟩
theorem ow_wishI {r : R (List Bh.D)} {kk : List Bh.D → Env → O} (I : FI F σ H env) (h : OW F fr W D (r.o kk)) : Wish F W σ H env r fun d env' H' => OW F fr W D (kk d env') := by
  cases r with
  | ok d e => exact fun H' P => h
  | exc c e => exact fun dx H' P => h dx σ H' P.fi
  | err => exact h
theorem r_for (C : Cok p N tl sc k X W) (S : Sets N sc X) {t : T} {it : It} {tg iter : Expr} {b : List Bh.S} {sb : List Stmt} (hp : PassesOwn (model X.prog X.w) X.A X.env X.xe) (hi : PI X tg iter (tI p ow tb cf W it)) (ht : mT N sc t tg = true) (hb : PSs X sb (tS p ow io fr W (evSs tb cf b)))
    (hs : isSetE iter = false) (ho : ∀ i ∈ t.slots, i ∉ ow) : PS X (.For tg iter sb [] pos) (tS p ow io fr W (evS tb cf (.fors t it b))) := by
  refine ⟨fun pins s σ H D Iv ⟨F, env, ok, I, w⟩ => (ps_for hp C.calm hi (pg_T S ht) hb (fun x => folded hs _ x)).run pins s σ H D Iv ?_⟩
  have hK : F.G.K = X.K := by rw [ok.ok.G]; exact C.facts.hK
  rw [evS] at w
  refine ⟨F, env, ok.ok, I, (ow_wishI I w).imp fun ds env' H' P w J pv hJ hA => ?_⟩
  refine ⟨fun i m σ H => m = ds.length - i ∧ i ≤ ds.length ∧ ∃ env, FI (F.walk pv) σ H env ∧ OW F fr W D (forL t (evSs tb cf b) (ds.drop i) env), ⟨_, rfl, Nat.zero_le _, env', walk_fi P.fi hA, w⟩, fun i m σ H ⟨hm, hi, env, I, w⟩ => ?_⟩
  obtain ⟨I0, hA⟩ := walk_out I
  by_cases he : i = ds.length
  · subst he
    rw [List.drop_length, forL] at w
    exact .inl ⟨hJ.stop hA, w σ H I0⟩
  · have hlt : i < ds.length := by omega
    have hx : ds[i]? = some ds[i] := List.getElem?_eq_getElem hlt
    rw [List.drop_eq_getElem_cons hlt, forL] at w
    refine .inr ⟨(hJ.go hA hx).1, fun σ H => ∃ env, FI (F.walk pv) σ H env ∧ OW F fr W D (forL t (evSs tb cf b) (ds.drop (i + 1)) env), fun σ' H' h => ⟨ds.length - (i + 1), by omega, rfl, by omega, h⟩, fun x H' hy => ?_⟩
    obtain ⟨rfl, fx⟩ := (hJ.go hA hx).2 x H' hy
    cases hbd : bindT t ds[i] env with
    | none => simp only [hbd] at w; exact w.elim
    | some env1 =>
      simp only [hbd] at w
      obtain ⟨g1, g2, g3⟩ := walk_G (F := F) (pv := pv)
      refine tG_run (F := F.walk pv) (X := X) (by rw [g1]; exact hK) I (by rw [g1, g3]; exact fx) hbd (fun j hj => by rw [g2, ok.ok.ow]; exact ho j hj) fun σ2 I2 so oo wo => ?_
      refine ⟨F.walk pv, env1, walk_ok ok, I2, ?_⟩
      cases hb : evSs tb cf b env1 with
      | nx e1 => simp only [hb] at w; exact fun σ' H' I' => ⟨e1, I', w⟩
      | cont e1 => simp only [hb] at w; exact fun σ' H' I' => ⟨e1, I', w⟩
      | brk e1 => simp only [hb] at w; exact walk_ow (o := .nx e1) w
      | ret d e1 => simp only [hb] at w; exact walk_ow (o := .ret d e1) w
      | exc c e1 => simp only [hb] at w; exact walk_ow (o := .exc c e1) w
      | err => simp only [hb] at w; exact w
end
end Bh
/-! text Bh5n -/
set_option Elab.async false
set_option linter.all false
set_option maxRecDepth 100000
set_option maxHeartbeats 1000000
/-! Bh5n: more statements. -/
namespace Bh
open PySem PySem.W L2 PyProof.Rows
def isTupE : Expr → Bool
  | .Tuple _ _ _ => true
  | _ => false
section
variable {p : Pr} {N : List Str} {ow io : List Nat} {tl fr : Bool} {sc : Scope} {F : Fm} {k : Nat} {X : Cx} {W : WX} {cf : CF} {tb : Tb} {pos : Pos} {es : Es}
variable {σ : L2.St} {H : Hp} {env : Env} {D : Ends}
theorem r_bind (C : Cok p N tl sc k X W) (S : Sets N sc X) {is : List Nat} {e : E} {ex tg : Expr} (ht : mT N sc (.many is) tg = true) (he : PE X ex (tE p ow tb cf W e)) (hc : isTupE ex = false) (ho : ∀ i ∈ is, i ∉ ow) : PS X (.Assign [tg] ex pos) (tS p ow io fr W (evS tb cf (.bind is e))) := by
  have hg := pg_T S ht
  unfold mT at ht
  split at ht
  · rename_i h; cases h
  · rename_i es k1 p1 h
    cases h
    have h1 : swapsWithSole [.Tuple es k1 p1] ex pos.line X.env = pure false := by cases ex <;> rfl
    have h2 : swappedStores [.Tuple es k1 p1] ex X.env = pure none := by cases ex <;> first | rfl | (simp [isTupE] at hc)
    refine PSimp (ps_asg he hg h1 h2 rfl) fun D σ H ⟨F, env, ok, I, w⟩ => ⟨F, env, ok.ok, I, ?_⟩
    have hK : F.G.K = X.K := by rw [ok.ok.G]; exact C.facts.hK
    rw [evS] at w
    refine (ow_wish I w).imp fun d env' H' P w v r => ?_
    cases hb : bindT (.many is) d env' with
    | none => simp only [hb] at w; exact w.elim
    | some env1 =>
      simp only [hb] at w
      exact tG_run (F := F) (X := X) hK P.fi r.1 hb (fun i hi => by rw [ok.ok.ow]; exact ho i hi) fun σ' I' _ _ _ => w σ' H' I'
  · cases ht
theorem asg_lc (C : Cok p N tl sc k X W) {i : Nat} {y : Str} {py : Pos} {t : T} {it : It} {c : Option E} {e : E} {elt tg iter : Expr} {ifs : List Expr} {scope : Scope} {own : List (Str × Nat)} {lpos : Pos} (hy : N[i]? = some y) (hyl : sc.names.lookup y = some .local) (hk : sc.kind = .function) (hline : (py.line == lpos.line) = true)
    (hn : (scope.names.any fun (n, k) => n == y && (k == .local || k == .cell)) = false) (hi : PI X tg iter (tI p ow tb cf W it)) (bk : BlkOk N sc scope own) (hown : own.map (·.2) = t.slots)
    (hg : ∀ (s : Shared) (H : Hp) (Cc : Addr) (cl : List (Str × Addr)) (fp : List Addr), PG (X.blk s H scope (compEnvC scope cl Cc X.env) fp) tg (tG X.K t))
    (ht : ∀ (s : Shared) (H : Hp) (Cc : Addr) (cl : List (Str × Addr)) (fp : List Addr), PTs (X.blk s H scope (compEnvC scope cl Cc X.env) fp) ifs (tCd p ow tb cf c))
    (he : ∀ (s : Shared) (H : Hp) (Cc : Addr) (cl : List (Str × Addr)) (fp : List Addr), PE (X.blk s H scope (compEnvC scope cl Cc X.env) fp) elt (tE p ow tb cf W0 e)) (hs : isSetE iter = false) (ho : ∀ i ∈ t.slots, i ∉ ow) :
    AsgN p ow tb cf W X (.Assign [.Name y py] (.ListComp elt [⟨tg, iter, ifs, 0⟩] scope lpos) pos) i (.lc t it c e) := by
  have b2 : BlkOk X.N X.env.scope scope own := by rw [C.nm, C.scope]; exact bk
  have h1 := ps_setLc (spos := pos) (py := py) C.calm C.nd (by rw [C.nm]; exact hy) (by rw [C.scope]; exact hyl) (sw_true (pos := lpos) (by rw [C.scope]; exact hk) (by rw [C.scope]; exact hyl) hline hn) hi b2 hg ht he (fun x => folded hs _ x)
  rw [hown] at h1
  exact PSimp h1 fun D σ H h => lc_read C ho h
/-! places -/
theorem sub_asg {o i : Expr} (h : isSlice i = false) (v : Value) (env : PySem.Env) : assign (.Subscript o i pos) env v = (do
      let ov ← holding [v] (eval o env)
      let iv ← holding [v, ov] (eval i env)
      standAt pos
      holding [v, ov, iv] (setItem ov iv v)
      release [v, ov, iv] []) := by
  cases i <;> first | rfl | (simp [isSlice] at h)
theorem r_setIx (C : Cok p N tl sc k X W) {i : Nat} {ek ev : E} {o ke ve : Expr} {tp : Pos} (ho : PE X o (tVar i)) (hi : i ∈ ow) (hk : PE X ke (tE p ow tb cf W ek)) (hv : PE X ve (tE p ow tb cf W ev)) (hs : isSlice ke = false) (hc : isComp ve = false) : PS X (.Assign [.Subscript o ke tp] ve pos) (tS p ow io fr W (evS tb cf (.setIx i ek ev))) := by
  have h1 : swapsWithSole [.Subscript o ke tp] ve pos.line X.env = pure false := by
    show swapsWith ve (some (.Subscript o ke tp)) pos.line X.env = pure false
    exact no_swap hc _ _ _
  refine PSimp (ps_asg hv (pg_sub ho hk set_list (fun v => sub_asg hs v _)) h1 rfl rfl) fun D σ H ⟨F, env, ok, I, w⟩ => ⟨F, env, ok.ok, I, ?_⟩
  rw [evS] at w
  refine (ow_wish I w).imp fun y env1 H1 P1 w v r => ?_
  have hio : i ∈ F.ow := by rw [ok.ok.ow]; exact hi
  cases hg : env1.get i with
  | none => simp only [hg] at w; exact w.elim
  | some d0 =>
    simp only [hg] at w
    obtain ⟨q, hs', c0, _⟩ := P1.fi.own i d0 hg hio
    refine ⟨_, hs', F, env1, ok.ok, P1.fi, (ow_wish P1.fi w).imp fun x env2 H2 P2 w z rz => ?_⟩
    cases hg2 : env2.get i with
    | none => simp only [hg2] at w; exact w.elim
    | some d2 =>
      simp only [hg2] at w
      obtain ⟨q2, hs2, c2, _⟩ := P2.fi.own i d2 hg2 hio
      rw [hs'] at hs2
      cases hs2
      cases d2 with
      | lst xs =>
        cases x with
        | int n =>
          cases hx : ixN xs.length n with
          | none => simp only [hx] at w; exact w.elim
          | some j =>
            simp only [hx] at w
            have fz := rz.1
            cases fz
            cases c2 with
            | lst e1 r1 =>
              rename_i ws
              have hp : OO F σ env2 q := .inr ⟨i, hio, ⟨_, hg2⟩, hs'⟩
              have st : Stp H2 (OO F σ env2) (upd H2 q (.lst (ws.set j v))) (OO F σ env2) := ⟨fun a o h _ m => (by rw [upd_ne (fun z => m (by rw [z]; exact hp))]; exact h), fun _ z => .inl z, av_upd fun _ z => nomatch z⟩
              refine ⟨q, ws, n, j, rfl, rfl, e1, ?_, ?_⟩
              · rw [ixN_eq, r1.length]; exact hx
              · have P3 := P2.fi.write (d' := .lst (xs.set j y)) hio hg2 hs' (.lst upd_same ((r1.carry st).set ((r.1.carry P2.stp).carry st) j))
                exact w _ _ P3.fi
        | _ => exact w.elim
      | _ => exact w.elim
theorem FRf.snoc {G : Gx} {O : Addr → Prop} {f : Nat} {v : V} {d : Bh.D} (r : FR G H O v d) : ∀ {vs : List (Str × V)} {fs : List (Nat × Bh.D)}, FRf G H O vs fs → FRf G H O (vs ++ [(G.fnm f, v)]) (fs ++ [(f, d)])
  | _, _, .nil => .cons r .nil
  | _, _, .cons a b => .cons a (FRf.snoc r b)
theorem putF_new {f : Str} {v : V} : ∀ {fs : List (Str × V)}, fs.lookup f = none → putF f v fs = fs ++ [(f, v)]
  | [], _ => rfl
  | (g, x) :: r, h => by
    rw [List.lookup_cons] at h
    by_cases e : f = g
    · subst e; simp at h
    · have e1 : (f == g) = false := by simpa using e
      rw [e1] at h
      show (if g = f then _ else (g, x) :: putF f v r) = _
      rw [if_neg (Ne.symm e), putF_new h]
      rfl
theorem FRf.look_none {G : Gx} {O : Addr → Prop} {f : Nat} (inj : ∀ g, G.fnm f = G.fnm g → f = g) : ∀ {vs : List (Str × V)} {fs : List (Nat × Bh.D)}, FRf G H O vs fs → fs.lookup f = none → vs.lookup (G.fnm f) = none
  | _, _, .nil, _ => rfl
  | _, _, .cons (f := g) a b, h => by
    rw [List.lookup_cons] at h ⊢
    by_cases e : f = g
    · subst e; simp at h
    · have e1 : (f == g) = false := by simpa using e
      have e2 : (G.fnm f == G.fnm g) = false := by simpa using fun q => e (inj g q)
      rw [e1] at h
      rw [e2]
      exact FRf.look_none inj b h
theorem r_setFld (C : Cok p N tl sc k X W) {i f : Nat} {e : E} {o ve : Expr} {tp : Pos} (ho : PE X o (tVar i)) (hi : i ∈ ow) (hv : PE X ve (tE p ow p.pg.tb cf W e)) (hc : isComp ve = false) : PS X (.Assign [.Attribute o (p.G.fnm f) tp] ve pos) (tS p ow io fr W (evS p.pg.tb cf (.setFld i f e))) := by
  refine PSimp (ps_fld ho hv (no_swap hc _ _ _)) fun D σ H ⟨F, env, ok, I, w⟩ => ⟨F, env, ok.ok, I, ?_⟩
  rw [evS] at w
  refine (ow_wish I w).imp fun y env1 H1 P1 w v r => ?_
  have hio : i ∈ F.ow := by rw [ok.ok.ow]; exact hi
  cases hg : env1.get i with
  | none => simp only [hg] at w; exact w.elim
  | some d0 =>
    simp only [hg] at w
    obtain ⟨q, hs', c0, _⟩ := P1.fi.own i d0 hg hio
    cases d0 with
    | obj c fs =>
      have w' : OW F fr W D (if p.pg.tb.fld c f && (decide (fs.length < 100) && (fs.lookup f).isNone) then .nx (env1.put i (.obj c (fs ++ [(f, y)]))) else .err) := w
      split at w'
      · rename_i hc1
        simp only [Bool.and_eq_true, decide_eq_true_eq, Option.isNone_iff_eq_none] at hc1
        obtain ⟨h1, h2, h3⟩ := hc1
        obtain ⟨g1, g2⟩ := C.facts.fld c f h1
        cases c0 with
        | obj e1 r1 =>
          rename_i dx ws
          have hp : OO F σ env1 q := .inr ⟨i, hio, ⟨_, hg⟩, hs'⟩
          have ln : ws.lookup (p.G.fnm f) = none := by
            rw [← ok.ok.G]
            exact r1.look_none (fun g q => by rw [ok.ok.G] at q; exact C.facts.inj f g q) h3
          have st : Stp H1 (OO F σ env1) (upd H1 q (.ins (F.G.ca c) dx (ws ++ [(F.G.fnm f, v)]))) (OO F σ env1) := ⟨fun a o h _ m => (by rw [upd_ne (fun z => m (by rw [z]; exact hp))]; exact h), fun _ z => .inl z, av_upd fun _ z => nomatch z⟩
          refine ⟨_, hs', q, F.G.ca c, dx, ws, rfl, e1, by rw [ok.ok.G]; exact g1, by rw [ok.ok.G]; exact g2, by rw [r1.length]; omega, ?_⟩
          rw [putF_new ln]
          have P3 := P1.fi.write (d' := .obj c (fs ++ [(f, y)])) hio hg hs' (.obj upd_same ((r1.carry st).snoc (r.1.carry st)))
          rw [← ok.ok.G]
          exact w' _ _ P3.fi
      · exact w'.elim
    | _ => exact w.elim
theorem r_raise (C : Cok p N tl sc k X W) {c : Nat} {m : Str} {j : Nat} {q p2 p3 : Pos} (hx : p.exc c = true) (hg : gloB sc (p.cn c) = true) (hpn : plainName (p.cn c) = true) : PS X (.Raise (some (.Call (.Name (p.cn c) q) [.Constant (.str m) j p2] [] p3)) none pos) (tS p ow io fr W (evS tb cf (.raise c))) := by
  obtain ⟨g1, g2, g3, g4, g5⟩ := C.facts.exc c hx
  simp only [plainName, Bool.and_eq_true, Bool.not_eq_true'] at hpn
  refine PSimp (ps_raise C.calm C.tk (pmk_own PySem.F.excBase_ValueError g5 g1 g2 (raises_own g3 g4) (C.gl hg) hpn.1.1)) fun D σ H ⟨F, env, ok, I, w⟩ => ?_
  rw [evS] at w
  have := w none σ H I
  rw [ok.ok.G] at this
  exact this
/-! two at once -/
def parOk (px py : Pos) (x y : Str) (a b : Expr) : Bool := (px.line == py.line) && !(x == y) && !isStar a && !isStar b && !(foldedForSure 8 a && foldedForSure 8 b) && !(constantsAlone 8 a && constantsAlone 8 b)
theorem par_sw {px py pt pt2 : Pos} {kt k2 : Nat} {x y : Str} {a b : Expr} {env : PySem.Env} (hk : env.scope.kind = .function) (kx : env.scope.names.lookup x = some .local) (ky : env.scope.names.lookup y = some .local) (h : parOk px py x y a b = true) :
    swappedStores [.Tuple [.Name x px, .Name y py] kt pt] (.Tuple [a, b] k2 pt2) env = pure (some [x, y]) := by
  unfold parOk at h
  simp only [Bool.and_eq_true, Bool.not_eq_true', beq_iff_eq, beq_eq_false_iff_ne] at h
  obtain ⟨⟨⟨⟨⟨h1, h2⟩, h3⟩, h4⟩, h5⟩, h6⟩ := h
  have hb : env.blockKind = .function := by unfold Env.blockKind; rw [hk]; rfl
  have kx : env.kindOf x = some .local := kx
  have ky : env.kindOf y = some .local := ky
  have hs : ∀ f : Expr → Bool, (∀ e, isStar e = false → f e = false) → [a, b].any f = false := fun f hf => by simp [hf a h3, hf b h4]
  have hne : (y == x) = false := by simpa using fun z => h2 z.symm
  have e2 : [x, y].eraseDups = [x, y] := by simp [List.eraseDups_cons, hne]
  unfold swappedStores
  simp only []
  rw [if_neg (by simp [hb]), if_neg (by rw [hs _ (fun e he => by cases e <;> first | rfl | (simp [isStar] at he))]; decide)]
  simp only [List.filterMap_cons, List.filterMap_nil, kx, ky, Expr.pos, h1, List.head?_cons, Option.map_some, Option.getD_some, BEq.rfl, Bool.and_self, if_true, e2, List.length_cons, List.length_nil, List.all_cons, List.all_nil, Bool.and_true, h5, h6]
  rfl
theorem Post.unguard2 {H' : Hp} {env' : Env} {q : Addr} (oe : ∀ a, F.Oe a → F.Ox a) (P : Post (F.guard q) σ H env H' env') : Post F σ H env H' env' where
  fi := P.fi.unguard oe
  stp := ⟨fun a u h t m => P.kx a u h (fun z => m (.inr z)) t, fun a z => .inl (z.imp id (P.ow a)), P.stp.dom⟩
  ow := P.ow
  kx := P.kx
theorem Wish.guard2 {q : Addr} {α : Type} {r : R α} {S : α → Env → Hp → Prop} (oe : ∀ a, F.Oe a → F.Ox a) (w : Wish F W σ H env r S) :
    Wish (F.guard q) W σ H env r fun a env' H' => Post (F.guard q) σ H env H' env' ∧ S a env' H' := by
  cases r with
  | ok a e => exact fun H' P => ⟨P, w H' (P.unguard2 oe)⟩
  | exc c e => exact fun dx H' P => w dx H' (P.unguard2 oe)
  | err => exact w
theorem thaw_oo {q : Addr} {i : Nat} {d : Bh.D} (I : FI (F.guard q) σ H env) (hl : i < env.length) (a : Addr) (z : OO F (σ.set i (some (.ref q))) (env.put i d) a) : OO (F.guard q) σ env a := by
  have hls : i < σ.length := by rw [← I.len]; exact hl
  rw [guard_oo]
  rcases z with z | ⟨j, hj, ⟨e, he⟩, h⟩
  · exact .inl (.inl z)
  · by_cases q : j = i
    · subst q
      rw [List.getElem?_set_self hls] at h
      cases h
      exact .inr rfl
    · rw [get_put hl, if_neg q] at he
      rw [List.getElem?_set_ne (Ne.symm q)] at h
      exact .inl (.inr ⟨j, hj, ⟨e, he⟩, h⟩)
theorem r_par2 (C : Cok p N tl sc k X W) {i j : Nat} {fi : Bool} {ea eb : E} {x y : Str} {a b : Expr} {px py pt pt2 : Pos} {kt k2 : Nat} (hi : N[i]? = some x) (hj : N[j]? = some y) (hij : i ≠ j) (hx : sc.names.lookup x = some .local) (hy : sc.names.lookup y = some .local) (hk : sc.kind = .function)
    (ha : PE X a (tE p ow tb cf W ea)) (hb : PE X b (tE p ow tb cf W eb)) (hok : parOk px py x y a b = true) (h1 : fi = false → i ∉ ow) (h2 : fi = true → i ∈ ow ∧ i ∉ io) (h3 : j ∉ ow) :
    PS X (.Assign [.Tuple [.Name x px, .Name y py] kt pt] (.Tuple [a, b] k2 pt2) pos) (tS p ow io fr W (evS tb cf (.par2 i fi ea j false eb))) := by
  have sa : isStar a = false ∧ isStar b = false := by
    unfold parOk at hok
    simp only [Bool.and_eq_true, Bool.not_eq_true'] at hok
    exact ⟨hok.1.1.1.2, hok.1.1.2⟩
  have pa := pa_cons ha (pa_cons hb pa_nil (starEach_cons sa.2 _ _)) (starEach_cons sa.1 _ _)
  refine ⟨fun pins s σ H D Iv ⟨F, env, ok, I, w⟩ => (ps_par C.calm C.nd (by rw [C.nm]; exact hi) (by rw [C.nm]; exact hj) hij (by rw [C.scope]; exact hx) (by rw [C.scope]; exact hy) pa (par_sw (by rw [C.scope]; exact hk) (by rw [C.scope]; exact hx) (by rw [C.scope]; exact hy) hok) rfl).run pins s σ H D Iv ?_⟩
  have hlen : i < σ.length := by
    rw [Iv.len, C.nm]
    exact (List.getElem?_eq_some_iff.mp hi).1
  rw [evS] at w
  refine ⟨F, env, ok.ok, I, (ow_wish I w).imp fun dx env1 H1 P1 w v r => ?_⟩
  cases fi with
  | false =>
    refine ⟨F, env1, ok.ok, P1.fi, (ow_wish P1.fi w).imp fun dy env2 H2 P2 w u ru => ?_⟩
    refine ⟨v, u, rfl, ?_⟩
    obtain ⟨I1, o1, _⟩ := set_one P2.fi (i := i) (by rw [ok.ok.ow]; exact h1 rfl) (r.1.carry P2.stp)
    obtain ⟨I2, _, _⟩ := set_one I1 (i := j) (by rw [ok.ok.ow]; exact h3) (ru.1.carry (.mono fun a z => (o1 a).mp z))
    exact w _ H2 I2
  | true =>
    by_cases hc : (isNew tb ea (kindOf dx) && !(kindOf dx == 0)) = true
    · have hc' := hc
      simp only [Bool.and_eq_true, Bool.not_eq_true', beq_eq_false_iff_ne] at hc'
      obtain ⟨q, rfl, hq, nO, cq, Iq⟩ := r.2 hc'.1 hc'.2
      refine ⟨F.guard q, env1, ok.ok.guard q, Iq, (Wish.guard2 ok.ok.oe (ow_wish P1.fi w)).imp fun dy env2 H2 P2 ⟨_, w⟩ u ru => ?_⟩
      refine ⟨_, u, rfl, ?_⟩
      have w' : OW F fr W D (setO true (isNew tb ea) env2 i dx fun env => setO false (isNew tb eb) env j dy .nx) := w
      unfold setO at w'
      rw [if_neg (by simp [hc])] at w'
      have w' : OW F fr W D (.nx ((env2.put i dx).put j dy)) := w'
      have nown : ¬ ownA F.ow σ env1 q := fun z => nO (.inr z)
      obtain ⟨o, ho, ht⟩ := cq.av
      have hq2 : H2 q = H1 q := (P2.kx q o ho nown ht).trans ho.symm
      have nO2 : ¬ OO F σ env2 q := fun z => nO (z.imp id (P2.ow q))
      have hl2 : i < env2.length := by rw [P2.fi.len]; exact hlen
      have I1 := P2.fi.thaw (d := dx) ok.ok.oe (by rw [ok.ok.ow]; exact (h2 rfl).1) hl2 (fun b hb z => (h2 rfl).2 (z ▸ ok.ip b hb)) nO2 (fun z => hq (I.sub q z)) (cq.carry P2.stp hq2)
      obtain ⟨I2, _, _⟩ := set_one I1 (i := j) (by rw [ok.ok.ow]; exact h3) (ru.1.carry (.mono (thaw_oo P2.fi hl2)))
      exact w' _ H2 I2
    · -- the slot cannot own
      refine ⟨F, env1, ok.ok, P1.fi, (ow_wish P1.fi w).imp fun dy env2 H2 P2 w u ru => ?_⟩
      have w' : OW F fr W D (setO true (isNew tb ea) env2 i dx fun env => setO false (isNew tb eb) env j dy .nx) := w
      unfold setO at w'
      rw [if_pos (by simp only [Bool.true_and, Bool.not_eq_true']; simpa using hc)] at w'
      exact w'.elim
end
end Bh
/-! text Bh5o -/
set_option Elab.async false
set_option linter.all false
set_option maxRecDepth 100000
set_option maxHeartbeats 1000000
/-! Bh5o: defs. -/
namespace Bh
open PySem PySem.W L2 PyProof.Rows
/-- what a def's record must meet -/
structure DefOk (df : Def) (N ps : List Str) : Prop where
  nl : N.length = df.nl
  np : ps.length = df.np
  le : df.np ≤ df.nl
  io : ∀ i ∈ df.io, i ∈ df.ow ∧ i < df.np
  par : ∀ i ∈ df.ow, i < df.np → i ∈ df.io
def ioP (io : List Nat) (vs : List V) : List (Nat × Addr) := io.filterMap fun i => match (vs[i]? : Option V) with
  | some (V.ref a) => some (i, a)
  | _ => none
theorem mem_ioP {io : List Nat} {vs : List V} {i : Nat} {a : Addr} : (i, a) ∈ ioP io vs ↔ i ∈ io ∧ vs[i]? = some (.ref a) := by
  unfold ioP
  rw [List.mem_filterMap]
  constructor
  · rintro ⟨j, h1, h2⟩
    split at h2
    · rename_i b hb
      cases h2
      exact ⟨h1, hb⟩
    · cases h2
  · rintro ⟨h1, h2⟩
    exact ⟨i, h1, by rw [h2]⟩
theorem startE_len {df : Def} {ds : List D} (h : ds.length ≤ df.nl) : (startE df ds).length = df.nl := by
  unfold startE
  rw [List.length_append, List.length_map, List.length_replicate]
  omega
theorem startE_get {df : Def} {ds : List D} {i : Nat} {d : D} : (startE df ds).get i = some d ↔ ds[i]? = some d := by
  unfold startE Env.get
  by_cases h : i < ds.length
  · rw [List.getElem?_append_left (by rw [List.length_map]; exact h), List.getElem?_map, List.getElem?_eq_getElem h]
    simp
  · rw [List.getElem?_append_right (by rw [List.length_map]; omega), List.getElem?_eq_none (l := ds) (by omega), List.getElem?_replicate]
    split <;> simp
theorem start_get {N : List Str} {vs : List V} {i : Nat} {v : V} (h : vs[i]? = some v) : (L2.start N vs)[i]? = some (some v) := by
  unfold L2.start
  have hl := (List.getElem?_eq_some_iff.mp h).1
  rw [List.getElem?_append_left (by rw [List.length_map]; exact hl), List.getElem?_map, h]
  rfl
theorem start_inv {N : List Str} {vs : List V} {i : Nat} {v : V} (h : (L2.start N vs)[i]? = some (some v)) : vs[i]? = some v := by
  unfold L2.start at h
  by_cases hl : i < vs.length
  · rw [List.getElem?_append_left (by rw [List.length_map]; exact hl), List.getElem?_map, List.getElem?_eq_getElem hl] at h
    rw [List.getElem?_eq_getElem hl]
    simpa using h
  · rw [List.getElem?_append_right (by rw [List.length_map]; omega), List.getElem?_replicate] at h
    split at h <;> simp at h
theorem start_len {N : List Str} {vs : List V} (h : vs.length ≤ N.length) : (L2.start N vs).length = N.length := by
  unfold L2.start
  rw [List.length_append, List.length_map, List.length_replicate]
  omega
/-- the frame at a def's entry -/
def fm0 (p : Pr) (df : Def) (Oe : Addr → Prop) (vs : List V) (H : Hp) : Fm := ⟨p.G, df.ow, ioP df.io vs, p.T, Oe, Oe, H, []⟩
theorem fi0 {p : Pr} {df : Def} {N ps : List Str} (k : DefOk df N ps) {H : Hp} {Oe : Addr → Prop} {vs : List V} {ds : List D} (a : AR p.T df p.G H Oe vs ds) : FI (fm0 p df Oe vs H) (L2.start N vs) H (startE df ds) := by
  have oo : ∀ b, OO (fm0 p df Oe vs H) (L2.start N vs) (startE df ds) b → Oe b := fun b z => by
    rcases z with z | ⟨i, hi, ⟨d, hd⟩, hs⟩
    · exact z
    · have hd' := startE_get.mp hd
      have hlt : i < df.np := by rw [← a.dl]; exact (List.getElem?_eq_some_iff.mp hd').1
      obtain ⟨q, q1, q2, _⟩ := a.io i d hd' (k.par i hi hlt)
      rw [start_inv hs] at q1
      cases q1
      exact q2
  refine ⟨?_, fun i d h n => ?_, fun i d h n => ?_, fun i j b hi hj ⟨d, hd⟩ ⟨e, he⟩ h1 h2 => ?_, fun _ _ h _ _ => h, a.live, fun q hq => ?_, a.live, fun _ z => z, fun _ z => z, a.tabs, fun _ h => nomatch h⟩
  · rw [startE_len (by rw [a.dl]; exact k.le), start_len (by rw [a.vl, k.nl]; exact k.le), k.nl]
  · have h' := startE_get.mp h
    have hni : i ∉ df.io := fun z => n (k.io i z).1
    obtain ⟨v, h1, h2⟩ := a.fr i d h' hni
    exact ⟨v, start_get h1, h2.carry (.mono oo)⟩
  · have h' := startE_get.mp h
    have hlt : i < df.np := by rw [← a.dl]; exact (List.getElem?_eq_some_iff.mp h').1
    have hi := k.par i n hlt
    obtain ⟨q, q1, q2, q3⟩ := a.io i d h' hi
    exact ⟨q, start_get q1, q3.carry (.mono oo) rfl, .inl ⟨i, mem_ioP.mpr ⟨hi, q1⟩⟩⟩
  · have hd' := startE_get.mp hd
    have he' := startE_get.mp he
    exact a.dist i j b (k.par i hi (by rw [← a.dl]; exact (List.getElem?_eq_some_iff.mp hd').1)) (k.par j hj (by rw [← a.dl]; exact (List.getElem?_eq_some_iff.mp he').1)) (start_inv h1) (start_inv h2)
  · obtain ⟨i, b⟩ := q
    obtain ⟨h1, h2⟩ := mem_ioP.mp hq
    obtain ⟨g1, g2⟩ := k.io i h1
    have hlt : i < ds.length := by rw [a.dl]; exact g2
    obtain ⟨q', q1, q2, q3⟩ := a.io i ds[i] (List.getElem?_eq_getElem hlt) h1
    rw [h2] at q1
    cases q1
    exact ⟨g1, q2, start_get h2, ds[i], startE_get.mpr (List.getElem?_eq_getElem hlt)⟩
theorem outs_spec : ∀ {env : Env} {io : List Nat} {os : List D}, outsOf env io = some os → os.length = io.length ∧ ∀ (n i : Nat) (d : D), io[n]? = some i → os[n]? = some d → env.get i = some d
  | env, [], os, h => by
    simp [outsOf] at h
    subst h
    exact ⟨rfl, fun n i d h1 _ => by simp at h1⟩
  | env, i :: io, os, h => by
    unfold outsOf at h
    split at h
    · rename_i d ds h1 h2
      cases h
      obtain ⟨l, s⟩ := outs_spec h2
      refine ⟨by simp [l], fun n j e hj he => ?_⟩
      cases n with
      | zero =>
        simp only [List.getElem?_cons_zero, Option.some.injEq] at hj he
        rw [← hj, ← he]; exact h1
      | succ n => exact s n j e (by simpa using hj) (by simpa using he)
    · cases h
theorem dp_of {p : Pr} {df : Def} {N ps : List Str} (k : DefOk df N ps) {H H' : Hp} {Oe : Addr → Prop} {vs : List V} {ds : List D} (a : AR p.T df p.G H Oe vs ds) {σ : L2.St} {env : Env} {os : List D} {O' : Addr → Prop} (I : FI (fm0 p df Oe vs H) σ H' env) (ho : outsOf env df.io = some os)
    (hc : ∀ j b, (j, b) ∈ ioP df.io vs → ∀ e, env.get j = some e → Cont p.G H' O' b e) : DP p.T df.io vs p.G H Oe H' O' os := by
  obtain ⟨l, s⟩ := outs_spec ho
  refine ⟨fun b o h n t => I.kp b o h (fun j hj => n j (mem_ioP (io := df.io) (vs := vs) (i := j) (a := b) |>.mp hj).1 (mem_ioP (io := df.io) (vs := vs) (i := j) (a := b) |>.mp hj).2) t, l, fun n i d h1 h2 => ?_, I.sub, I.tabs⟩
  have hi : i ∈ df.io := List.mem_of_getElem? h1
  have hlt : i < ds.length := by rw [a.dl]; exact (k.io i hi).2
  obtain ⟨q, q1, _, _⟩ := a.io i ds[i] (List.getElem?_eq_getElem hlt) hi
  exact ⟨q, q1, hc i q (mem_ioP.mpr ⟨hi, q1⟩) d (s n i d h1 h2)⟩
theorem io_cont {p : Pr} {df : Def} {H H' : Hp} {Oe : Addr → Prop} {vs : List V} {σ : L2.St} {env : Env} (I : FI (fm0 p df Oe vs H) σ H' env) : ∀ j b, (j, b) ∈ ioP df.io vs → ∀ e, env.get j = some e → Cont p.G H' Oe b e := fun j b hj e he => by
  obtain ⟨i1, i2, i3, i4⟩ := I.ip (j, b) hj
  obtain ⟨b', h1, h2, _⟩ := I.own j e he i1
  rw [i3] at h1
  cases h1
  exact h2.carry (.mono fun a z => .inl z) rfl
/-- a def as it stands in the program -/
structure DefAt (p : Pr) (prog : Program) (w : World) (K : Frag) (mg : Str → Option Value) (base : Heap) (f : Nat) (df : Def) : Prop where
  ex : ∃ (name qual : Str) (params : Arguments) (body : List Stmt) (scope : Scope) (dV kV doc pm cdv ct oc : Value) (an od : Option Addr) (osl : Array (Option Value)) (N : List Str) (tl : Bool),
    K.lookup (p.da f) = some ⟨oc, od, .func (fnOf name qual params body scope dV kV doc pm an cdv ct), osl⟩ ∧ codeIn K cdv qual = true ∧ FnScope N (p.dps f) scope ∧ p.dfd f = fnOf name qual params body scope dV kV doc pm an cdv ct ∧ DefOk df N (p.dps f) ∧
    (tl = true → ∃ c P, LamX.TabB base mg c P ∧ cdv = .ref c ∧ (P, (qual ++ ".<locals>.") ++ "<lambda>") ∈ p.T ∧ ∀ q ∈ p.T, q.1 = P → q.2 = (qual ++ ".<locals>.") ++ "<lambda>") ∧
    ∀ (k : Nat) (X : Cx) (W : WX), Cok p N tl scope k X W → X.prog = prog → X.w = w → X.K = K → X.mg = mg → Sets N scope X → PassesOwn (model X.prog X.w) X.A X.env X.xe → PSs X body (tS p df.ow df.io df.fr W (evSs p.pg.tb (lev p.pg k) df.body))
theorem def_step {p : Pr} {prog : Program} {w : World} {K : Frag} {mg : Str → Option Value} {base : Heap} {k f : Nat} {df : Def} (hf : p.pg.defs f = some df) (D : DefAt p prog w K mg base f df) (A0 : Facts p prog w K mg base k) :
    FnOk prog w K mg base (L2.CX prog w) (k + 1) (p.da f) (p.dfd f) (p.dps f) (spD p df ((lev p.pg (k + 1)).c 0 f)) := by
  obtain ⟨name, qual, params, body, scope, dV, kV, doc, pm, cdv, ct, oc, an, od, osl, N, tl, h1, h2, h3, h4, h5, h6, h7⟩ := D.ex
  rw [h4]
  refine fn_of h1 h2 h3 (fun vs H Q E ⟨Oe, ds, a, _⟩ => by rw [a.vl, h5.np]) fun A outer s H vs Q E hr ⟨Oe, ds, a, sp⟩ => ?_
  have tk := takes_of (X := cxOf (L2.CX prog w) prog w K mg base N qual scope (p.da f) cdv A outer s H E) rfl rfl rfl rfl
  have C : Cok p N tl scope k (cxOf (L2.CX prog w) prog w K mg base N qual scope (p.da f) cdv A outer s H E) (fun cls d _ H' => E cls d H') := ⟨rfl, h3.nd, rfl, rfl, hr, tk, fun htl => by
    obtain ⟨c, P, t1, t2, t3, t4⟩ := h6 htl
    exact ⟨c, P, _, congrArg (fun z : Str => z ++ "<lambda>") (show (cxOf (L2.CX prog w) prog w K mg base N qual scope (p.da f) cdv A outer s H E).env.qual = qual ++ ".<locals>." from rfl), t1, t2, t3, t4⟩, A0⟩
  have hs := h7 k _ _ C rfl rfl rfl rfl ⟨rfl, h3.nd, rfl, fun x hx => ⟨hx, .inl rfl⟩⟩ (passes_of rfl)
  refine ⟨_, hs, fm0 p df Oe vs H, startE df ds, ⟨⟨rfl, rfl, rfl, fun _ z => z⟩, rfl, fun q hq => (mem_ioP.mp (by exact hq : (q.1, q.2) ∈ ioP df.io vs)).1⟩, fi0 h5 a, ?_⟩
  have e0 : (lev p.pg (k + 1)).c 0 f ds = endD df (evSs p.pg.tb (lev p.pg k) df.body (startE df ds)) := by
    show call1 p.pg (lev p.pg k) f ds = _
    unfold call1
    rw [hf]
    simp only []
    rw [if_pos a.dl]
  rw [e0] at sp
  cases hev : evSs p.pg.tb (lev p.pg k) df.body (startE df ds) with
  | err => rw [hev] at sp; exact sp.elim
  | brk e => rw [hev] at sp; exact sp.elim
  | cont e => rw [hev] at sp; exact sp.elim
  | nx e =>
    rw [hev] at sp
    cases ho : outsOf e df.io with
    | none => simp only [endD, ho] at sp
    | some os =>
      simp only [endD, ho] at sp
      exact fun σ H' I => sp .non H' (dp_of h5 a I ho (io_cont I)) .non fun _ z => by rcases z with z | z <;> cases z
  | ret r e =>
    rw [hev] at sp
    cases ho : outsOf e df.io with
    | none => simp only [endD, ho] at sp
    | some os =>
      simp only [endD, ho] at sp
      intro v σ H' I R
      refine sp v H' (dp_of h5 a I ho (io_cont I)) R.1 fun z1 z2 => ?_
      obtain ⟨q, g1, g2, g3, g4⟩ := R.2 z1 z2
      exact ⟨q, g1, g2, g3, dp_of h5 a I ho g4⟩
  | exc c e =>
    rw [hev] at sp
    cases ho : outsOf e df.io with
    | none => simp only [endD, ho] at sp
    | some os =>
      simp only [endD, ho] at sp
      exact fun dx σ H' I => sp dx H' (dp_of h5 a I ho (io_cont I))
theorem def_zero {p : Pr} {prog : Program} {w : World} {K : Frag} {mg : Str → Option Value} {base : Heap} {f : Nat} {df : Def} (np : (p.dps f).length = df.np) :
    FnOk prog w K mg base (L2.CX prog w) 0 (p.da f) (p.dfd f) (p.dps f) (spD p df ((lev p.pg 0).c 0 f)) :=
  ⟨fun vs H Q E ⟨Oe, ds, a, _⟩ => by rw [a.vl, np], fun A outer s H args us vs Q E _ _ _ _ ⟨Oe, ds, a, sp⟩ => sp.elim⟩
/-- all levels -/
theorem facts_all {p : Pr} {prog : Program} {w : World} {K : Frag} {mg : Str → Option Value} {base : Heap} (F0 : ∀ k, (∀ j, j ≤ k → ∀ f df, p.pg.defs f = some df → FnOk prog w K mg base (L2.CX prog w) j (p.da f) (p.dfd f) (p.dps f) (spD p df ((lev p.pg j).c 0 f))) → Facts p prog w K mg base k)
    (D : ∀ f df, p.pg.defs f = some df → DefAt p prog w K mg base f df) : ∀ k, Facts p prog w K mg base k := by
  have np : ∀ f df, p.pg.defs f = some df → (p.dps f).length = df.np := fun f df h => by
    obtain ⟨_, _, _, _, _, _, _, _, _, _, _, _, _, _, _, _, _, _, _, _, _, h5, _, _⟩ := (D f df h).ex
    exact h5.np
  intro k
  induction k with
  | zero =>
    refine F0 0 fun j hj f df h => ?_
    have : j = 0 := by omega
    subst this
    exact def_zero (np f df h)
  | succ k ih =>
    refine F0 (k + 1) fun j hj f df h => ?_
    by_cases hk : j ≤ k
    · exact ih.fn j hk f df h
    · have : j = k + 1 := by omega
      subst this
      exact def_step h (D f df h) ih
end Bh
/-! text Bh5p -/
set_option Elab.async false
set_option linter.all false
set_option maxRecDepth 100000
set_option maxHeartbeats 2000000
/-! Bh5p: the checker of expressions. -/
namespace Bh
open PySem PySem.W L2 PyProof.Rows
/-- what is fixed of a program -/
structure Cg where
  pg : Pg
  gl : Nat → Str
  dn : Nat → Str
  mn : Nat → Str
  cn : Nat → Str
  fnm : Nat → Str
  top : Nat → Bool
  exc : Nat → Bool
  ms : List (Nat × Nat × Nat)
  told : Str
def Cg.pr (c : Cg) (w : World) (K : Frag) (ca : Nat → Addr) (T : List (Addr × Str)) (da : Nat → Addr) (dfd : Nat → FuncData) (dps : Nat → List Str) : Pr := ⟨⟨w, K, ca, c.fnm⟩, T, c.pg, c.gl, c.dn, c.mn, c.cn, da, dfd, dps, c.top, c.exc⟩
def Cg.methB (g : Cg) (ow : List Nat) (m : Nat) (es : Es) : Bool := g.ms.all fun q => q.2.1 != m || match g.pg.defs q.2.2 with
  | some df => argsOk ow df.io es && (esLen es == df.np)
  | none => true
def op2Is : Op2 → Operator → Bool
  | .add, .Add => true
  | .sub, .Sub => true
  | .mul, .Mult => true
  | .fdiv, .FloorDiv => true
  | .mod, .Mod => true
  | .pow, .Pow => true
  | _, _ => false
theorem op2Is_eq {o : Op2} {q : Operator} (h : op2Is o q = true) : q = op2 o := by cases o <;> cases q <;> first | rfl | (simp [op2Is] at h)
def cm2Is : Cm → CmpOp → Bool
  | .eq, .Eq => true
  | .ne, .NotEq => true
  | .lt, .Lt => true
  | .le, .LtE => true
  | .gt, .Gt => true
  | .ge, .GtE => true
  | .isin, .In => true
  | .notin, .NotIn => true
  | .is, .Is => true
  | .isnot, .IsNot => true
  | _, _ => false
theorem cm2Is_eq {o : Cm} {q : CmpOp} (h : cm2Is o q = true) : q = cm2 o := by cases o <;> cases q <;> first | rfl | (simp [cm2Is] at h)
def isUSub : UnaryOp → Bool
  | .USub => true
  | _ => false
def isNot : UnaryOp → Bool
  | .Not => true
  | _ => false
def isAnd : BoolOp → Bool
  | .And => true
  | _ => false
def slotE (N : List Str) (sc : Scope) (i : Nat) : Expr → Bool
  | .Name x _ => decide (N[i]? = some x) && visB sc x && plainName x
  | _ => false
def asLc : Expr → Option (Expr × Expr × Expr × List Expr × Scope)
  | .ListComp elt [⟨tg, iter, ifs, 0⟩] scope _ => some (elt, tg, iter, ifs, scope)
  | _ => none
theorem asLc_eq {e elt tg iter : Expr} {ifs : List Expr} {scope : Scope} (h : asLc e = some (elt, tg, iter, ifs, scope)) : ∃ pos, e = .ListComp elt [⟨tg, iter, ifs, 0⟩] scope pos := by
  unfold asLc at h
  split at h
  · cases h; exact ⟨_, rfl⟩
  · cases h
def ownOf (N : List Str) (t : T) : List (Str × Nat) := t.slots.filterMap fun i => (N[i]?).map fun x => (x, i)
def noPar : Arguments → Bool
  | ⟨[], [], none, [], [], none, []⟩ => true
  | _ => false
theorem noPar_eq {a : Arguments} (h : noPar a = true) : a = ⟨[], [], none, [], [], none, []⟩ := by
  unfold noPar at h
  split at h
  · rfl
  · cases h
def asTold : Expr → Option (Str × Arguments × Expr × Scope)
  | .Call (.Name x _) [.Lambda a b s _] [] _ => some (x, a, b, s)
  | _ => none
theorem asTold_eq {e b : Expr} {x : Str} {a : Arguments} {s : Scope} (h : asTold e = some (x, a, b, s)) : ∃ p1 p2 p3, e = .Call (.Name x p1) [.Lambda a b s p2] [] p3 := by
  unfold asTold at h
  split at h
  · cases h; exact ⟨_, _, _, rfl⟩
  · cases h
def asPick : Expr → Option (List (Option Expr) × List Expr × Expr)
  | .Subscript (.Dict ks vs _) k _ => some (ks, vs, k)
  | _ => none
theorem asPick_eq {e k : Expr} {ks : List (Option Expr)} {vs : List Expr} (h : asPick e = some (ks, vs, k)) : ∃ p1 p2, e = .Subscript (.Dict ks vs p1) k p2 := by
  unfold asPick at h
  split at h
  · cases h; exact ⟨_, _, rfl⟩
  · cases h
mutual
def mE (g : Cg) (N : List Str) (ow : List Nat) : E → Bool → Scope → Expr → Bool
  | .var i, _, sc, pe => slotE N sc i pe && decide (i ∉ ow)
  | .own _, _, _, _ => false
  | .con d, _, _, pe => conIs d pe
  | .glob n, _, sc, pe => (match asName pe with
    | some x => decide (x = g.gl n)
    | none => false) && gloB sc (g.gl n) && plainName (g.gl n) && (g.pg.tb.glob n).isSome
  | .op o es, tl, sc, pe => match asBin pe with
    | some (a, q, b) => op2Is o q && mEs g N ow es tl sc [a, b] && lateIn ow es
    | none => false
  | .cmp c es, tl, sc, pe => match asCmp1 pe with
    | some (a, q, b) => cm2Is c q && mEs g N ow es tl sc [a, b] && lateIn ow es && !behindInMarks q b
    | none => false
  | .chain c1 c2 es c, tl, sc, pe => match asCmp2 pe with
    | some (a, q1, b, q2, d) => cm2Is c1 q1 && cm2Is c2 q2 && mEs g N ow es tl sc [a, b] && lateIn ow es && mE g N ow c tl sc d && !lastMarks [q1, q2] [b, d] && (match es with
      | .cons _ (.cons eb .nil) => (lateOf eb).isNone
      | _ => false)
    | none => false
  | .neg e, tl, sc, pe => match asUn pe with
    | some (o, a) => isUSub o && mE g N ow e tl sc a
    | none => false
  | .no e, tl, sc, pe => match asUn pe with
    | some (o, a) => isNot o && mE g N ow e tl sc a
    | none => false
  | .and a b, tl, sc, pe => match asBool pe with
    | some (o, x, r) => isAnd o && mE g N ow a tl sc x && (match asOne r with
      | some y => mE g N ow b tl sc y
      | none => mE g N ow b tl sc r)
    | none => false
  | .or a b, tl, sc, pe => match asBool pe with
    | some (o, x, r) => !isAnd o && mE g N ow a tl sc x && (match asOne r with
      | some y => mE g N ow b tl sc y
      | none => mE g N ow b tl sc r)
    | none => false
  | .ite c a b, tl, sc, pe => match asIf pe with
    | some (x, y, z) => mQ g N ow c tl sc x && mE g N ow a tl sc y && mE g N ow b tl sc z
    | none => false
  | .tup es, tl, sc, pe => match asTup pe with
    | some xs => mEs g N ow es tl sc xs && noLate es
    | none => false
  | .lst es, tl, sc, pe => match asLst pe with
    | some xs => mEs g N ow es tl sc xs && noLate es
    | none => false
  | .idx es, tl, sc, pe => match asSub pe with
    | some (a, b) => mEs g N ow es tl sc [a, b] && lateIn ow es && !isSlice b
    | none => false
  | .slice _ _ _, _, _, _ => false
  | .bf f es, tl, sc, pe => match asCall pe with
    | some (x, a :: as) => decide (x = bfName f) && gloB sc (bfName f) && mEs g N ow es tl sc (a :: as) && lateIn ow es
    | _ => false
  | .mm m i es, tl, sc, pe => match asMeth pe with
    | some (o, x, as) => (match m with
      | .append => decide (x = ("append" : Str)) && slotE N sc i o && decide (i ∈ ow) && mEs g N ow es tl sc as && (match es, as with
        | .cons e .nil, [_] => (lateOf e).isNone
        | _, _ => false)
      | _ => false)
    | none => false
  | .call f es, tl, sc, pe => match asCall pe, g.pg.defs f with
    | some (x, as), some df => decide (x = g.dn f) && g.top f && (g.pg.tb.fresh f == df.fr) && gloB sc (g.dn f) && plainName (g.dn f) && mEs g N ow es tl sc as && argsOk ow df.io es && (esLen es == df.np)
    | _, _ => false
  | .meth m o es, tl, sc, pe => match asMeth pe with
    | some (x, n, as) => decide (n = g.mn m) && (match lateOf o with
      | some i => slotE N sc i x && decide (i ∈ ow)
      | none => mE g N ow o tl sc x) && mEs g N ow es tl sc as && decide (as.length < 30) && g.methB ow m (.cons o es)
    | none => false
  | .make c es, tl, sc, pe => match asCall pe, g.pg.tb.init c with
    | some (x, as), some f => (match g.pg.defs f with
      | some df => decide (x = g.cn c) && gloB sc (g.cn c) && plainName (g.cn c) && mEs g N ow es tl sc as && noLate es && decide (df.io = [0]) && (esLen es + 1 == df.np)
      | none => false)
    | _, _ => false
  | .io _, _, _, _ => false
  | .bor _, _, _, _ => false
  | .fld es f, tl, sc, pe => match asAttr pe with
    | some (o, m) => decide (m = g.fnm f) && !isCall o && mEs g N ow es tl sc [o] && lateIn ow es && (esLen es == 1)
    | none => false
  | .lc t it c e, tl, sc, pe => match asLc pe with
    | some (elt, tg, iter, ifs, scope) => blkC N sc scope (ownOf N t) && decide ((ownOf N t).map (·.2) = t.slots) && Bh.mT N scope t tg && !isSetE iter && (t.slots.all fun i => decide (i ∉ ow)) && mI g N ow it tl sc iter && mC g N ow c false (relS scope sc) ifs && mE g N ow e false (relS scope sc) elt
    | none => false
  | .told e, tl, sc, pe => match asTold pe with
    | some (x, a, b, s) => decide (x = g.told) && gloB sc x && plainName x && tl && LamX.lamSB sc s && noPar a && mE g N ow e false s b
    | none => false
  | .pick ks es k, tl, sc, pe => match asPick pe with
    | some (keys, vals, ke) => keysAre ks keys && decide (ks.length = vals.length) && mEs g N ow es tl sc vals && noLate es && decide (ks.length = esLen es) && decide ks.Nodup && !keys.isEmpty && decide (ks.length ≤ 15) && mE g N ow k tl sc ke && !isSlice ke
    | none => false
/-- as a test -/
def mQ (g : Cg) (N : List Str) (ow : List Nat) : E → Bool → Scope → Expr → Bool
  | .cmp c es, tl, sc, pe => match asCmp1 pe with
    | some (a, q, b) => cm2Is c q && mEs g N ow es tl sc [a, b] && lateIn ow es && !behindInMarks q b
    | none => false
  | .chain c1 c2 es c, tl, sc, pe => match asCmp2 pe with
    | some (a, q1, b, q2, d) => cm2Is c1 q1 && cm2Is c2 q2 && mEs g N ow es tl sc [a, b] && lateIn ow es && mE g N ow c tl sc d && !lastMarks [q1, q2] [b, d] && (match es with
      | .cons _ (.cons eb .nil) => (lateOf eb).isNone
      | _ => false)
    | none => false
  | .no e, tl, sc, pe => match asUn pe with
    | some (o, a) => isNot o && mQ g N ow e tl sc a
    | none => false
  | .and a b, tl, sc, pe => match asBool pe with
    | some (o, x, r) => isAnd o && mQ g N ow a tl sc x && (match asOne r with
      | some y => mQ g N ow b tl sc y
      | none => mQ g N ow b tl sc r)
    | none => false
  | .or a b, tl, sc, pe => match asBool pe with
    | some (o, x, r) => !isAnd o && mQ g N ow a tl sc x && (match asOne r with
      | some y => mQ g N ow b tl sc y
      | none => mQ g N ow b tl sc r)
    | none => false
  | .var i, _, sc, pe => slotE N sc i pe && decide (i ∉ ow)
  | .con d, _, _, pe => conIs d pe
  | .call f es, tl, sc, pe => match asCall pe, g.pg.defs f with
    | some (x, as), some df => decide (x = g.dn f) && g.top f && (g.pg.tb.fresh f == df.fr) && gloB sc (g.dn f) && plainName (g.dn f) && mEs g N ow es tl sc as && argsOk ow df.io es && (esLen es == df.np)
    | _, _ => false
  | .meth m o es, tl, sc, pe => match asMeth pe with
    | some (x, n, as) => decide (n = g.mn m) && (match lateOf o with
      | some i => slotE N sc i x && decide (i ∈ ow)
      | none => mE g N ow o tl sc x) && mEs g N ow es tl sc as && decide (as.length < 30) && g.methB ow m (.cons o es)
    | none => false
  | .idx es, tl, sc, pe => match asSub pe with
    | some (a, b) => mEs g N ow es tl sc [a, b] && lateIn ow es && !isSlice b
    | none => false
  | .fld es f, tl, sc, pe => match asAttr pe with
    | some (o, m) => decide (m = g.fnm f) && !isCall o && mEs g N ow es tl sc [o] && lateIn ow es && (esLen es == 1)
    | none => false
  | _, _, _, _ => false
def mC (g : Cg) (N : List Str) (ow : List Nat) : Option E → Bool → Scope → List Expr → Bool
  | none, _, _, xs => xs.isEmpty
  | some c, tl, sc, [x] => mQ g N ow c tl sc x
  | some _, _, _, _ => false
def mEs (g : Cg) (N : List Str) (ow : List Nat) : Es → Bool → Scope → List Expr → Bool
  | .nil, _, _, xs => xs.isEmpty
  | .cons e es, tl, sc, x :: xs => !isStar x && (match lateOf e with
    | some i => slotE N sc i x
    | none => mE g N ow e tl sc x) && mEs g N ow es tl sc xs
  | .cons _ _, _, _, [] => false
def mI (g : Cg) (N : List Str) (ow : List Nat) : It → Bool → Scope → Expr → Bool
  | .seq e, tl, sc, pe => mE g N ow e tl sc pe
  | .rng1 e, tl, sc, pe => match asCall pe with
    | some (x, [a]) => decide (x = ("range" : Str)) && gloB sc "range" && !isStar a && mE g N ow e tl sc a
    | _ => false
  | .rng2 es, tl, sc, pe => match asCall pe with
    | some (x, [a, b]) => decide (x = ("range" : Str)) && gloB sc "range" && mEs g N ow es tl sc [a, b] && lateIn ow es
    | _ => false
end
end Bh
/-! text Bh5q -/
set_option Elab.async false
set_option linter.all false
set_option maxRecDepth 100000
set_option maxHeartbeats 4000000
/-! Bh5q: the checker of expressions is sound. -/
namespace Bh
open PySem PySem.W L2 PyProof.Rows
theorem slot_pe {p : Pr} {N : List Str} {tl : Bool} {sc : Scope} {k : Nat} {X : Cx} {W : WX} (C : Cok p N tl sc k X W) {i : Nat} {pe : Expr} (h : slotE N sc i pe = true) : PE X pe (tVar i) := by
  unfold slotE at h
  split at h
  · simp only [Bool.and_eq_true, decide_eq_true_eq] at h
    exact pe_slot C h.1.1 h.1.2 h.2
  · cases h
/-- the context of a comprehension's block -/
theorem Cok.blk {p : Pr} {N : List Str} {tl : Bool} {sc : Scope} {k : Nat} {X : Cx} {W : WX} (C : Cok p N tl sc k X W) (scope : Scope) (s : Shared) (H : Hp) (Cc : Addr) (cl : List (Str × Addr)) (fp : List Addr) :
    Cok p N false (relS scope sc) k (X.blk s H scope (compEnvC scope cl Cc X.env) fp) W0 := by
  refine ⟨C.nm, C.nd, ?_, C.calm, C.room, fun u s' h => ?_, fun h => (nomatch h), C.facts⟩
  · show relabel scope X.env = relS scope sc
    rw [← C.scope]
    rfl
  · obtain ⟨_, _, _, _, _, _, _, _, _, _, _, _, _, _, _, _, w⟩ := h
    exact w.elim
theorem Sets.blk {p : Pr} {N : List Str} {tl : Bool} {sc : Scope} {k : Nat} {X : Cx} {W : WX} (C : Cok p N tl sc k X W) (scope : Scope) (s : Shared) (H : Hp) (Cc : Addr) (cl : List (Str × Addr)) (fp : List Addr) :
    Sets N scope (X.blk s H scope (compEnvC scope cl Cc X.env) fp) := by
  refine ⟨C.nm, C.nd, C.calm, fun x hx => ?_⟩
  have e : (X.blk s H scope (compEnvC scope cl Cc X.env) fp).env.scope.names.lookup x = (relS scope X.env.scope).names.lookup x := rfl
  rcases hx with h | h
  · have h2 := lookup_relS_keep (sc := X.env.scope) (k := NameKind.local) (by decide) h
    exact ⟨.inl (e.trans h2), .inr (e.trans h2)⟩
  · have h2 := lookup_relS_keep (sc := X.env.scope) (k := NameKind.cell) (by decide) h
    refine ⟨.inr (e.trans h2), .inl ?_⟩
    show (scope.names.lookup x == some .cell) = true
    rw [h]; rfl
/-- the context of a lambda -/
theorem Cok.lamc {p : Pr} {N : List Str} {tl : Bool} {sc : Scope} {k k' : Nat} {X : Cx} {W : WX} (C : Cok p N tl sc k X W) (hk : k' ≤ k) (scope : Scope) (A : Around) (outer : List PySem.Env) (s : Shared) (H : Hp) (E : XK) (f c' : Addr) (hr : Room k' (A.deeper (LamX.lamEnv X scope s.heap.objs.size f c'))) :
    Cok p N false scope k' (LamX.lamCx X A outer s H E scope f c') (fun cls d _ H => E cls d H) := by
  refine ⟨C.nm, C.nd, rfl, rfl, hr, takes_of rfl rfl rfl rfl, fun h => (nomatch h), ?_⟩
  have F := C.facts
  exact ⟨F.hK, F.hW, F.glob, F.bln, F.rng, F.dm, F.kp, F.bi, fun j hj => F.fn j (Nat.le_trans hj hk), F.inj, F.nom, F.meth, F.init, F.exc, F.fld⟩
theorem PW_of {X : Cx} {op : BoolOp} {vs : List Expr} {pos : Pos} {t : TT} (h : PT X (.BoolOp op vs pos) t) : PW X (.BoolOp op vs pos) t := ⟨fun whole pins s σ H Q I q => by
  have := h.run pins s σ H Q I q
  have e : isTrue (.BoolOp op vs pos) X.env whole = isTrue (.BoolOp op vs pos) X.env (eval (.BoolOp op vs pos) X.env) := rfl
  rw [e]
  exact this⟩
theorem t_and {p : Pr} {ow : List Nat} {X : Cx} {W : WX} {tb : Tb} {cf : CF} {ea eb : E} {a b : Expr} {r : List Expr} {pos : Pos} (ha : PT X a (tT p ow tb cf W ea)) (hb : PT X (.BoolOp .And (b :: r) pos) (tT p ow tb cf W eb)) :
    PT X (.BoolOp .And (a :: b :: r) pos) (tT p ow tb cf W (.and ea eb)) := by
  refine PTimp (PW.pt (pw_and ha (PW_of hb))) fun σ H Q ⟨F, env, ok, I, w⟩ => ?_
  rw [evE] at w
  refine ⟨F, env, ok, I, w.bind.imp fun d env' H' P w => ?_⟩
  cases d with
  | bl i =>
    refine ⟨i, rfl, ?_⟩
    cases i with
    | true => rw [if_pos rfl]; exact ⟨F, env', ok, P.fi, w⟩
    | false =>
      rw [if_neg (by decide)]
      obtain ⟨b, e, q⟩ := w H' (.refl P.fi)
      cases e
      exact q
  | _ => exact w.elim
theorem t_or {p : Pr} {ow : List Nat} {X : Cx} {W : WX} {tb : Tb} {cf : CF} {ea eb : E} {a b : Expr} {r : List Expr} {pos : Pos} (ha : PT X a (tT p ow tb cf W ea)) (hb : PT X (.BoolOp .Or (b :: r) pos) (tT p ow tb cf W eb)) :
    PT X (.BoolOp .Or (a :: b :: r) pos) (tT p ow tb cf W (.or ea eb)) := by
  refine PTimp (PW.pt (pw_or ha (PW_of hb))) fun σ H Q ⟨F, env, ok, I, w⟩ => ?_
  rw [evE] at w
  refine ⟨F, env, ok, I, w.bind.imp fun d env' H' P w => ?_⟩
  cases d with
  | bl i =>
    refine ⟨i, rfl, ?_⟩
    cases i with
    | true =>
      rw [if_pos rfl]
      obtain ⟨b, e, q⟩ := w H' (.refl P.fi)
      cases e
      exact q
    | false => rw [if_neg (by decide)]; exact ⟨F, env', ok, P.fi, w⟩
  | _ => exact w.elim
theorem pt_one {X : Cx} {op : BoolOp} {a : Expr} {pos : Pos} {t : TT} (h : PT X a t) : PT X (.BoolOp op [a] pos) t := by
  cases op
  · exact PW.pt (pw_and1 h)
  · exact PW.pt (pw_or1 h)
theorem not_and {o : BoolOp} (h : isAnd o = false) : o = .Or := by cases o <;> first | rfl | (simp [isAnd] at h)
theorem is_and {o : BoolOp} (h : isAnd o = true) : o = .And := by cases o <;> first | rfl | (simp [isAnd] at h)
section
variable {g : Cg} {p : Pr} {N : List Str} {ow : List Nat} {tl : Bool} {sc : Scope} {k : Nat} {X : Cx} {W : WX} {es : Es} {pe : Expr}
/-- p is of the frame g -/
def IsP (g : Cg) (p : Pr) : Prop := ∃ w K ca T da dfd dps, p = g.pr w K ca T da dfd dps
/-- methods are told by the list -/
def MsOk (g : Cg) : Prop := ∀ c m f, g.pg.tb.meth c m = some f → (c, m, f) ∈ g.ms
theorem c_call (hp : IsP g p) (C : Cok p N tl sc k X W) {f : Nat} {as : List Expr} {x : Str} {df : Def} {q pos : Pos} (hd : g.pg.defs f = some df) (h : PEs X as (tOs p ow p.pg.tb (lev p.pg k) W es))
    (h1 : x = g.dn f) (h2 : g.top f = true) (h3 : (g.pg.tb.fresh f == df.fr) = true) (h4 : gloB sc (g.dn f) = true) (h5 : plainName (g.dn f) = true) (h6 : argsOk ow df.io es = true) (h7 : (esLen es == df.np) = true) :
    PE X (.Call (.Name x q) as [] pos) (tE p ow p.pg.tb (lev p.pg k) W (.call f es)) := by
  obtain ⟨w, K, ca, T, da, dfd, dps, rfl⟩ := hp
  subst h1
  exact s_call (p := g.pr w K ca T da dfd dps) C hd h2 (beq_iff_eq.mp h3) h4 h5 h h6 (beq_iff_eq.mp h7)
theorem c_meth (hp : IsP g p) (hm : MsOk g) (C : Cok p N tl sc k X W) {m : Nat} {n : Str} {eo : E} {o : Expr} {as : List Expr} {ap pos : Pos} (hc : isCall o = false) (hl : (ap.endLine == pos.line) = true) (ho : PE X o (tO p ow p.pg.tb (lev p.pg k) W eo)) (h : PEs X as (tOs p ow p.pg.tb (lev p.pg k) W es))
    (h1 : n = g.mn m) (h2 : ∀ i, lateOf eo = some i → i ∈ ow) (h3 : as.length < 30) (h4 : g.methB ow m (.cons eo es) = true) : PE X (.Call (.Attribute o n ap) as [] pos) (tE p ow p.pg.tb (lev p.pg k) W (.meth m eo es)) := by
  obtain ⟨w, K, ca, T, da, dfd, dps, rfl⟩ := hp
  subst h1
  refine s_meth (p := g.pr w K ca T da dfd dps) C hc ho h h3 hl h2 fun c f hcf df hdf => ?_
  have := List.all_eq_true.mp h4 (c, m, f) (hm c m f hcf)
  have hdf' : g.pg.defs f = some df := hdf
  simp only [bne_self_eq_false, Bool.false_or, hdf', Bool.and_eq_true, beq_iff_eq] at this
  exact this
theorem c_fld (hp : IsP g p) (C : Cok p N tl sc k X W) {f : Nat} {m : Str} {o : Expr} {pos : Pos} (hc : isCall o = false) (h : PEs X [o] (tOs p ow p.pg.tb (lev p.pg k) W es)) (h1 : m = g.fnm f) (h2 : lateIn ow es = true) (h3 : (esLen es == 1) = true) :
    PE X (.Attribute o m pos) (tE p ow p.pg.tb (lev p.pg k) W (.fld es f)) := by
  obtain ⟨w, K, ca, T, da, dfd, dps, rfl⟩ := hp
  subst h1
  cases es with
  | nil => simp [esLen] at h3
  | cons e es =>
    cases es with
    | cons _ _ => simp [esLen] at h3
    | nil =>
      obtain ⟨ta, ht, ho⟩ := h.one
      have e1 : tO (g.pr w K ca T da dfd dps) ow (g.pr w K ca T da dfd dps).pg.tb (lev (g.pr w K ca T da dfd dps).pg k) W e = ta := by
        have := congrArg List.head? ht
        simpa [tOs] using this
      rw [← e1] at ho
      exact s_fld (p := g.pr w K ca T da dfd dps) C hc ho h2
theorem noLate_of {e : E} (h : (lateOf e).isNone = true) : lateOf e = none := Option.isNone_iff_eq_none.mp h
theorem own_slots (N : List Str) (t : Bh.T) (h : (ownOf N t).map (·.2) = t.slots) : (ownOf N t).map (·.2) = t.slots := h
mutual
theorem snd_E (hp : IsP g p) (hm : MsOk g) : ∀ (e : E) (tl : Bool) (sc : Scope) (pe : Expr), mE g N ow e tl sc pe = true → ∀ (k : Nat) (X : Cx) (W : WX), Cok p N tl sc k X W → ToldAt p X.K X.mg g.told → PE X pe (tE p ow p.pg.tb (lev p.pg k) W e)
  | .var i, tl, sc, pe, h, k, X, W, C, T => by
    simp only [mE, Bool.and_eq_true, decide_eq_true_eq] at h
    exact s_var C (slot_pe C h.1) h.2
  | .own _, _, _, _, h, _, _, _, _, _ => by simp [mE] at h
  | .con d, tl, sc, pe, h, k, X, W, C, T => s_con (by simpa only [mE] using h)
  | .glob n, tl, sc, pe, h, k, X, W, C, T => by
    simp only [mE, Bool.and_eq_true] at h
    obtain ⟨⟨⟨h1, h2⟩, h3⟩, h4⟩ := h
    cases ha : asName pe with
    | none => rw [ha] at h1; cases h1
    | some x =>
      rw [ha] at h1
      simp only [decide_eq_true_eq] at h1
      obtain ⟨pos, rfl⟩ := asName_eq ha
      subst h1
      obtain ⟨w, K, ca, T', da, dfd, dps, rfl⟩ := hp
      exact s_glob (p := g.pr w K ca T' da dfd dps) C h2 h3 h4
  | .op o es, tl, sc, pe, h, k, X, W, C, T => by
    simp only [mE] at h
    split at h
    · rename_i a q b ha
      simp only [Bool.and_eq_true] at h
      obtain ⟨pos, rfl⟩ := asBin_eq ha
      rw [op2Is_eq h.1.1]
      exact s_op C (snd_Es hp hm es tl sc _ h.1.2 k X W C T) h.2
    · cases h
  | .cmp c es, tl, sc, pe, h, k, X, W, C, T => by
    simp only [mE] at h
    split at h
    · rename_i a q b ha
      simp only [Bool.and_eq_true, Bool.not_eq_true'] at h
      obtain ⟨pos, rfl⟩ := asCmp1_eq ha
      have e := cm2Is_eq h.1.1.1
      subst e
      exact s_cmp C (snd_Es hp hm es tl sc _ h.1.1.2 k X W C T) h.1.2 h.2
    · cases h
  | .chain c1 c2 es c, tl, sc, pe, h, k, X, W, C, T => by
    simp only [mE] at h
    split at h
    · rename_i a q1 b q2 d ha
      simp only [Bool.and_eq_true, Bool.not_eq_true'] at h
      obtain ⟨⟨⟨⟨⟨⟨h1, h2⟩, h3⟩, h4⟩, h5⟩, h6⟩, h7⟩ := h
      obtain ⟨pos, rfl⟩ := asCmp2_eq ha
      have e1 := cm2Is_eq h1
      have e2 := cm2Is_eq h2
      subst e1; subst e2
      have ih := snd_Es hp hm es tl sc _ h3 k X W C T
      have ic := snd_E hp hm c tl sc _ h5 k X W C T
      split at h7
      · rename_i ea eb
        cases ih with
        | cons i1 _ r => cases r with
          | cons i2 _ r2 => exact s_chain C i1 i2 ic h4 (noLate_of h7) h6
      · cases h7
    · cases h
  | .neg e, tl, sc, pe, h, k, X, W, C, T => by
    simp only [mE] at h
    split at h
    · rename_i o a ha
      simp only [Bool.and_eq_true] at h
      obtain ⟨pos, rfl⟩ := asUn_eq ha
      have eo : o = .USub := by
        have := h.1
        cases o <;> first | rfl | (simp [isUSub] at this)
      subst eo
      exact s_neg C (snd_E hp hm e tl sc _ h.2 k X W C T)
    · cases h
  | .no e, tl, sc, pe, h, k, X, W, C, T => by
    simp only [mE] at h
    split at h
    · rename_i o a ha
      simp only [Bool.and_eq_true] at h
      obtain ⟨pos, rfl⟩ := asUn_eq ha
      have eo : o = .Not := by
        have := h.1
        cases o <;> first | rfl | (simp [isNot] at this)
      subst eo
      exact s_no C (snd_E hp hm e tl sc _ h.2 k X W C T)
    · cases h
  | .and a b, tl, sc, pe, h, k, X, W, C, T => by
    simp only [mE] at h
    split at h
    · rename_i o x r ha
      simp only [Bool.and_eq_true] at h
      obtain ⟨y, rr, pos, rfl, rfl⟩ := asBool_eq ha
      have eo := is_and h.1.1
      subst eo
      refine s_and C (snd_E hp hm a tl sc _ h.1.2 k X W C T) ?_
      have h2 := h.2
      split at h2
      · rename_i z hz
        obtain ⟨o2, p2, e2⟩ := asOne_eq hz
        cases e2
        exact pe_one (snd_E hp hm b tl sc _ h2 k X W C T)
      · exact snd_E hp hm b tl sc _ h2 k X W C T
    · cases h
  | .or a b, tl, sc, pe, h, k, X, W, C, T => by
    simp only [mE] at h
    split at h
    · rename_i o x r ha
      simp only [Bool.and_eq_true, Bool.not_eq_true'] at h
      obtain ⟨y, rr, pos, rfl, rfl⟩ := asBool_eq ha
      have eo := not_and h.1.1
      subst eo
      refine s_or C (snd_E hp hm a tl sc _ h.1.2 k X W C T) ?_
      have h2 := h.2
      split at h2
      · rename_i z hz
        obtain ⟨o2, p2, e2⟩ := asOne_eq hz
        cases e2
        exact pe_one (snd_E hp hm b tl sc _ h2 k X W C T)
      · exact snd_E hp hm b tl sc _ h2 k X W C T
    · cases h
  | .ite c a b, tl, sc, pe, h, k, X, W, C, T => by
    simp only [mE] at h
    split at h
    · rename_i x y z ha
      simp only [Bool.and_eq_true] at h
      obtain ⟨pos, rfl⟩ := asIf_eq ha
      exact s_ite C (snd_Q hp hm c tl sc _ h.1.1 k X W C T) (snd_E hp hm a tl sc _ h.1.2 k X W C T) (snd_E hp hm b tl sc _ h.2 k X W C T)
    · cases h
  | .tup es, tl, sc, pe, h, k, X, W, C, T => by
    simp only [mE] at h
    split at h
    · rename_i xs ha
      simp only [Bool.and_eq_true] at h
      obtain ⟨kk, pos, rfl⟩ := asTup_eq ha
      exact s_tup C (snd_Es hp hm es tl sc _ h.1 k X W C T) h.2
    · cases h
  | .lst es, tl, sc, pe, h, k, X, W, C, T => by
    simp only [mE] at h
    split at h
    · rename_i xs ha
      simp only [Bool.and_eq_true] at h
      obtain ⟨pos, rfl⟩ := asLst_eq ha
      exact s_lst C (snd_Es hp hm es tl sc _ h.1 k X W C T) h.2
    · cases h
  | .idx es, tl, sc, pe, h, k, X, W, C, T => by
    simp only [mE] at h
    split at h
    · rename_i a b ha
      simp only [Bool.and_eq_true, Bool.not_eq_true'] at h
      obtain ⟨pos, rfl⟩ := asSub_eq ha
      exact s_idx C (snd_Es hp hm es tl sc _ h.1.1 k X W C T) h.1.2 h.2
    · cases h
  | .slice _ _ _, _, _, _, h, _, _, _, _, _ => by simp [mE] at h
  | .bf f es, tl, sc, pe, h, k, X, W, C, T => by
    simp only [mE] at h
    split at h
    · rename_i x a as ha
      simp only [Bool.and_eq_true, decide_eq_true_eq] at h
      obtain ⟨q, pos, rfl⟩ := asCall_eq ha
      obtain ⟨⟨⟨h1, h2⟩, h3⟩, h4⟩ := h
      subst h1
      exact s_bf C h2 (snd_Es hp hm es tl sc _ h3 k X W C T) h4
    · cases h
  | .mm m i es, tl, sc, pe, h, k, X, W, C, T => by
    simp only [mE] at h
    split at h
    · rename_i o x as ha
      split at h
      · simp only [Bool.and_eq_true, decide_eq_true_eq] at h
        obtain ⟨ap, cp, rfl, hc, hl⟩ := asMeth_eq ha
        obtain ⟨⟨⟨⟨h1, h2⟩, h3⟩, h4⟩, h5⟩ := h
        subst h1
        have ih := snd_Es hp hm es tl sc _ h4 k X W C T
        split at h5
        · rename_i e _ a
          exact s_append C h3 hc (slot_pe C h2) ih (noLate_of h5) hl
        · cases h5
      · cases h
    · cases h
  | .call f es, tl, sc, pe, h, k, X, W, C, T => by
    simp only [mE] at h
    split at h
    · rename_i x as df ha hd
      simp only [Bool.and_eq_true, decide_eq_true_eq] at h
      obtain ⟨q, pos, rfl⟩ := asCall_eq ha
      obtain ⟨⟨⟨⟨⟨⟨⟨h1, h2⟩, h3⟩, h4⟩, h5⟩, h6⟩, h7⟩, h8⟩ := h
      exact c_call hp C hd (snd_Es hp hm es tl sc _ h6 k X W C T) h1 h2 h3 h4 h5 h7 h8
    · cases h
  | .meth m o es, tl, sc, pe, h, k, X, W, C, T => by
    simp only [mE] at h
    split at h
    · rename_i x n as ha
      simp only [Bool.and_eq_true, decide_eq_true_eq] at h
      obtain ⟨ap, cp, rfl, hc, hl⟩ := asMeth_eq ha
      obtain ⟨⟨⟨⟨h1, h2⟩, h3⟩, h4⟩, h5⟩ := h
      have ih := snd_Es hp hm es tl sc _ h3 k X W C T
      cases hlo : lateOf o with
      | some i =>
        rw [hlo] at h2
        simp only [Bool.and_eq_true, decide_eq_true_eq] at h2
        refine c_meth hp hm C hc hl ?_ ih h1 (fun j hj => ?_) h4 h5
        · unfold tO; rw [hlo]; exact slot_pe C h2.1
        · rw [hlo] at hj; cases hj; exact h2.2
      | none =>
        rw [hlo] at h2
        refine c_meth hp hm C hc hl ?_ ih h1 (fun j hj => ?_) h4 h5
        · unfold tO; rw [hlo]; exact snd_E hp hm o tl sc _ h2 k X W C T
        · rw [hlo] at hj; cases hj
    · cases h
  | .make c es, tl, sc, pe, h, k, X, W, C, T => by
    simp only [mE] at h
    split at h
    · rename_i x as f ha hi
      split at h
      · rename_i df hd
        simp only [Bool.and_eq_true, decide_eq_true_eq] at h
        obtain ⟨q, pos, rfl⟩ := asCall_eq ha
        obtain ⟨⟨⟨⟨⟨⟨h1, h2⟩, h3⟩, h4⟩, h5⟩, h6⟩, h7⟩ := h
        have ih := snd_Es hp hm es tl sc _ h4 k X W C T
        obtain ⟨w, K, ca, T', da, dfd, dps, rfl⟩ := hp
        subst h1
        exact s_make (p := g.pr w K ca T' da dfd dps) C hi hd h2 h3 ih h5 h6 (beq_iff_eq.mp h7)
      · cases h
    · cases h
  | .io _, _, _, _, h, _, _, _, _, _ => by simp [mE] at h
  | .bor _, _, _, _, h, _, _, _, _, _ => by simp [mE] at h
  | .fld es f, tl, sc, pe, h, k, X, W, C, T => by
    simp only [mE] at h
    split at h
    · rename_i o m ha
      simp only [Bool.and_eq_true, decide_eq_true_eq, Bool.not_eq_true'] at h
      obtain ⟨pos, rfl⟩ := asAttr_eq ha
      obtain ⟨⟨⟨⟨h1, h2⟩, h3⟩, h4⟩, h5⟩ := h
      exact c_fld hp C h2 (snd_Es hp hm es tl sc _ h3 k X W C T) h1 h4 h5
    · cases h
  | .lc t it c e, tl, sc, pe, h, k, X, W, C, T => by
    simp only [mE] at h
    split at h
    · rename_i elt tg iter ifs scope ha
      simp only [Bool.and_eq_true, decide_eq_true_eq, Bool.not_eq_true', List.all_eq_true] at h
      obtain ⟨pos, rfl⟩ := asLc_eq ha
      obtain ⟨⟨⟨⟨⟨⟨⟨h1, h2⟩, h3⟩, h4⟩, h5⟩, h6⟩, h7⟩, h8⟩ := h
      exact s_lc C (snd_I hp hm it tl sc _ tg h6 k X W C T) (blkOk_by h1) h2
        (fun s H Cc cl fp => pg_T (Sets.blk C scope s H Cc cl fp) h3)
        (fun s H Cc cl fp => snd_C hp hm c false _ _ h7 k _ (C.blk scope s H Cc cl fp) T)
        (fun s H Cc cl fp => snd_E hp hm e false _ _ h8 k _ W0 (C.blk scope s H Cc cl fp) T) h4 h5
    · cases h
  | .told e, tl, sc, pe, h, k, X, W, C, T => by
    simp only [mE] at h
    split at h
    · rename_i x a b s ha
      simp only [Bool.and_eq_true, decide_eq_true_eq] at h
      obtain ⟨p1, p2, p3, rfl⟩ := asTold_eq ha
      obtain ⟨⟨⟨⟨⟨⟨h1, h2⟩, h3⟩, h4⟩, h5⟩, h6⟩, h7⟩ := h
      have e1 := noPar_eq h6
      subst e1
      subst h1
      exact s_told C T h2 h3 h4 h5 (fun env => rfl) (fun q cl pm cv ctv => rfl) fun k' hk A outer s' H E f c' hr =>
        snd_E hp hm e false s b h7 k' _ _ (C.lamc (by omega) s A outer s' H E f c' hr) T
    · cases h
  | .pick ks es ek, tl, sc, pe, h, k, X, W, C, T => by
    simp only [mE] at h
    split at h
    · rename_i keys vals ke ha
      simp only [Bool.and_eq_true, decide_eq_true_eq, Bool.not_eq_true'] at h
      obtain ⟨p1, p2, rfl⟩ := asPick_eq ha
      obtain ⟨⟨⟨⟨⟨⟨⟨⟨⟨h1, h2⟩, h3⟩, h4⟩, h5⟩, h6⟩, h7⟩, h8⟩, h9⟩, h10⟩ := h
      exact s_pick C h1 h2 (snd_Es hp hm es tl sc _ h3 k X W C T) h4 h5 h6 (fun z => by subst z; simp at h7) h8 (snd_E hp hm ek tl sc _ h9 k X W C T) h10
    · cases h
theorem snd_Q (hp : IsP g p) (hm : MsOk g) : ∀ (e : E) (tl : Bool) (sc : Scope) (pe : Expr), mQ g N ow e tl sc pe = true → ∀ (k : Nat) (X : Cx) (W : WX), Cok p N tl sc k X W → ToldAt p X.K X.mg g.told → PT X pe (tT p ow p.pg.tb (lev p.pg k) W e)
  | .cmp c es, tl, sc, pe, h, k, X, W, C, T => by
    simp only [mQ] at h
    split at h
    · rename_i a q b ha
      simp only [Bool.and_eq_true, Bool.not_eq_true'] at h
      obtain ⟨pos, rfl⟩ := asCmp1_eq ha
      have e := cm2Is_eq h.1.1.1
      subst e
      exact t_cmp C (snd_Es hp hm es tl sc _ h.1.1.2 k X W C T) h.1.2 h.2
    · cases h
  | .chain c1 c2 es c, tl, sc, pe, h, k, X, W, C, T => by
    simp only [mQ] at h
    split at h
    · rename_i a q1 b q2 d ha
      simp only [Bool.and_eq_true, Bool.not_eq_true'] at h
      obtain ⟨⟨⟨⟨⟨⟨h1, h2⟩, h3⟩, h4⟩, h5⟩, h6⟩, h7⟩ := h
      obtain ⟨pos, rfl⟩ := asCmp2_eq ha
      have e1 := cm2Is_eq h1
      have e2 := cm2Is_eq h2
      subst e1; subst e2
      have ih := snd_Es hp hm es tl sc _ h3 k X W C T
      have ic := snd_E hp hm c tl sc _ h5 k X W C T
      split at h7
      · rename_i ea eb
        cases ih with
        | cons i1 _ r => cases r with
          | cons i2 _ r2 => exact t_chain C i1 i2 ic h4 (noLate_of h7) h6
      · cases h7
    · cases h
  | .no e, tl, sc, pe, h, k, X, W, C, T => by
    simp only [mQ] at h
    split at h
    · rename_i o a ha
      simp only [Bool.and_eq_true] at h
      obtain ⟨pos, rfl⟩ := asUn_eq ha
      have eo : o = .Not := by
        have := h.1
        cases o <;> first | rfl | (simp [isNot] at this)
      subst eo
      exact t_no C (snd_Q hp hm e tl sc _ h.2 k X W C T)
    · cases h
  | .and a b, tl, sc, pe, h, k, X, W, C, T => by
    simp only [mQ] at h
    split at h
    · rename_i o x r ha
      simp only [Bool.and_eq_true] at h
      obtain ⟨y, rr, pos, rfl, rfl⟩ := asBool_eq ha
      have eo := is_and h.1.1
      subst eo
      refine t_and (snd_Q hp hm a tl sc _ h.1.2 k X W C T) ?_
      have h2 := h.2
      split at h2
      · rename_i z hz
        obtain ⟨o2, p2, e2⟩ := asOne_eq hz
        cases e2
        exact pt_one (snd_Q hp hm b tl sc _ h2 k X W C T)
      · exact snd_Q hp hm b tl sc _ h2 k X W C T
    · cases h
  | .or a b, tl, sc, pe, h, k, X, W, C, T => by
    simp only [mQ] at h
    split at h
    · rename_i o x r ha
      simp only [Bool.and_eq_true, Bool.not_eq_true'] at h
      obtain ⟨y, rr, pos, rfl, rfl⟩ := asBool_eq ha
      have eo := not_and h.1.1
      subst eo
      refine t_or (snd_Q hp hm a tl sc _ h.1.2 k X W C T) ?_
      have h2 := h.2
      split at h2
      · rename_i z hz
        obtain ⟨o2, p2, e2⟩ := asOne_eq hz
        cases e2
        exact pt_one (snd_Q hp hm b tl sc _ h2 k X W C T)
      · exact snd_Q hp hm b tl sc _ h2 k X W C T
    · cases h
  | .var i, tl, sc, pe, h, k, X, W, C, T => by
    simp only [mQ, Bool.and_eq_true, decide_eq_true_eq] at h
    refine t_of (s_var C (slot_pe C h.1) h.2) ?_
    have := h.1
    unfold slotE at this
    split at this
    · rfl
    · cases this
  | .con d, tl, sc, pe, h, k, X, W, C, T => by
    simp only [mQ] at h
    refine t_of (s_con h) ?_
    unfold conIs at h
    split at h <;> first | rfl | cases h
  | .call f es, tl, sc, pe, h, k, X, W, C, T => by
    simp only [mQ] at h
    split at h
    · rename_i x as df ha hd
      simp only [Bool.and_eq_true, decide_eq_true_eq] at h
      obtain ⟨q, pos, rfl⟩ := asCall_eq ha
      obtain ⟨⟨⟨⟨⟨⟨⟨h1, h2⟩, h3⟩, h4⟩, h5⟩, h6⟩, h7⟩, h8⟩ := h
      exact t_of (c_call hp C hd (snd_Es hp hm es tl sc _ h6 k X W C T) h1 h2 h3 h4 h5 h7 h8) rfl
    · cases h
  | .meth m o es, tl, sc, pe, h, k, X, W, C, T => by
    simp only [mQ] at h
    split at h
    · rename_i x n as ha
      simp only [Bool.and_eq_true, decide_eq_true_eq] at h
      obtain ⟨ap, cp, rfl, hc, hl⟩ := asMeth_eq ha
      obtain ⟨⟨⟨⟨h1, h2⟩, h3⟩, h4⟩, h5⟩ := h
      have ih := snd_Es hp hm es tl sc _ h3 k X W C T
      cases hlo : lateOf o with
      | some i =>
        rw [hlo] at h2
        simp only [Bool.and_eq_true, decide_eq_true_eq] at h2
        refine t_of (c_meth hp hm C hc hl ?_ ih h1 (fun j hj => ?_) h4 h5) rfl
        · unfold tO; rw [hlo]; exact slot_pe C h2.1
        · rw [hlo] at hj; cases hj; exact h2.2
      | none =>
        rw [hlo] at h2
        refine t_of (c_meth hp hm C hc hl ?_ ih h1 (fun j hj => ?_) h4 h5) rfl
        · unfold tO; rw [hlo]; exact snd_E hp hm o tl sc _ h2 k X W C T
        · rw [hlo] at hj; cases hj
    · cases h
  | .idx es, tl, sc, pe, h, k, X, W, C, T => by
    simp only [mQ] at h
    split at h
    · rename_i a b ha
      simp only [Bool.and_eq_true, Bool.not_eq_true'] at h
      obtain ⟨pos, rfl⟩ := asSub_eq ha
      exact t_of (s_idx C (snd_Es hp hm es tl sc _ h.1.1 k X W C T) h.1.2 h.2) rfl
    · cases h
  | .fld es f, tl, sc, pe, h, k, X, W, C, T => by
    simp only [mQ] at h
    split at h
    · rename_i o m ha
      simp only [Bool.and_eq_true, decide_eq_true_eq, Bool.not_eq_true'] at h
      obtain ⟨pos, rfl⟩ := asAttr_eq ha
      obtain ⟨⟨⟨⟨h1, h2⟩, h3⟩, h4⟩, h5⟩ := h
      exact t_of (c_fld hp C h2 (snd_Es hp hm es tl sc _ h3 k X W C T) h1 h4 h5) rfl
    · cases h
  | .own _, _, _, _, h, _, _, _, _, _ => by simp [mQ] at h
  | .glob _, _, _, _, h, _, _, _, _, _ => by simp [mQ] at h
  | .op _ _, _, _, _, h, _, _, _, _, _ => by simp [mQ] at h
  | .neg _, _, _, _, h, _, _, _, _, _ => by simp [mQ] at h
  | .ite _ _ _, _, _, _, h, _, _, _, _, _ => by simp [mQ] at h
  | .tup _, _, _, _, h, _, _, _, _, _ => by simp [mQ] at h
  | .lst _, _, _, _, h, _, _, _, _, _ => by simp [mQ] at h
  | .slice _ _ _, _, _, _, h, _, _, _, _, _ => by simp [mQ] at h
  | .bf _ _, _, _, _, h, _, _, _, _, _ => by simp [mQ] at h
  | .mm _ _ _, _, _, _, h, _, _, _, _, _ => by simp [mQ] at h
  | .make _ _, _, _, _, h, _, _, _, _, _ => by simp [mQ] at h
  | .io _, _, _, _, h, _, _, _, _, _ => by simp [mQ] at h
  | .bor _, _, _, _, h, _, _, _, _, _ => by simp [mQ] at h
  | .lc _ _ _ _, _, _, _, h, _, _, _, _, _ => by simp [mQ] at h
  | .told _, _, _, _, h, _, _, _, _, _ => by simp [mQ] at h
  | .pick _ _ _, _, _, _, h, _, _, _, _, _ => by simp [mQ] at h
theorem snd_C (hp : IsP g p) (hm : MsOk g) : ∀ (c : Option E) (tl : Bool) (sc : Scope) (xs : List Expr), mC g N ow c tl sc xs = true → ∀ (k : Nat) (X : Cx), Cok p N tl sc k X W0 → ToldAt p X.K X.mg g.told → PTs X xs (tCd p ow p.pg.tb (lev p.pg k) c)
  | none, tl, sc, xs, h, k, X, C, T => by
    cases xs with
    | nil => exact pts_nil
    | cons _ _ => simp [mC] at h
  | some c, tl, sc, xs, h, k, X, C, T => by
    cases xs with
    | nil => simp [mC] at h
    | cons x xs =>
      cases xs with
      | cons _ _ => simp [mC] at h
      | nil => exact pts_one (snd_Q hp hm c tl sc x (by simpa only [mC] using h) k X W0 C T)
theorem snd_Es (hp : IsP g p) (hm : MsOk g) : ∀ (es : Es) (tl : Bool) (sc : Scope) (xs : List Expr), mEs g N ow es tl sc xs = true → ∀ (k : Nat) (X : Cx) (W : WX), Cok p N tl sc k X W → ToldAt p X.K X.mg g.told → PEs X xs (tOs p ow p.pg.tb (lev p.pg k) W es)
  | .nil, tl, sc, xs, h, k, X, W, C, T => by
    cases xs with
    | nil => exact .nil
    | cons _ _ => simp [mEs] at h
  | .cons e es, tl, sc, xs, h, k, X, W, C, T => by
    cases xs with
    | nil => simp [mEs] at h
    | cons x xs =>
      simp only [mEs, Bool.and_eq_true, Bool.not_eq_true'] at h
      obtain ⟨⟨h1, h2⟩, h3⟩ := h
      refine .cons ?_ h1 (snd_Es hp hm es tl sc xs h3 k X W C T)
      unfold tO
      cases hlo : lateOf e with
      | some i =>
        rw [hlo] at h2
        exact slot_pe C h2
      | none =>
        rw [hlo] at h2
        exact snd_E hp hm e tl sc x h2 k X W C T
theorem snd_I (hp : IsP g p) (hm : MsOk g) : ∀ (it : It) (tl : Bool) (sc : Scope) (pe tg : Expr), mI g N ow it tl sc pe = true → ∀ (k : Nat) (X : Cx) (W : WX), Cok p N tl sc k X W → ToldAt p X.K X.mg g.told → PI X tg pe (tI p ow p.pg.tb (lev p.pg k) W it)
  | .seq e, tl, sc, pe, tg, h, k, X, W, C, T => i_seq C (snd_E hp hm e tl sc pe (by simpa only [mI] using h) k X W C T)
  | .rng1 e, tl, sc, pe, tg, h, k, X, W, C, T => by
    simp only [mI] at h
    split at h
    · rename_i x a ha
      simp only [Bool.and_eq_true, decide_eq_true_eq, Bool.not_eq_true'] at h
      obtain ⟨q, pos, rfl⟩ := asCall_eq ha
      obtain ⟨⟨⟨h1, h2⟩, h3⟩, h4⟩ := h
      subst h1
      exact i_rng1 C h2 (snd_E hp hm e tl sc a h4 k X W C T) h3
    · cases h
  | .rng2 es, tl, sc, pe, tg, h, k, X, W, C, T => by
    simp only [mI] at h
    split at h
    · rename_i x a b ha
      simp only [Bool.and_eq_true, decide_eq_true_eq] at h
      obtain ⟨q, pos, rfl⟩ := asCall_eq ha
      obtain ⟨⟨⟨h1, h2⟩, h3⟩, h4⟩ := h
      subst h1
      exact i_rng2 C h2 (snd_Es hp hm es tl sc _ h3 k X W C T) h4
    · cases h
end
end
end Bh
/-! text Bh5r -/
set_option Elab.async false
set_option linter.all false
set_option maxRecDepth 100000
set_option maxHeartbeats 4000000
/-! Bh5r: the checker of statements. -/
namespace Bh
open PySem PySem.W L2 PyProof.Rows
def isLcE : Expr → Bool
  | .ListComp _ _ _ _ => true
  | _ => false
/-- a comprehension that is assigned to a local name: it swaps -/
def lcAsg (N : List Str) (sc : Scope) (i : Nat) (tg ex : Expr) : Bool := match tg, ex with
  | .Name y py, .ListComp _ _ scope pos => decide (N[i]? = some y) && (match sc.names.lookup y with
    | some .local => true
    | _ => false) && (match sc.kind with
    | .function => true
    | _ => false) && (py.line == pos.line) && !(scope.names.any fun (n, k) => n == y && (k == .local || k == .cell))
  | _, _ => false
/-- name = value -/
def mAsg (g : Cg) (N : List Str) (ow : List Nat) (tl : Bool) (sc : Scope) (i : Nat) (e : E) : Stmt → Bool
  | .Assign [tg] ex _ => mE g N ow e tl sc ex && (if isComp ex then lcAsg N sc i tg ex else tgtIs N sc i tg)
  | _ => false
mutual
def mS (g : Cg) (N : List Str) (ow io : List Nat) (fr tl : Bool) (sc : Scope) : S → Stmt → Bool
  | .set i e, st => mAsg g N ow tl sc i e st && decide (i ∉ ow)
  | .thaw i e, st => mAsg g N ow tl sc i e st && decide (i ∈ ow) && decide (i ∉ io) && decide (i < N.length)
  | .bind is e, .Assign [tg] ex _ => mT N sc (.many is) tg && mE g N ow e tl sc ex && !isTupE ex && is.all fun i => decide (i ∉ ow)
  | .par2 i fi a j false b, .Assign [.Tuple [.Name x px, .Name y py] _ _] (.Tuple [ea, eb] _ _) _ => decide (N[i]? = some x) && decide (N[j]? = some y) && !(i == j) && (match sc.names.lookup x with
    | some .local => true
    | _ => false) && (match sc.names.lookup y with
    | some .local => true
    | _ => false) && (match sc.kind with
    | .function => true
    | _ => false) && mE g N ow a tl sc ea && mE g N ow b tl sc eb && parOk px py x y ea eb && (if fi then decide (i ∈ ow) && decide (i ∉ io) else decide (i ∉ ow)) && decide (j ∉ ow)
  | .setIx i k v, .Assign [.Subscript o ke _] ve _ => slotE N sc i o && decide (i ∈ ow) && mE g N ow k tl sc ke && mE g N ow v tl sc ve && !isSlice ke && !isComp ve
  | .setFld i f e, .Assign [.Attribute o m _] ve _ => slotE N sc i o && decide (i ∈ ow) && decide (m = g.fnm f) && mE g N ow e tl sc ve && !isComp ve
  | .expr e, .Expr ex _ => mE g N ow e tl sc ex && !isComp ex
  | .ret e, .Return (some ex) _ => mE g N ow e tl sc ex && (!fr || (isNew g.pg.tb e 1 && isNew g.pg.tb e 2))
  | .retO i, .Return (some ex) _ => slotE N sc i ex && decide (i ∈ ow) && decide (i ∉ io)
  | .raise c, .Raise (some (.Call (.Name x _) [.Constant (.str _) _ _] [] _)) none _ => decide (x = g.cn c) && g.exc c && gloB sc (g.cn c) && plainName (g.cn c)
  | .pass, .Pass _ => true
  | .brk, .Break _ => true
  | .cont, .Continue _ => true
  | .ite e a b, .If c sa sb _ => mQ g N ow e tl sc c && mSs g N ow io fr tl sc a sa && mSs g N ow io fr tl sc b sb
  | .whil _ e b, .While c sb [] _ => mQ g N ow e tl sc c && mSs g N ow io fr tl sc b sb
  | .fors t it b, .For tg iter sb [] _ => mI g N ow it tl sc iter && mT N sc t tg && mSs g N ow io fr tl sc b sb && !isSetE iter && t.slots.all fun i => decide (i ∉ ow)
  | _, _ => false
def mSs (g : Cg) (N : List Str) (ow io : List Nat) (fr tl : Bool) (sc : Scope) : List S → List Stmt → Bool
  | [], [] => true
  | s :: ss, st :: sts => mS g N ow io fr tl sc s st && mSs g N ow io fr tl sc ss sts
  | _, _ => false
end
section
variable {g : Cg} {p : Pr} {N : List Str} {ow io : List Nat} {fr tl : Bool} {sc : Scope} {k : Nat} {X : Cx} {W : WX}
theorem asg_ok (hp : IsP g p) (hm : MsOk g) (C : Cok p N tl sc k X W) (S : Sets N sc X) (T : ToldAt p X.K X.mg g.told) {i : Nat} {e : E} {st : Stmt} (h : mAsg g N ow tl sc i e st = true) : AsgN p ow p.pg.tb (lev p.pg k) W X st i e := by
  unfold mAsg at h
  split at h
  · rename_i tg ex pos
    rw [Bool.and_eq_true] at h
    split at h
    · rename_i hc
      have h2 := h.2
      unfold lcAsg at h2
      split at h2
      · rename_i y py elt gens scope lpos
        simp only [Bool.and_eq_true, decide_eq_true_eq, Bool.not_eq_true'] at h2
        obtain ⟨⟨⟨⟨a1, a2⟩, a3⟩, a4⟩, a5⟩ := h2
        have hy : sc.names.lookup y = some .local := by
          split at a2
          · assumption
          · cases a2
        have hk : sc.kind = .function := by
          split at a3
          · assumption
          · cases a3
        have h1 := h.1
        cases e with
        | lc t it c e =>
          simp only [mE] at h1
          split at h1
          · rename_i elt' tg' iter ifs scope' ha
            simp only [Bool.and_eq_true, decide_eq_true_eq, Bool.not_eq_true', List.all_eq_true] at h1
            obtain ⟨pos', e2⟩ := asLc_eq ha
            cases e2
            obtain ⟨⟨⟨⟨⟨⟨⟨b1, b2⟩, b3⟩, b4⟩, b5⟩, b6⟩, b7⟩, b8⟩ := h1
            exact asg_lc C a1 hy hk a4 a5 (snd_I hp hm it tl sc _ tg' b6 k X W C T) (blkOk_by b1) b2
              (fun s H Cc cl fp => pg_T (Sets.blk C scope s H Cc cl fp) b3)
              (fun s H Cc cl fp => snd_C hp hm c false _ _ b7 k _ (C.blk scope s H Cc cl fp) T)
              (fun s H Cc cl fp => snd_E hp hm e false _ _ b8 k _ W0 (C.blk scope s H Cc cl fp) T) b4 b5
          · cases h1
        | var _ => simp [mE, slotE] at h1
        | con d => cases d <;> simp [mE, conIs] at h1
        | glob _ => simp [mE, asName] at h1
        | op _ _ => simp [mE, asBin] at h1
        | cmp _ _ => simp [mE, asCmp1] at h1
        | chain _ _ _ _ => simp [mE, asCmp2] at h1
        | neg _ => simp [mE, asUn] at h1
        | no _ => simp [mE, asUn] at h1
        | and _ _ => simp [mE, asBool] at h1
        | or _ _ => simp [mE, asBool] at h1
        | ite _ _ _ => simp [mE, asIf] at h1
        | tup _ => simp [mE, asTup] at h1
        | lst _ => simp [mE, asLst] at h1
        | idx _ => simp [mE, asSub] at h1
        | bf _ _ => simp [mE, asCall] at h1
        | mm _ _ _ => simp [mE, asMeth] at h1
        | call _ _ => simp [mE, asCall] at h1
        | meth _ _ _ => simp [mE, asMeth] at h1
        | make _ _ => simp [mE, asCall] at h1
        | fld _ _ => simp [mE, asAttr] at h1
        | told _ => simp [mE, asTold] at h1
        | pick _ _ _ => simp [mE, asPick] at h1
        | _ => simp [mE] at h1
      · cases h2
    · rename_i hc
      exact asg_plain C S h.2 (snd_E hp hm e tl sc ex h.1 k X W C T) (by simpa using hc)
  · cases h
mutual
theorem snd_S (hp : IsP g p) (hm : MsOk g) (C : Cok p N tl sc k X W) (S0 : Sets N sc X) (T : ToldAt p X.K X.mg g.told) (po : PassesOwn (model X.prog X.w) X.A X.env X.xe) : ∀ (s : S) (st : Stmt), mS g N ow io fr tl sc s st = true → PS X st (tS p ow io fr W (evS p.pg.tb (lev p.pg k) s))
  | .set i e, st, h => by
    simp only [mS, Bool.and_eq_true, decide_eq_true_eq] at h
    exact r_set (asg_ok hp hm C S0 T h.1) h.2
  | .thaw i e, st, h => by
    simp only [mS, Bool.and_eq_true, decide_eq_true_eq] at h
    exact r_thaw (asg_ok hp hm C S0 T h.1.1.1) h.1.1.2 h.1.2 h.2 C.nm
  | .bind is e, st, h => by
    unfold mS at h
    split at h <;> first | (rename_i e1; cases e1) | skip
    all_goals first
      | (cases h; done)
      | (simp only [Bool.and_eq_true, decide_eq_true_eq, Bool.not_eq_true', List.all_eq_true] at h
         exact r_bind C S0 h.1.1.1 (snd_E hp hm e tl sc _ h.1.1.2 k X W C T) h.1.2 h.2)
  | .par2 i fi a j fj b, st, h => by
    unfold mS at h
    split at h <;> first | (rename_i e1; cases e1) | skip
    all_goals first
      | (cases h; done)
      | skip
    rename_i _ _ x px y py kt pt ea eb k2 pt2 pos
    simp only [Bool.and_eq_true, decide_eq_true_eq, Bool.not_eq_true', beq_eq_false_iff_ne] at h
    obtain ⟨⟨⟨⟨⟨⟨⟨⟨⟨⟨h1, h2⟩, h3⟩, h4⟩, h5⟩, h6⟩, h7⟩, h8⟩, h9⟩, h10⟩, h11⟩ := h
    have hx : sc.names.lookup x = some .local := by
      split at h4
      · assumption
      · cases h4
    have hy : sc.names.lookup y = some .local := by
      split at h5
      · assumption
      · cases h5
    have hk : sc.kind = .function := by
      split at h6
      · assumption
      · cases h6
    refine r_par2 C h1 h2 h3 hx hy hk (snd_E hp hm a tl sc _ h7 k X W C T) (snd_E hp hm b tl sc _ h8 k X W C T) h9 (fun z => ?_) (fun z => ?_) h11
    · subst z; simpa using h10
    · subst z; simpa using h10
  | .setIx i ek ev, st, h => by
    unfold mS at h
    split at h <;> first | (rename_i e1; cases e1) | skip
    all_goals first
      | (cases h; done)
      | (simp only [Bool.and_eq_true, decide_eq_true_eq, Bool.not_eq_true', List.all_eq_true] at h
         exact r_setIx C (slot_pe C h.1.1.1.1.1) h.1.1.1.1.2 (snd_E hp hm ek tl sc _ h.1.1.1.2 k X W C T) (snd_E hp hm ev tl sc _ h.1.1.2 k X W C T) h.1.2 h.2)
  | .setFld i f e, st, h => by
    unfold mS at h
    split at h <;> first | (rename_i e1; cases e1) | skip
    all_goals first
      | (cases h; done)
      | (simp only [Bool.and_eq_true, decide_eq_true_eq, Bool.not_eq_true'] at h
         obtain ⟨⟨⟨⟨h1, h2⟩, h3⟩, h4⟩, h5⟩ := h
         have he := snd_E hp hm e tl sc _ h4 k X W C T
         have ho := slot_pe C h1
         obtain ⟨w, K, ca, T', da, dfd, dps, rfl⟩ := hp
         subst h3
         exact r_setFld (p := g.pr w K ca T' da dfd dps) C ho h2 he h5)
  | .expr e, st, h => by
    unfold mS at h
    split at h <;> first | (rename_i e1; cases e1) | skip
    all_goals first
      | (cases h; done)
      | (simp only [Bool.and_eq_true, decide_eq_true_eq, Bool.not_eq_true', List.all_eq_true] at h
         exact r_expr (snd_E hp hm e tl sc _ h.1 k X W C T) h.2)
  | .ret e, st, h => by
    unfold mS at h
    split at h <;> first | (rename_i e1; cases e1) | skip
    all_goals first
      | (cases h; done)
      | (simp only [Bool.and_eq_true, Bool.or_eq_true, Bool.not_eq_true'] at h
         have he := snd_E hp hm e tl sc _ h.1 k X W C T
         obtain ⟨w, K, ca, T', da, dfd, dps, rfl⟩ := hp
         exact r_ret (p := g.pr w K ca T' da dfd dps) he fun hf => by
           rcases h.2 with z | z
           · rw [hf] at z; cases z
           · exact z)
  | .retO i, st, h => by
    unfold mS at h
    split at h <;> first | (rename_i e1; cases e1) | skip
    all_goals first
      | (cases h; done)
      | (simp only [Bool.and_eq_true, decide_eq_true_eq, Bool.not_eq_true', List.all_eq_true] at h
         exact r_retO (slot_pe C h.1.1) h.1.2 h.2)
  | .raise c, st, h => by
    unfold mS at h
    split at h <;> first | (rename_i e1; cases e1) | skip
    all_goals first
      | (cases h; done)
      | (simp only [Bool.and_eq_true, decide_eq_true_eq] at h
         obtain ⟨⟨⟨h1, h2⟩, h3⟩, h4⟩ := h
         obtain ⟨w, K, ca, T', da, dfd, dps, rfl⟩ := hp
         subst h1
         exact r_raise (p := g.pr w K ca T' da dfd dps) C h2 h3 h4)
  | .pass, st, h => by
    unfold mS at h
    split at h <;> first | (rename_i e1; cases e1) | skip
    all_goals first
      | (cases h; done)
      | (skip
         exact r_pass)
  | .brk, st, h => by
    unfold mS at h
    split at h <;> first | (rename_i e1; cases e1) | skip
    all_goals first
      | (cases h; done)
      | (skip
         exact r_brk)
  | .cont, st, h => by
    unfold mS at h
    split at h <;> first | (rename_i e1; cases e1) | skip
    all_goals first
      | (cases h; done)
      | (skip
         exact r_cont)
  | .ite e a b, st, h => by
    unfold mS at h
    split at h <;> first | (rename_i e1; cases e1) | skip
    all_goals first
      | (cases h; done)
      | (simp only [Bool.and_eq_true, decide_eq_true_eq, Bool.not_eq_true', List.all_eq_true] at h
         exact r_ite (snd_Q hp hm e tl sc _ h.1.1 k X W C T) (snd_Ss hp hm C S0 T po a _ h.1.2) (snd_Ss hp hm C S0 T po b _ h.2))
  | .whil n e b, st, h => by
    unfold mS at h
    split at h <;> first | (rename_i e1; cases e1) | skip
    all_goals first
      | (cases h; done)
      | (simp only [Bool.and_eq_true, decide_eq_true_eq, Bool.not_eq_true', List.all_eq_true] at h
         exact r_while po (snd_Q hp hm e tl sc _ h.1 k X W C T) (snd_Ss hp hm C S0 T po b _ h.2))
  | .fors t it b, st, h => by
    unfold mS at h
    split at h <;> first | (rename_i e1; cases e1) | skip
    all_goals first
      | (cases h; done)
      | (simp only [Bool.and_eq_true, decide_eq_true_eq, Bool.not_eq_true', List.all_eq_true] at h
         exact r_for C S0 po (snd_I hp hm it tl sc _ _ h.1.1.1.1 k X W C T) h.1.1.1.2 (snd_Ss hp hm C S0 T po b _ h.1.1.2) h.1.2 h.2)
  | .aug _ _ _, st, h => by
    unfold mS at h
    cases h
theorem snd_Ss (hp : IsP g p) (hm : MsOk g) (C : Cok p N tl sc k X W) (S0 : Sets N sc X) (T : ToldAt p X.K X.mg g.told) (po : PassesOwn (model X.prog X.w) X.A X.env X.xe) : ∀ (ss : List S) (sts : List Stmt), mSs g N ow io fr tl sc ss sts = true → PSs X sts (tS p ow io fr W (evSs p.pg.tb (lev p.pg k) ss))
  | [], [], _ => ss_nil
  | s :: ss, st :: sts, h => by
    simp only [mSs, Bool.and_eq_true] at h
    exact ss_cons (snd_S hp hm C S0 T po s st h.1) (snd_Ss hp hm C S0 T po ss sts h.2)
  | [], _ :: _, h => by simp [mSs] at h
  | _ :: _, [], h => by simp [mSs] at h
end
end
end Bh
/-! text Bh6a -/
set_option Elab.async false
set_option linter.all false
set_option maxRecDepth 100000
set_option maxHeartbeats 1000000
/-! Bh6a: a def of the row, as the checker has looked at it. -/
namespace Bh
open PySem PySem.W L2 PyProof.Rows
def defOkB (df : Def) (N ps : List Str) : Bool := decide (N.length = df.nl) && decide (ps.length = df.np) && decide (df.np ≤ df.nl) && df.io.all (fun i => decide (i ∈ df.ow) && decide (i < df.np)) && df.ow.all (fun i => !decide (i < df.np) || decide (i ∈ df.io))
theorem defOk_by {df : Def} {N ps : List Str} (h : defOkB df N ps = true) : DefOk df N ps := by
  simp only [defOkB, Bool.and_eq_true, decide_eq_true_eq, List.all_eq_true, Bool.or_eq_true, Bool.not_eq_true', decide_eq_false_iff_not] at h
  obtain ⟨⟨⟨⟨h1, h2⟩, h3⟩, h4⟩, h5⟩ := h
  exact ⟨h1, h2, h3, h4, fun i hi hn => (h5 i hi).resolve_left fun z => z hn⟩
theorem defAt_of {g : Cg} {p : Pr} {prog : Program} {w : World} {K : Frag} {mg : Str → Option Value} {base : Heap} {f : Nat} {df : Def} {name qual : Str} {st : Stmt} {kV doc pm cdv ct oc : Value} {an od : Option Addr} {osl : Array (Option Value)} {N : List Str} (tl : Bool)
    (hp : IsP g p) (hm : MsOk g) (T : ToldAt p K mg g.told)
    (l : K.lookup (p.da f) = some ⟨oc, od, .func (fnOf name qual (defArgs st) (defBody st) (defScope st) .none kV doc pm an cdv ct), osl⟩) (c : codeIn K cdv qual = true) (S : FnScope N (p.dps f) (defScope st))
    (e : p.dfd f = fnOf name qual (defArgs st) (defBody st) (defScope st) .none kV doc pm an cdv ct) (dk : defOkB df N (p.dps f) = true)
    (lam : tl = true → ∃ c P, LamX.TabB base mg c P ∧ cdv = .ref c ∧ (P, (qual ++ ".<locals>.") ++ "<lambda>") ∈ p.T ∧ ∀ q ∈ p.T, q.1 = P → q.2 = (qual ++ ".<locals>.") ++ "<lambda>")
    (m : mSs g N df.ow df.io df.fr tl (defScope st) df.body (defBody st) = true) : DefAt p prog w K mg base f df :=
  ⟨name, qual, defArgs st, defBody st, defScope st, .none, kV, doc, pm, cdv, ct, oc, an, od, osl, N, tl, l, c, S, e, defOk_by dk, lam, fun k X W C h1 h2 h3 h4 S0 po => by
    subst h3; subst h4
    exact snd_Ss hp hm C S0 T po df.body (defBody st) m⟩
end Bh
/-! text Bh7a -/
set_option Elab.async false
set_option linter.all false
set_option maxRecDepth 100000
set_option maxHeartbeats 1000000
/-! Bh7a: arguments come to plain parameters. -/
namespace Bh
open PySem PySem.W L2 PyProof.Rows
theorem fm_congr {α β : Type} {f g : α → Option β} : ∀ {l : List α}, (∀ x ∈ l, f x = g x) → l.filterMap f = l.filterMap g
  | [], _ => rfl
  | x :: l, h => by
    rw [List.filterMap_cons, List.filterMap_cons, h x (by simp), fm_congr fun y hy => h y (by simp [hy])]
theorem zip_look : ∀ {ns : List Str} {us : List Value}, ns.Nodup → us.length = ns.length → ns.filterMap (fun n => ((ns.zip us).lookup n).map (n, ·)) = ns.zip us ∧ ∀ n ∈ ns, ((ns.zip us).lookup n).isSome = true
  | [], [], _, _ => ⟨rfl, fun _ h => nomatch h⟩
  | n :: ns, u :: us, hd, hl => by
    obtain ⟨h1, h2⟩ := List.nodup_cons.mp hd
    obtain ⟨i1, i2⟩ := zip_look h2 (by simpa using hl)
    have e : ∀ m ∈ ns, ((n, u) :: ns.zip us).lookup m = (ns.zip us).lookup m := fun m hm => by
      have : (m == n) = false := by simpa using fun z : m = n => h1 (z ▸ hm)
      rw [List.lookup_cons, this]
    refine ⟨?_, fun m hm => ?_⟩
    · rw [List.zip_cons_cons, List.filterMap_cons]
      simp only [List.lookup_cons_self, Option.map_some]
      congr 1
      refine Eq.trans (fm_congr fun m hm => ?_) i1
      rw [e m hm]
    · rw [List.zip_cons_cons]
      rcases List.mem_cons.mp hm with rfl | hm
      · simp
      · rw [e m hm]; exact i2 m hm
theorem bindArgs_plain {fd : FuncData} {as : List PySem.Arg} {us : List Value} (hp : fd.params = ⟨[], as, none, [], [], none, []⟩) (hd : fd.defaults = .none) (hn : (as.map (·.arg)).Nodup) (hl : us.length = as.length) :
    bindArgs fd ⟨us, []⟩ = pure ((as.map (·.arg)).zip us) := by
  obtain ⟨h1, h2⟩ := zip_look hn (us := us) (by simpa using hl)
  have h3 : (as.map (·.arg)).filter (fun n => (((as.map (·.arg)).zip us).lookup n).isNone) = [] := by
    rw [List.filter_eq_nil_iff]
    intro n hnn
    have := h2 n hnn
    cases hq : ((as.map (·.arg)).zip us).lookup n <;> simp_all
  have hs : seqItems? Value.none = pure none := rfl
  have hlt : ¬ as.length < us.length := by omega
  unfold bindArgs
  rw [hp, hd, hs]
  simp [hlt, h3, List.take_of_length_le]
  rw [← List.filterMap_map, h1]
end Bh
/-! text Bh7b -/
set_option Elab.async false
set_option linter.all false
set_option maxRecDepth 100000
set_option maxHeartbeats 2000000
/-! Bh7b: what the program's top has left, looked at by one computation. -/
namespace Bh
open PySem PySem.W L2 PyProof.Rows
/-- a program: the core's tables and the names -/
structure Rw where
  pg : Pg
  ds : List Def
  gs : List (Str × D)
  dn : List Str
  pl : List (Option Nat)
  nm : List (List Str)
  tl : List Bool
  cn : List Str
  cls : List Nat
  exs : List Nat
  mn : List Str
  ms : List (Nat × Nat × Nat)
  is : List (Nat × Nat)
  fn : List Str
  td : List (Nat × List Nat)
  told : Str
  ex : List Str
def ix (l : List Str) (i : Nat) : Str := (l[i]?).getD ""
def tilde (i : Nat) : Str := ⟨(List.replicate (i + 1) 126).toArray⟩
def ixT (l : List Str) (i : Nat) : Str := match l[i]? with
  | some s => s
  | none => tilde i
def Rw.cg (r : Rw) : Cg := ⟨r.pg, fun i => ix (r.gs.map (·.1)) i, ix r.dn, ix r.mn, ix r.cn, ixT r.fn, fun f => match r.pl[f]? with
  | some none => true
  | _ => false, fun c => r.exs.contains c, r.ms, r.told⟩
/-- the tables are told by the lists -/
structure RwOk (r : Rw) : Prop where
  defs : ∀ f, r.pg.defs f = r.ds[f]?
  glob : ∀ i, r.pg.tb.glob i = (r.gs[i]?).map (·.2)
  meth : ∀ c m f, r.pg.tb.meth c m = some f → (c, m, f) ∈ r.ms
  init : ∀ c f, r.pg.tb.init c = some f → (c, f) ∈ r.is
  fld : ∀ c f, r.pg.tb.fld c f = true → c ∈ r.cls ∧ f < r.fn.length
  told : ∀ c d, r.pg.tb.told c = some d → ∃ s, (c, s) ∈ r.td ∧ d = .str s
def nsA (K : Frag) (x : Str) : Option Addr := match nsIn K mainGlobals x with
  | some (some (.ref a)) => some a
  | _ => none
def clA (K : Frag) (c : Addr) (x : Str) : Option Addr := match findIn K (.ref c) x with
  | some (some (.ref a)) => some a
  | _ => none
theorem nsA_eq {K : Frag} {x : Str} {a : Addr} (h : nsA K x = some a) : nsIn K mainGlobals x = some (some (.ref a)) := by
  unfold nsA at h; split at h
  · cases h; assumption
  · cases h
theorem clA_eq {K : Frag} {c : Addr} {x : Str} {a : Addr} (h : clA K c x = some a) : findIn K (.ref c) x = some (some (.ref a)) := by
  unfold clA at h; split at h
  · cases h; assumption
  · cases h
section
variable (r : Rw) (K : Frag)
def Rw.ca (c : Nat) : Addr := (nsA K (ix r.cn c)).getD 0
def Rw.daO (f : Nat) : Option Addr := match r.pl[f]? with
  | some none => nsA K (ix r.dn f)
  | some (some c) => clA K (r.ca K c) (ix r.dn f)
  | none => none
def Rw.da (f : Nat) : Addr := (r.daO K f).getD 0
def fnAt (a : Addr) : Option FuncData := match K.lookup a with
  | some ⟨_, _, .func fd, _⟩ => some fd
  | _ => none
def Rw.fd (f : Nat) : FuncData := (fnAt K (r.da K f)).getD default
def Rw.nms (f : Nat) : List Str := (r.nm[f]?).getD []
def Rw.ps (f : Nat) : List Str := (r.nms f).take (((r.ds[f]?).map (·.np)).getD 0)
/-- a code object's table -/
def tabOfC (cd : Value) : Option (Addr × Addr) := match cd with
  | .ref c => (match K.lookup c with
    | some ⟨_, _, .fields vs, _⟩ => (match (vs[11]? : Option Value) with
      | some (.ref P) => some (c, P)
      | _ => none)
    | _ => none)
  | _ => none
def lamQ (fd : FuncData) : Str := (fd.qualname ++ ".<locals>.") ++ "<lambda>"
/-- the defs that make lambdas -/
def Rw.tls : List Nat := (List.range r.ds.length).filter fun f => (r.tl[f]?).getD false
def Rw.lams : List FuncData := r.tls.map (r.fd K) ++ r.ex.filterMap fun x => (nsA K x).bind (fnAt K)
def Rw.cs : List (Addr × Addr) := (r.lams K).filterMap fun fd => tabOfC K fd.code
def Rw.T : List (Addr × Str) := (r.lams K).filterMap fun fd => (tabOfC K fd.code).map fun q => (q.2, lamQ fd)
def Rw.pr (w : World) : Pr := r.cg.pr w K (r.ca K) (r.T K) (r.da K) (r.fd K) r.ps
/-! ### the looks -/
def noneV : Value → Bool
  | .none => true
  | _ => false
def stmtsOf : FuncBody → Option (List Stmt)
  | .stmts b => some b
  | _ => none
def parsB : Arguments → List Str → Bool
  | ⟨[], as, none, [], [], none, []⟩, ps => decide (as.map (·.arg) = ps) && decide ps.Nodup
  | _, _ => false
def scopeB (N ps : List Str) (sc : Scope) : Bool := (match sc.kind with
    | .function => true
    | _ => false) && !sc.isCoroutine && !sc.isGenerator && decide N.Nodup && decide (N.take ps.length = ps) && (ps.all fun x => match sc.names.lookup x with
    | some .local => true
    | some .cell => true
    | _ => false) && (sc.names.all fun y => match y.2 with
    | .free => false
    | _ => true)
theorem scopeB_ok {N ps : List Str} {sc : Scope} (h : scopeB N ps sc = true) : FnScope N ps sc := by
  simp only [scopeB, Bool.and_eq_true, Bool.not_eq_true', decide_eq_true_eq, List.all_eq_true] at h
  obtain ⟨⟨⟨⟨⟨⟨h1, h2⟩, h3⟩, h4⟩, h5⟩, h6⟩, h7⟩ := h
  refine ⟨?_, h2, h3, h4, h5, fun x hx => ?_, fun y hy => ?_⟩
  · split at h1
    · assumption
    · cases h1
  · have := h6 x hx
    split at this
    · exact .inl (by assumption)
    · exact .inr (by assumption)
    · cases this
  · have := h7 y hy
    intro z
    rw [z] at this
    cases this
def fdB (fd : FuncData) : Bool := fd.globals == mainGlobals && fd.closure.isEmpty && noneV fd.defaults && fd.builtins == builtinsNs
def Rw.dfB (f : Nat) (df : Def) : Bool := match r.daO K f with
  | some a => (match K.lookup a with
    | some ⟨_, _, .func fd, _⟩ => fdB fd && codeIn K fd.code fd.qualname && scopeB (r.nms f) (r.ps f) fd.scope && defOkB df (r.nms f) (r.ps f) && parsB fd.params (r.ps f) && keepIn K (.ref a) &&
        (!((r.tl[f]?).getD false) || (match tabOfC K fd.code with
          | some q => (r.T K).all (fun t => !(t.1 == q.2) || decide (t.2 = lamQ fd))
          | none => false)) &&
        (match stmtsOf fd.body with
          | some b => mSs r.cg (r.nms f) df.ow df.io df.fr ((r.tl[f]?).getD false) fd.scope df.body b
          | none => false)
    | _ => false)
  | none => false
mutual
def dB : D → Value → Bool
  | .non, .none => true
  | .bl b, .bool c => b == c
  | .int i, .int j _ => decide (i = j)
  | .str s, .str t _ => decide (t = ⟨s.toArray⟩)
  | .tup ds, .ref a => match K.lookup a with
    | some ⟨.type t, _, .seq its _, _⟩ => decide (t = "tuple") && decide (its.size ≤ sizeLine) && dBs ds its.toList
    | _ => false
  | _, _ => false
def dBs : List D → List Value → Bool
  | [], [] => true
  | d :: ds, v :: vs => dB d v && dBs ds vs
  | _, _ => false
end
variable {K}
mutual
theorem dB_ok : ∀ {d : D} {v : Value}, dB K d v = true → ∃ u, RelV u v ∧ ∀ (G : Gx) (H : Hp) (O : Addr → Prop), G.K = K → FR G H O u d
  | d, v, h => by
    unfold dB at h
    split at h
    · exact ⟨.non, rfl, fun _ _ _ _ => .non⟩
    · rename_i b c
      rw [beq_iff_eq] at h
      subst h
      exact ⟨.bl b, rfl, fun _ _ _ _ => .bl b⟩
    · rename_i i j t
      rw [decide_eq_true_eq] at h
      subst h
      exact ⟨.int i, ⟨t, rfl⟩, fun _ _ _ _ => .int i⟩
    · rename_i s t k
      rw [decide_eq_true_eq] at h
      subst h
      exact ⟨.str ⟨s.toArray⟩, ⟨k, rfl⟩, fun _ _ _ _ => .str s⟩
    · rename_i ds a
      split at h
      · rename_i t dd its n sl hk
        simp only [Bool.and_eq_true, decide_eq_true_eq] at h
        obtain ⟨⟨rfl, h2⟩, h3⟩ := h
        obtain ⟨us, h4, h5⟩ := dBs_ok h3
        exact ⟨.ref a, rfl, fun G H O e => .tupk ⟨_, its, n, by rw [e]; exact hk, rfl, rfl, h2, h4⟩ (h5 G H O e)⟩
      · cases h
    · cases h
theorem dBs_ok : ∀ {ds : List D} {vs : List Value}, dBs K ds vs = true → ∃ us, Vals us vs ∧ ∀ (G : Gx) (H : Hp) (O : Addr → Prop), G.K = K → FRs G H O us ds
  | [], [], _ => ⟨[], .nil, fun _ _ _ _ => .nil⟩
  | d :: ds, v :: vs, h => by
    simp only [dBs, Bool.and_eq_true] at h
    obtain ⟨u, h1, h2⟩ := dB_ok h.1
    obtain ⟨us, h3, h4⟩ := dBs_ok h.2
    exact ⟨u :: us, .cons h1 h3, fun G H O e => .cons (h2 G H O e) (h4 G H O e)⟩
  | [], _ :: _, h => by simp [dBs] at h
  | _ :: _, [], h => by simp [dBs] at h
end
variable (K)
def glB (q : Str × D) : Bool := match nsIn K mainGlobals q.1 with
  | some (some v) => dB K q.2 v
  | _ => false
def noNs (x : Str) : Bool := match nsIn K mainGlobals x with
  | some none => true
  | _ => false
def clsB (C : Addr) : Bool := plainGet K C Str.empty && hasDictIn K C && plainOver K C && decide (findIn K (.ref C) "__setattr__" = some (some (.builtin "object.__setattr__")))
theorem clsB_ok {C : Addr} (h : clsB K C = true) : Cls K C := by
  simp only [clsB, Bool.and_eq_true, decide_eq_true_eq] at h
  exact ⟨h.1.1.1, h.1.1.2, h.1.2, h.2⟩
def Rw.mtB (q : Nat × Nat × Nat) : Bool := clsB K (r.ca K q.1) && decide (findIn K (.ref (r.ca K q.1)) (ix r.mn q.2.1) = some (some (.ref (r.da K q.2.2)))) && isFn K (.ref (r.da K q.2.2)) && keepIn K (.ref (r.da K q.2.2)) && decide (q.2.2 < r.ds.length)
def Rw.inB (q : Nat × Nat) : Bool := decide (nsA K (ix r.cn q.1) = some (r.ca K q.1)) && makesIn K (r.ca K q.1) && decide (findIn K (.ref (r.ca K q.1)) "__init__" = some (some (.ref (r.da K q.2)))) && isFn K (.ref (r.da K q.2)) && keepIn K (.ref (r.ca K q.1)) && decide (q.2 < r.ds.length)
def Rw.exB (c : Nat) : Bool := decide (nsA K (ix r.cn c) = some (r.ca K c)) && keepIn K (.ref (r.ca K c)) && decide (subIn K (.ref (r.ca K c)) (.type "BaseException") = some true) && decide (typeIn K (.ref (r.ca K c)) = some (.type "type")) &&
  excIn K (r.ca K c) [.type "ValueError", .type "Exception", .type "BaseException", .type "object"] "ValueError.__new__"
def Rw.flB (c : Nat) : Bool := clsB K (r.ca K c) && r.fn.all fun x => decide (findIn K (.ref (r.ca K c)) x = some none)
/-- a name that is no filler -/
def notT (s : Str) : Bool := match s.cps.toList with
  | 126 :: _ => false
  | _ => true
def Rw.nmB : Bool := decide (r.pl.length ≤ r.ds.length) && decide r.fn.Nodup && r.fn.all notT && r.mn.all notT && r.fn.all (fun x => !r.mn.contains x && decide (x ≠ ""))
def bltB : Bool := (["len", "abs", "int", "list", "tuple", "sorted", "max", "min", "dict", "range"] : List Str).all (noNs K)
/-- all of it -/
def Rw.lookB : Bool := r.gs.all (glB K) && bltB K && ((List.range r.ds.length).all fun f => match r.ds[f]? with
    | some df => r.dfB K f df
    | none => true) && r.ms.all (r.mtB K) && r.is.all (r.inB K) && r.exs.all (r.exB K) && r.cls.all (r.flB K) && r.nmB
end
theorem tilde_head (i : Nat) : (tilde i).cps.toList = 126 :: List.replicate i 126 := by
  show (List.replicate (i + 1) 126).toArray.toList = _
  rw [List.toList_toArray, List.replicate_succ]
theorem notT_tilde (i : Nat) : notT (tilde i) = false := by
  unfold notT; rw [tilde_head]; rfl
theorem tilde_inj {i j : Nat} (h : tilde i = tilde j) : i = j := by
  have h1 := congrArg (fun s : Str => s.cps.toList.length) h
  simp only [tilde_head, List.length_cons, List.length_replicate] at h1
  omega
theorem ixT_or (l : List Str) (i : Nat) : (∃ s, l[i]? = some s ∧ ixT l i = s) ∨ (l[i]? = none ∧ ixT l i = tilde i) := by
  unfold ixT
  cases h : l[i]? with
  | some s => exact .inl ⟨s, rfl, rfl⟩
  | none => exact .inr ⟨rfl, rfl⟩
theorem ixT_inj {l : List Str} (hd : l.Nodup) (hn : l.all notT = true) (g g' : Nat) (h : ixT l g = ixT l g') : g = g' := by
  rw [List.all_eq_true] at hn
  rcases ixT_or l g with ⟨s, h1, h2⟩ | ⟨h1, h2⟩ <;> rcases ixT_or l g' with ⟨t, h3, h4⟩ | ⟨h3, h4⟩
  · rw [h2, h4] at h
    subst h
    obtain ⟨a1, a2⟩ := List.getElem?_eq_some_iff.mp h1
    obtain ⟨b1, b2⟩ := List.getElem?_eq_some_iff.mp h3
    exact (List.getElem_inj hd).mp (a2.trans b2.symm)
  · rw [h2, h4] at h
    have := hn s (List.mem_of_getElem? h1)
    rw [h, notT_tilde] at this
    cases this
  · rw [h2, h4] at h
    have := hn t (List.mem_of_getElem? h3)
    rw [← h, notT_tilde] at this
    cases this
  · rw [h2, h4] at h
    exact tilde_inj h
theorem ixT_ne {l ms : List Str} (h1 : l.all notT = true) (h2 : ms.all notT = true) (h3 : l.all (fun x => !ms.contains x && decide (x ≠ "")) = true) (g j : Nat) : ixT l g ≠ ix ms j := by
  rw [List.all_eq_true] at h1 h2 h3
  have hm : ix ms j = "" ∨ ix ms j ∈ ms := by
    unfold ix
    cases h : ms[j]? with
    | none => exact .inl rfl
    | some s => exact .inr (List.mem_of_getElem? h)
  rcases ixT_or l g with ⟨s, a1, a2⟩ | ⟨a1, a2⟩
  · rw [a2]
    have hs := h3 s (List.mem_of_getElem? a1)
    simp only [Bool.and_eq_true, Bool.not_eq_true', decide_eq_true_eq] at hs
    rcases hm with e | e
    · rw [e]; exact hs.2
    · intro z
      rw [← z] at e
      have := List.contains_iff_mem.mpr e
      rw [this] at hs
      cases hs.1
  · rw [a2]
    intro z
    rcases hm with e | e
    · rw [e] at z
      have := congrArg (fun s : Str => s.cps.toList.length) z
      simp only [tilde_head, List.length_cons] at this
      have e0 : ("" : Str).cps.toList.length = 0 := by decide +kernel
      rw [e0] at this
      cases this
    · have := h2 _ e
      rw [← z, notT_tilde] at this
      cases this
end Bh
/-! text Bh7c -/
set_option Elab.async false
set_option linter.all false
set_option maxRecDepth 100000
set_option maxHeartbeats 2000000
/-! Bh7c: the facts of the program from the look. -/
namespace Bh
open PySem PySem.W L2 PyProof.Rows
theorem noneV_eq {v : Value} (h : noneV v = true) : v = .none := by
  unfold noneV at h; split at h
  · rfl
  · cases h
theorem stmtsOf_eq {b : FuncBody} {s : List Stmt} (h : stmtsOf b = some s) : b = .stmts s := by
  unfold stmtsOf at h; split at h
  · cases h; rfl
  · cases h
theorem fd_eq {fd : FuncData} {b : List Stmt} (h : fdB fd = true) (hb : stmtsOf fd.body = some b) : fd = fnOf fd.name fd.qualname fd.params b fd.scope .none fd.kwdefaults fd.doc fd.pyModule fd.annotations fd.code fd.closureTuple := by
  simp only [fdB, Bool.and_eq_true, beq_iff_eq] at h
  obtain ⟨⟨⟨h1, h2⟩, h3⟩, h4⟩ := h
  have h2' := List.isEmpty_iff.mp h2
  have h3' := noneV_eq h3
  have hb' := stmtsOf_eq hb
  cases fd
  simp only at h1 h2' h3' h4 hb'
  subst h1; subst h2'; subst h3'; subst h4; subst hb'
  rfl
theorem parsB_ok {ar : Arguments} {ps : List Str} (h : parsB ar ps = true) : ∃ as, ar = ⟨[], as, none, [], [], none, []⟩ ∧ as.map (·.arg) = ps ∧ ps.Nodup := by
  unfold parsB at h
  split at h
  · rename_i as
    simp only [Bool.and_eq_true, decide_eq_true_eq] at h
    exact ⟨as, rfl, h.1, h.2⟩
  · cases h
theorem binds_of {K : Frag} {fd : FuncData} {ps : List Str} (hd : fd.defaults = .none) (h : parsB fd.params ps = true) : L2.Binds K fd ps [] := by
  obtain ⟨as, h1, h2, h3⟩ := parsB_ok h
  refine L2.Binds.all fun us hl => ?_
  rw [← h2]
  exact bindArgs_plain h1 hd (by rw [h2]; exact h3) (by rw [hl, ← h2, List.length_map])
section
variable {r : Rw} {K : Frag} {w : World} {mg : Str → Option Value} {base h0 : Heap} {prog : Program}
theorem lookB_ok (h : r.lookB K = true) : (r.gs.all (glB K) = true) ∧ (bltB K = true) ∧ (∀ f df, r.ds[f]? = some df → r.dfB K f df = true) ∧ (r.ms.all (r.mtB K) = true) ∧ (r.is.all (r.inB K) = true) ∧ (r.exs.all (r.exB K) = true) ∧ (r.cls.all (r.flB K) = true) ∧ r.nmB = true := by
  simp only [Rw.lookB, Bool.and_eq_true] at h
  obtain ⟨⟨⟨⟨⟨⟨⟨h1, h2⟩, h3⟩, h4⟩, h5⟩, h6⟩, h7⟩, h8⟩ := h
  refine ⟨h1, h2, fun f df hf => ?_, h4, h5, h6, h7, h8⟩
  have := List.all_eq_true.mp h3 f (List.mem_range.mpr (List.getElem?_eq_some_iff.mp hf).1)
  rw [hf] at this
  exact this
theorem dfB_ok {f : Nat} {df : Def} (h : r.dfB K f df = true) : ∃ (a : Addr) (oc : Value) (od : Option Addr) (fd : FuncData) (osl : Array (Option Value)) (b : List Stmt), r.daO K f = some a ∧ K.lookup a = some ⟨oc, od, .func fd, osl⟩ ∧ fdB fd = true ∧ codeIn K fd.code fd.qualname = true ∧ scopeB (r.nms f) (r.ps f) fd.scope = true ∧
    defOkB df (r.nms f) (r.ps f) = true ∧ parsB fd.params (r.ps f) = true ∧ keepIn K (.ref a) = true ∧ ((r.tl[f]?).getD false = true → ∃ q, tabOfC K fd.code = some q ∧ ∀ t ∈ r.T K, t.1 = q.2 → t.2 = lamQ fd) ∧ stmtsOf fd.body = some b ∧ mSs r.cg (r.nms f) df.ow df.io df.fr ((r.tl[f]?).getD false) fd.scope df.body b = true := by
  unfold Rw.dfB at h
  split at h
  · rename_i a ha
    split at h
    · rename_i oc od fd osl hk
      simp only [Bool.and_eq_true] at h
      obtain ⟨⟨⟨⟨⟨⟨⟨h1, h2⟩, h3⟩, h4⟩, h5⟩, h6⟩, h7⟩, h8⟩ := h
      split at h8
      · rename_i b hb
        refine ⟨a, oc, od, fd, osl, b, ha, hk, h1, h2, h3, h4, h5, h6, fun ht => ?_, hb, h8⟩
        rw [ht] at h7
        simp only [Bool.not_true, Bool.false_or] at h7
        split at h7
        · rename_i q hq
          refine ⟨q, hq, fun t htt e => ?_⟩
          have := List.all_eq_true.mp h7 t htt
          simp only [Bool.or_eq_true, Bool.not_eq_true', beq_eq_false_iff_ne, decide_eq_true_eq] at this
          exact this.resolve_left fun z => z e
        · cases h7
      · cases h8
    · cases h
  · cases h
theorem da_of {f : Nat} {a : Addr} (h : r.daO K f = some a) : r.da K f = a := by rw [Rw.da, h]; rfl
theorem fd_of {f : Nat} {a : Addr} {oc : Value} {od : Option Addr} {fd : FuncData} {osl : Array (Option Value)} (h : r.daO K f = some a) (hk : K.lookup a = some ⟨oc, od, .func fd, osl⟩) : r.fd K f = fd := by
  unfold Rw.fd fnAt
  rw [da_of h, hk]
  rfl
theorem tls_mem {f : Nat} {df : Def} (hf : r.ds[f]? = some df) (ht : (r.tl[f]?).getD false = true) : f ∈ r.tls :=
  List.mem_filter.mpr ⟨List.mem_range.mpr (List.getElem?_eq_some_iff.mp hf).1, ht⟩
theorem tabOfC_code {cd : Value} {q : Addr × Addr} (h : tabOfC K cd = some q) : cd = .ref q.1 := by
  unfold tabOfC at h
  split at h
  · split at h
    · split at h
      · cases h; rfl
      · cases h
    · cases h
  · cases h
theorem defAt_look (ok : RwOk r) (h : r.lookB K = true) (T : ToldAt (r.pr K w) K mg r.told) (TB : ∀ p ∈ r.cs K, LamX.TabB base mg p.1 p.2) {f : Nat} {df : Def} (hf : (r.pr K w).pg.defs f = some df) : DefAt (r.pr K w) prog w K mg base f df := by
  have hf' : r.ds[f]? = some df := (ok.defs f).symm.trans hf
  obtain ⟨_, _, h3, _⟩ := lookB_ok h
  obtain ⟨a, oc, od, fd, osl, b, q1, q2, q3, q4, q5, q6, q7, q8, q9, q10, q11⟩ := dfB_ok (h3 f df hf')
  have e1 : (r.pr K w).da f = a := da_of q1
  have e2 : (r.pr K w).dfd f = fd := fd_of q1 q2
  have e3 : (r.pr K w).dps f = r.ps f := rfl
  have ef := fd_eq q3 q10
  refine ⟨fd.name, fd.qualname, fd.params, b, fd.scope, .none, fd.kwdefaults, fd.doc, fd.pyModule, fd.code, fd.closureTuple, oc, fd.annotations, od, osl, r.nms f, (r.tl[f]?).getD false, ?_, q4, ?_, ?_, ?_, fun ht => ?_, ?_⟩
  · rw [e1, ← ef]; exact q2
  · rw [e3]; exact scopeB_ok q5
  · rw [e2]; exact ef
  · rw [e3]; exact defOk_by q6
  · obtain ⟨q, t1, t2⟩ := q9 ht
    have m := tls_mem hf' ht
    have efd : r.fd K f = fd := e2
    have ml : fd ∈ r.lams K := List.mem_append_left _ (List.mem_map.mpr ⟨f, m, efd⟩)
    refine ⟨q.1, q.2, TB q (List.mem_filterMap.mpr ⟨fd, ml, t1⟩), tabOfC_code t1, ?_, fun t htt e => t2 t htt e⟩
    show (q.2, lamQ fd) ∈ r.T K
    exact List.mem_filterMap.mpr ⟨fd, ml, by rw [t1]; rfl⟩
  · intro k X W C p1 p2 p3 p4 S0 po
    subst p3; subst p4
    exact snd_Ss (g := r.cg) ⟨w, X.K, _, _, _, _, _, rfl⟩ ok.meth C S0 T po df.body b q11
theorem all_get {α : Type} {l : List α} {p : α → Bool} (h : l.all p = true) {x : α} (hx : x ∈ l) : p x = true := List.all_eq_true.mp h x hx
theorem ix_map {l : List (Str × D)} {i : Nat} {q : Str × D} (h : l[i]? = some q) : ix (l.map (·.1)) i = q.1 := by
  unfold ix; rw [List.getElem?_map, h]; rfl
theorem facts_look (ok : RwOk r) (h : r.lookB K = true) (X : K.In h0) (G : h0.Ns mainGlobals mg) (T : ToldAt (r.pr K w) K mg r.told) (TB : ∀ p ∈ r.cs K, LamX.TabB base mg p.1 p.2) : ∀ k, Facts (r.pr K w) prog w K mg base k := by
  obtain ⟨h1, h2, h3, h4, h5, h6, h7, h8⟩ := lookB_ok h
  simp only [Rw.nmB, Bool.and_eq_true, decide_eq_true_eq] at h8
  obtain ⟨⟨⟨⟨n0, n1⟩, n2⟩, n3⟩, n4⟩ := h8
  have blt : ∀ x ∈ (["len", "abs", "int", "list", "tuple", "sorted", "max", "min", "dict", "range"] : List Str), mg x = none := fun x hx => by
    have := all_get h2 hx
    unfold noNs at this
    split at this
    · exact mg_none_of X G (by assumption)
    · cases this
  refine facts_all (fun k fn => ⟨rfl, rfl, fun g d hg => ?_, fun b => ?_, blt "range" (by simp), fun f hf => ?_, fun f df hf => ?_, fun f df hf => ?_, fn, ixT_inj n1 n2, ixT_ne n2 n3 n4, fun c m f hm => ?_, fun c f hi => ?_, fun c hc => ?_, fun c f hf => ?_⟩) fun f df hf => defAt_look ok h T TB hf
  · have hg' := (ok.glob g).symm.trans hg
    cases hq : r.gs[g]? with
    | none => rw [hq] at hg'; cases hg'
    | some q =>
      rw [hq] at hg'
      cases hg'
      have := all_get h1 (List.mem_of_getElem? hq)
      unfold glB at this
      split at this
      · rename_i v hv
        obtain ⟨u, a1, a2⟩ := dB_ok this
        refine ⟨u, v, ?_, a1, fun H O => a2 _ H O rfl⟩
        show mg (ix (r.gs.map (·.1)) g) = some v
        rw [ix_map hq]
        exact mg_of X G hv
      · cases this
  · cases b <;> exact blt _ (by simp [bfName])
  · have hf' : (match r.pl[f]? with
      | some none => true
      | _ => false) = true := hf
    split at hf'
    · rename_i hpl
      by_cases hl : f < r.ds.length
      · obtain ⟨a, oc, od, fd, osl, b, q1, _⟩ := dfB_ok (h3 f _ (List.getElem?_eq_getElem hl))
        have q1' := q1
        unfold Rw.daO at q1'
        rw [hpl] at q1'
        show mg (ix r.dn f) = some (.ref (r.da K f))
        rw [da_of q1]
        exact mg_of X G (nsA_eq q1')
      · have := (List.getElem?_eq_some_iff.mp hpl).1; omega
    · cases hf'
  · obtain ⟨a, oc, od, fd, osl, b, q1, _, _, _, _, _, _, q8, _⟩ := dfB_ok (h3 f df ((ok.defs f).symm.trans hf))
    show keepIn K (.ref (r.da K f)) = true
    rw [da_of q1]; exact q8
  · obtain ⟨a, oc, od, fd, osl, b, q1, q2, q3, _, _, _, q7, _⟩ := dfB_ok (h3 f df ((ok.defs f).symm.trans hf))
    show L2.Binds K (r.fd K f) (r.ps f) []
    rw [fd_of q1 q2]
    simp only [fdB, Bool.and_eq_true] at q3
    exact binds_of (noneV_eq q3.1.2) q7
  · have := all_get h4 (ok.meth c m f hm)
    simp only [Rw.mtB, Bool.and_eq_true, decide_eq_true_eq] at this
    obtain ⟨⟨⟨⟨a1, a2⟩, a3⟩, a4⟩, a5⟩ := this
    exact ⟨clsB_ok K a1, ⟨a2, a3, a4⟩, _, (ok.defs f).trans (List.getElem?_eq_getElem a5)⟩
  · have := all_get h5 (ok.init c f hi)
    simp only [Rw.inB, Bool.and_eq_true, decide_eq_true_eq] at this
    obtain ⟨⟨⟨⟨⟨a1, a2⟩, a3⟩, a4⟩, a5⟩, a6⟩ := this
    exact ⟨mg_of X G (nsA_eq a1), ⟨a2, a3, a4, a5⟩, _, (ok.defs f).trans (List.getElem?_eq_getElem a6)⟩
  · have := all_get h6 (List.contains_iff_mem.mp hc)
    simp only [Rw.exB, Bool.and_eq_true, decide_eq_true_eq] at this
    obtain ⟨⟨⟨⟨a1, a2⟩, a3⟩, a4⟩, a5⟩ := this
    exact ⟨mg_of X G (nsA_eq a1), a2, a3, a4, a5⟩
  · obtain ⟨m1, m2⟩ := ok.fld c f hf
    have := all_get h7 m1
    simp only [Rw.flB, Bool.and_eq_true] at this
    obtain ⟨a1, a2⟩ := this
    have a3 := all_get a2 (List.getElem_mem m2)
    rw [decide_eq_true_eq] at a3
    refine ⟨clsB_ok K a1, ?_⟩
    show findIn K (.ref (r.ca K c)) (ixT r.fn f) = some none
    rw [show ixT r.fn f = r.fn[f] from by unfold ixT; rw [List.getElem?_eq_getElem m2]]
    exact a3
/-! ### the def that tells -/
/-- a clause of it: the class's name, what is told -/
def hdS : ExceptHandler → Option (Str × Str)
  | .ExceptHandler (some (.Name e _)) none [.Return (some (.Constant (.str ret) _ _)) _] _ => some (e, ret)
  | _ => none
def clOk (sg : Scope) (e : Str) : Bool := (match sg.names.lookup e with
  | some .globalImplicit => true
  | _ => false) && !(e == ("__debug__" : Str))
theorem clOk_ok {sg : Scope} {e : Str} (h : clOk sg e = true) : sg.names.lookup e = some .globalImplicit ∧ (e == ("__debug__" : Str)) = false := by
  unfold clOk at h
  rw [Bool.and_eq_true, Bool.not_eq_true'] at h
  refine ⟨?_, h.2⟩
  have h1 := h.1
  split at h1
  · assumption
  · cases h1
def hdsL (K : Frag) (sg : Scope) : List ExceptHandler → Option (List (Value × Str))
  | [] => some []
  | h :: hs => match hdS h with
    | some (e, ret) => (match nsIn K mainGlobals e with
      | some (some c) => if clOk sg e = true then (hdsL K sg hs).map ((c, ret) :: ·) else none
      | _ => none)
    | none => none
theorem hdsL_ok (X : K.In h0) (G : h0.Ns mainGlobals mg) {sg : Scope} : ∀ {hs : List ExceptHandler} {l : List (Value × Str)}, hdsL K sg hs = some l → Hds sg mg hs l
  | [], l, h => by cases h; exact .nil
  | hd :: hs, l, h => by
    unfold hdsL at h
    split at h
    · rename_i e ret hh
      split at h
      · rename_i c hc
        split at h
        · rename_i hb
          obtain ⟨hl, b2⟩ := clOk_ok hb
          cases hr : hdsL K sg hs with
          | none => rw [hr] at h; cases h
          | some l' =>
            rw [hr] at h
            cases h
            unfold hdS at hh
            split at hh
            · cases hh
              exact .cons hl (mg_of X G hc) b2 (hdsL_ok X G hr)
            · cases hh
        · cases h
      · cases h
    · cases h
/-- what is told of a class -/
def wTB (K : Frag) : List (Value × Str) → Value → Option Str
  | [], _ => none
  | (c, ret) :: r, cls => match exmOne K cls c with
    | some true => some ret
    | some false => wTB K r cls
    | none => none
theorem wTB_ok : ∀ {l : List (Value × Str)} {cls : Value} {s : Str}, wTB K l cls = some s → ∀ k : Str → Prop, k s → wT K l cls k
  | [], _, _, h, _, _ => by cases h
  | (c, ret) :: r, cls, s, h, k, hk => by
    unfold wTB at h
    split at h
    · rename_i he
      cases h
      exact ⟨true, he, fun _ => hk, fun z => nomatch z⟩
    · rename_i he
      exact ⟨false, he, (fun z => nomatch z), fun _ => wTB_ok h k hk⟩
    · cases h
def tryOf : List Stmt → Option (Str × List ExceptHandler)
  | [.Try [.Return (some (.Call (.Name a _) [] [] _)) _] hs [] [] _] => some (a, hs)
  | _ => none
def visL (sg : Scope) (a : Str) : Bool := match sg.names.lookup a with
  | some .local => true
  | _ => false
def Rw.tdB (r : Rw) (K : Frag) : Bool := match nsA K r.told with
  | some g => (match K.lookup g with
    | some ⟨_, _, .func fd, _⟩ => fdB fd && decide (fd.name = r.told) && decide (fd.qualname = r.told) && codeIn K fd.code fd.qualname && keepIn K (.ref g) && (match stmtsOf fd.body with
      | some b => (match tryOf b with
        | some (a, hs) => parsB fd.params [a] && scopeB [a] [a] fd.scope && visL fd.scope a && plainName a && (match hdsL K fd.scope hs with
          | some (c :: l) => r.td.all fun q => decide (wTB K (c :: l) (.ref (r.ca K q.1)) = some (kStr q.2))
          | _ => false)
        | none => false)
      | none => false)
    | _ => false)
  | none => false
theorem toldAt_look (ok : RwOk r) (X : K.In h0) (G : h0.Ns mainGlobals mg) (h : r.tdB K = true) : ToldAt (r.pr K w) K mg r.told := by
  unfold Rw.tdB at h
  split at h
  · rename_i g hg
    split at h
    · rename_i oc od fd osl hk
      simp only [Bool.and_eq_true, decide_eq_true_eq] at h
      obtain ⟨⟨⟨⟨⟨h1, h2⟩, h3⟩, h4⟩, h5⟩, h6⟩ := h
      split at h6
      · rename_i b hb
        split at h6
        · rename_i a hs ha
          simp only [Bool.and_eq_true] at h6
          obtain ⟨⟨⟨⟨h7, h8⟩, h9⟩, h10⟩, h11⟩ := h6
          split at h11
          · rename_i c l hl
            have ef := fd_eq h1 hb
            have hd : fd.defaults = .none := by
              simp only [fdB, Bool.and_eq_true] at h1
              exact noneV_eq h1.1.2
            have hbi := binds_of (K := K) hd h7
            unfold tryOf at ha
            split at ha
            · rename_i a' p1 p2 p3 hs' p8
              cases ha
              have hlok := hdsL_ok X G hl
              cases hs with
              | nil => cases hl
              | cons h0' hds =>
              rw [h2, h3] at ef
              refine ⟨g, a, fd.params, fd.scope, .none, fd.kwdefaults, fd.doc, fd.pyModule, fd.code, fd.closureTuple, oc, fd.annotations, od, osl, [a], h0', hds, c, l, p1, p2, p3, p8, mg_of X G (nsA_eq hg), h5, ?_, ?_, ?_, scopeB_ok h8, rfl, ?_, hlok, h10, fun cc d hcd => ?_⟩
              · rw [← ef]; exact hk
              · rw [h3] at h4; exact h4
              · rw [← ef]; exact hbi
              · unfold visL at h9
                split at h9
                · exact .inl (by assumption)
                · cases h9
              · obtain ⟨s, m1, rfl⟩ := ok.told cc d hcd
                have := all_get h11 m1
                rw [decide_eq_true_eq] at this
                exact ⟨s, rfl, fun k hk => wTB_ok this k hk⟩
            · cases ha
          · cases h11
        · cases h6
      · cases h6
    · cases h
  · cases h
end
end Bh
/-! text Bh7d -/
set_option Elab.async false
set_option linter.all false
set_option maxRecDepth 100000
set_option maxHeartbeats 2000000
/-! Bh7d: the law's two outer defs, and the end. -/
namespace Bh
open PySem PySem.W L2 PyProof.Rows
/-- the law's outer part -/
structure Lw where
  r : Rw
  rounds : Str
  rdN : List Str
  rdB : List S
  lwN : List Str
  lwOw : List Nat
  lwB : List S
  lwI : Nat
  lwTl : Bool
def rdOf : List Stmt → Option (Expr × Expr × Expr × List Stmt)
  | .Assign [tg] (.Subscript a (.Slice none (some b) none _) _) _ :: rest => some (tg, a, b, rest)
  | _ => none
def lwOf : List Stmt → Option (Expr × Str × Expr × List Stmt)
  | [.For tg (.Call (.Name x _) [a, .Constant (.int 1) _ _] [] _) body [] _, .Return (some (.Constant (.bool true) _ _)) _] => some (tg, x, a, body)
  | _ => none
theorem rdOf_eq {b rest : List Stmt} {tg a m : Expr} (h : rdOf b = some (tg, a, m, rest)) : ∃ p1 p2 p3, b = .Assign [tg] (.Subscript a (.Slice none (some m) none p1) p2) p3 :: rest := by
  unfold rdOf at h
  split at h
  · cases h; exact ⟨_, _, _, rfl⟩
  · cases h
theorem lwOf_eq {b body : List Stmt} {tg a : Expr} {x : Str} (h : lwOf b = some (tg, x, a, body)) : ∃ p1 p2 p3 p4 p5 p6 j l, b = [.For tg (.Call (.Name x p1) [a, .Constant (.int 1) j p2] [] p3) body [] p4, .Return (some (.Constant (.bool true) l p5)) p6] := by
  unfold lwOf at h
  split at h
  · cases h; exact ⟨_, _, _, _, _, _, _, _, rfl⟩
  · cases h
section
variable (L : Lw) (K : Frag)
def Lw.rdK : Bool := match nsA K L.rounds with
  | some g => (match K.lookup g with
    | some ⟨_, _, .func fd, _⟩ => fdB fd && codeIn K fd.code fd.qualname && keepIn K (.ref g) && parsB fd.params (L.rdN.take 2) && scopeB L.rdN (L.rdN.take 2) fd.scope && decide (L.rdN.length = 4) && (match stmtsOf fd.body with
      | some b => (match rdOf b with
        | some (tg, a, m, rest) => slotE L.rdN fd.scope 0 a && slotE L.rdN fd.scope 1 m && tgtIs L.rdN fd.scope 2 tg && mSs L.r.cg L.rdN [] [] false false fd.scope L.rdB rest
        | none => false)
      | none => false)
    | _ => false)
  | none => false
def Lw.lwK : Bool := match nsA K "law" with
  | some g => (match K.lookup g with
    | some ⟨_, _, .func fd, _⟩ => fdB fd && codeIn K fd.code fd.qualname && parsB fd.params ["script"] && scopeB L.lwN ["script"] fd.scope && decide (L.lwI ∈ L.lwOw) && decide (0 ∉ L.lwOw) && decide (L.lwI < L.lwN.length) &&
      (!L.lwTl || (match tabOfC K fd.code with
          | some q => decide (q ∈ L.r.cs K) && decide ((q.2, lamQ fd) ∈ L.r.T K) && (L.r.T K).all (fun t => !(t.1 == q.2) || decide (t.2 = lamQ fd))
          | none => false)) &&
      (match stmtsOf fd.body with
      | some b => (match lwOf b with
        | some (tg, x, a, body) => decide (x = L.rounds) && gloB fd.scope x && plainName x && slotE L.lwN fd.scope 0 a && !isStar a && tgtIs L.lwN fd.scope L.lwI tg && mSs L.r.cg L.lwN L.lwOw [] false L.lwTl fd.scope L.lwB body
        | none => false)
      | none => false)
    | _ => false)
  | none => false
/-- what is asked of the evaluator -/
structure Lw.Good (k : Nat) : Prop where
  rd : ∀ ns : List Int, ∃ a b c e, evSs L.r.pg.tb (lev L.r.pg k) L.rdB [none, some (.int 1), some (.lst ((ns.take 1).map .int)), none] = .ret (.lst [.lst [.int a, .int b, .int c]]) e
  lw : ∀ a b c : Int, ∃ e, evSs L.r.pg.tb (lev L.r.pg (k + 1)) L.lwB (Env.put (List.replicate L.lwN.length none) L.lwI (.lst [.int a, .int b, .int c])) = .nx e
end
/-- the promise of the rounds -/
def spR (T : List (Addr × Str)) (K : Frag) : Sp := fun vs H Q _ => ∃ (a : Addr) (ns : List Int), vs = [.ref a, .int 1] ∧ SqL K H a (ns.map V.int) ∧ LamX.Tabs T H ∧
  ∀ (p d : Addr) (x y z : Int) (H' : Hp), H' p = some (.lst [.ref d]) → H' d = some (.lst [.int x, .int y, .int z]) → LamX.Tabs T H' → Q (.ref p) H'
def spL (T : List (Addr × Str)) (K : Frag) : Sp := fun vs H Q _ => ∃ (a : Addr) (ns : List Int), vs = [.ref a] ∧ SqL K H a (ns.map V.int) ∧ LamX.Tabs T H ∧ ∀ H', Q (.bl true) H'
theorem FRs_ints {G : Gx} {H : Hp} {O : Addr → Prop} : ∀ ns : List Int, FRs G H O (ns.map V.int) (ns.map D.int)
  | [] => .nil
  | n :: ns => .cons (.int n) (FRs_ints ns)
theorem cut1 (ns : List Int) : cutV (ns.map V.int) none (some 1) = (ns.take 1).map V.int := by
  cases ns with
  | nil => rfl
  | cons n ns => simp [cutV, HT.sIx]
section
variable {L : Lw} {K : Frag} {w : World} {mg : Str → Option Value} {base h0 : Heap} {prog : Program}
theorem rounds_ok (ok : RwOk L.r) (X0 : K.In h0) (G : h0.Ns mainGlobals mg) (T : ToldAt (L.r.pr K w) K mg L.r.told) (h : L.rdK K = true) {k : Nat} (F : Facts (L.r.pr K w) prog w K mg base k) (gd : L.Good k) :
    ∃ (g : Addr) (fd : FuncData), mg L.rounds = some (.ref g) ∧ keepIn K (.ref g) = true ∧ L2.Binds K fd (L.rdN.take 2) [] ∧ FnOk prog w K mg base (L2.CX prog w) (k + 1) g fd (L.rdN.take 2) (spR (L.r.T K) K) := by
  unfold Lw.rdK at h
  split at h
  · rename_i g hg
    split at h
    · rename_i oc od fd osl hk
      simp only [Bool.and_eq_true, decide_eq_true_eq] at h
      obtain ⟨⟨⟨⟨⟨⟨h1, h2⟩, h3⟩, h4⟩, h5⟩, h5'⟩, h6⟩ := h
      split at h6
      · rename_i b hb
        split at h6
        · rename_i tg a m rest hr
          simp only [Bool.and_eq_true] at h6
          obtain ⟨⟨⟨h7, h8⟩, h9⟩, h10⟩ := h6
          have ef := fd_eq h1 hb
          have hd : fd.defaults = .none := by
            simp only [fdB, Bool.and_eq_true] at h1
            exact noneV_eq h1.1.2
          have sc := scopeB_ok h5
          obtain ⟨p1, p2, p3, rfl⟩ := rdOf_eq hr
          refine ⟨g, fd, mg_of X0 G (nsA_eq hg), h3, binds_of hd h4, ?_⟩
          have l2 : (L.rdN.take 2).length = 2 := by rw [List.length_take, h5']; rfl
          rw [ef]
          rw [ef] at hk
          refine fn_of hk h2 sc (fun vs H Q E ⟨a, ns, e, _⟩ => by rw [e, l2]; rfl) fun A outer s H vs Q E hrm ⟨sa, ns, e, hS, hT, q⟩ => ?_
          subst e
          have tk := takes_of (X := cxOf (L2.CX prog w) prog w K mg base L.rdN fd.qualname fd.scope g fd.code A outer s H E) rfl rfl rfl rfl
          have C : Cok (L.r.pr K w) L.rdN false fd.scope k (cxOf (L2.CX prog w) prog w K mg base L.rdN fd.qualname fd.scope g fd.code A outer s H E) (fun cls d _ H' => E cls d H') := ⟨rfl, sc.nd, rfl, rfl, hrm, tk, fun z => (nomatch z), F⟩
          have S0 : Sets L.rdN fd.scope (cxOf (L2.CX prog w) prog w K mg base L.rdN fd.qualname fd.scope g fd.code A outer s H E) := ⟨rfl, sc.nd, rfl, fun x hx => ⟨hx, .inl rfl⟩⟩
          unfold tgtIs at h9
          split at h9
          · simp only [Bool.and_eq_true, decide_eq_true_eq] at h9
            have hl := locB_loc h9.2
            refine ⟨_, pss_cons (ps_set (i := 2) C.nd h9.1 (S0.st _ hl).1 (pe_slice sl_list (slot_pe C h7) po_none (po_some (slot_pe C h8))) rfl (S0.st _ hl).2) (snd_Ss (g := L.r.cg) ⟨w, K, _, _, _, _, _, rfl⟩ ok.meth C S0 T (passes_of rfl) L.rdB rest h10), ?_⟩
            refine ⟨_, rfl, _, rfl, 1, rfl, sa, ns.map V.int, rfl, hS, fun p np => ?_⟩
            rw [cut1]
            obtain ⟨x, y, z, e', hev⟩ := gd.rd ns
            refine ⟨⟨(L.r.pr K w).G, [], [], (L.r.pr K w).T, fun _ => False, fun _ => False, fun _ => none, []⟩, [none, some (.int 1), some (.lst ((ns.take 1).map .int)), none], ⟨⟨rfl, rfl, rfl, fun _ z => z⟩, rfl, fun q hq => (nomatch hq)⟩, ?_, ?_⟩
            · have eσ : (L2.start L.rdN [V.ref sa, V.int 1]).set 2 (some (V.ref p)) = [some (V.ref sa), some (V.int 1), some (V.ref p), none] := by
                unfold L2.start
                rw [h5']
                rfl
              show FI _ ((L2.start L.rdN [V.ref sa, V.int 1]).set 2 (some (V.ref p))) _ _
              rw [eσ]
              refine ⟨rfl, fun i d hd _ => ?_, fun i d _ hi => (nomatch hi), fun i j q hi => (nomatch hi), fun a o e => (nomatch e), fun a z => z.elim, fun q hq => (nomatch hq), fun a z => z.elim, fun _ z => z, fun a ⟨o, e, _⟩ => (nomatch e), LamX.Tabs.ext hT fun b o e => by rw [upd_ne (ne_of_none e np)]; exact e, fun q hq => (nomatch hq)⟩
              match i, hd with
              | 0, hd => cases hd
              | 1, hd => cases hd; exact ⟨_, rfl, .int 1⟩
              | 2, hd =>
                cases hd
                refine ⟨_, rfl, .lst upd_same ?_ (FRs_ints _)⟩
                rintro (z | ⟨i, hi, _⟩)
                · exact z
                · exact nomatch hi
              | 3, hd => cases hd
              | n + 4, hd => simp [Env.get] at hd
            · show OW _ _ _ _ (evSs L.r.pg.tb (lev L.r.pg k) L.rdB _)
              rw [hev]
              intro v σ' H' I R
              have R1 := R.1
              cases R1 with
              | lst e1 n1 r1 =>
                obtain ⟨v1, rfl, r2⟩ := r1.of_one
                cases r2 with
                | lst e2 n2 r3 =>
                  cases r3 with
                  | cons u1 r4 => cases r4 with
                    | cons u2 r5 => cases r5 with
                      | cons u3 r6 =>
                        cases r6
                        cases u1; cases u2; cases u3
                        exact q _ _ _ _ _ _ e1 e2 I.tabs
          · cases h9
        · cases h6
      · cases h6
    · cases h
  · cases h
theorem law_ok (ok : RwOk L.r) (X0 : K.In h0) (G : h0.Ns mainGlobals mg) (T : ToldAt (L.r.pr K w) K mg L.r.told) (TB : ∀ p ∈ L.r.cs K, LamX.TabB base mg p.1 p.2) (hr : L.rdK K = true) (h : L.lwK K = true) {k : Nat} (FA : ∀ k, Facts (L.r.pr K w) prog w K mg base k) (gd : L.Good k) :
    ∃ (g : Addr) (fd : FuncData), mg "law" = some (.ref g) ∧ (∀ (s : Shared) (u : Value), BindsTo s fd ⟨[u], []⟩ [(("script" : Str), u)]) ∧ fd = (fnAt K g).getD default ∧ FnOk prog w K mg base (L2.CX prog w) (k + 2) g fd ["script"] (spL (L.r.T K) K) := by
  obtain ⟨gr, fdr, r1, r2, r3, r4⟩ := rounds_ok ok X0 G T hr (FA k) gd
  unfold Lw.lwK at h
  split at h
  · rename_i g hg
    split at h
    · rename_i oc od fd osl hk
      simp only [Bool.and_eq_true, decide_eq_true_eq] at h
      obtain ⟨⟨⟨⟨⟨⟨⟨⟨h1, h2⟩, h4⟩, h5⟩, h5a⟩, h5b⟩, h5c⟩, h5d⟩, h6⟩ := h
      split at h6
      · rename_i b hb
        split at h6
        · rename_i tg x a body hl
          simp only [Bool.and_eq_true, decide_eq_true_eq] at h6
          obtain ⟨⟨⟨⟨⟨⟨h7, h8⟩, h8a⟩, h8b⟩, h8c⟩, h9⟩, h10⟩ := h6
          have ef := fd_eq h1 hb
          have hd : fd.defaults = .none := by
            simp only [fdB, Bool.and_eq_true] at h1
            exact noneV_eq h1.1.2
          have sc := scopeB_ok h5
          obtain ⟨p1, p2, p3, p4, p5, p6, jj, ll, rfl⟩ := lwOf_eq hl
          refine ⟨g, fd, mg_of X0 G (nsA_eq hg), fun s u => ?_, by unfold fnAt; rw [hk]; rfl, ?_⟩
          · obtain ⟨as, a1, a2, a3⟩ := parsB_ok h4
            have := bindArgs_plain (us := [u]) a1 hd (by rw [a2]; exact a3) (by
              have := congrArg List.length a2
              simpa using this.symm)
            rw [a2] at this
            exact .of_eq this
          rw [ef]
          rw [ef] at hk
          refine fn_of hk h2 sc (fun vs H Q E ⟨a, ns, e, _⟩ => by rw [e]; rfl) fun A outer s H vs Q E hrm ⟨sa, ns, e, hS, hT, q⟩ => ?_
          subst e
          have tk := takes_of (X := cxOf (L2.CX prog w) prog w K mg base L.lwN fd.qualname fd.scope g fd.code A outer s H E) rfl rfl rfl rfl
          have C : Cok (L.r.pr K w) L.lwN L.lwTl fd.scope (k + 1) (cxOf (L2.CX prog w) prog w K mg base L.lwN fd.qualname fd.scope g fd.code A outer s H E) (fun cls d _ H' => E cls d H') := ⟨rfl, sc.nd, rfl, rfl, hrm, tk, (fun z => by
            rw [z] at h5d
            simp only [Bool.not_true, Bool.false_or] at h5d
            split at h5d
            · rename_i qq hq
              simp only [Bool.and_eq_true, decide_eq_true_eq] at h5d
              obtain ⟨⟨t1, t2⟩, t3⟩ := h5d
              refine ⟨qq.1, qq.2, _, congrArg (fun z : Str => z ++ "<lambda>") (show (cxOf (L2.CX prog w) prog w K mg base L.lwN fd.qualname fd.scope g fd.code A outer s H E).env.qual = fd.qualname ++ ".<locals>." from rfl), TB qq t1, tabOfC_code hq, t2, fun t ht e => ?_⟩
              have := List.all_eq_true.mp t3 t ht
              simp only [Bool.or_eq_true, Bool.not_eq_true', beq_eq_false_iff_ne, decide_eq_true_eq] at this
              exact this.resolve_left fun z => z e
            · cases h5d), FA (k + 1)⟩
          have S0 : Sets L.lwN fd.scope (cxOf (L2.CX prog w) prog w K mg base L.lwN fd.qualname fd.scope g fd.code A outer s H E) := ⟨rfl, sc.nd, rfl, fun x hx => ⟨hx, .inl rfl⟩⟩
          subst h7
          simp only [plainName, Bool.and_eq_true, Bool.not_eq_true'] at h8a
          have hcall : PE (cxOf (L2.CX prog w) prog w K mg base L.lwN fd.qualname fd.scope g fd.code A outer s H E) (.Call (.Name L.rounds p1) [a, .Constant (.int 1) jj p2] [] p3) _ :=
            pe_callS (k := k + 1) (sp := spR (L.r.T K) K) r4 C.room (C.gl h8) r1 r2 r3 (fun σ => passAt C.tk σ) (pa_cons (slot_pe C h8b) (pa_cons pe_int pa_nil rfl) (starEach_cons (by simpa using h8c) _ _)) h8a.1.1 (starEach_cons (by simpa using h8c) _ _) rfl
          have hfor := ps_for (pos := p4) (passes_of (X := cxOf (L2.CX prog w) prog w K mg base L.lwN fd.qualname fd.scope g fd.code A outer s H E) rfl) rfl (pi_list hcall) (pg_one S0 h9) (snd_Ss (g := L.r.cg) ⟨w, K, _, _, _, _, _, rfl⟩ ok.meth C S0 T (passes_of rfl) L.lwB body h10)
          refine ⟨_, pss_cons hfor (pss_one (ps_ret pe_bl)), ?_⟩
          refine ⟨_, rfl, sa, ns, rfl, hS, hT, fun p d x y z H' hp hd' hT' => ⟨p, rfl, ⟨_, Or.inl (Or.inl hp)⟩, ?_⟩⟩
          have npd : p ≠ d := fun z => by
            rw [z, hd'] at hp
            cases hp
          refine for_list (xs := [V.ref d]) (fun i σ H => H p = some (.lst [.ref d]) ∧ (i = 0 → H d = some (.lst [.int x, .int y, .int z]) ∧ LamX.Tabs (L.r.T K) H ∧ σ.length = L.lwN.length)) ⟨hp, fun _ => ⟨hd', hT', start_len (by have := congrArg List.length sc.pre; simp at this ⊢; omega)⟩⟩ (fun i σ H _ P => .inl (.inl P.1)) (fun i v σ H hi P => ?_) fun σ H P => q H
          match i, hi with
          | 0, hi =>
            cases hi
            obtain ⟨Pp, P2⟩ := P
            obtain ⟨Pd, Pt, Pl⟩ := P2 rfl
            obtain ⟨e', hev⟩ := gd.lw x y z
            have gI : ∀ (i : Nat) (dd : D), (Env.put (List.replicate L.lwN.length none) L.lwI (.lst [.int x, .int y, .int z])).get i = some dd → i = L.lwI ∧ dd = .lst [.int x, .int y, .int z] := fun i dd hg => by
              unfold Env.put Env.get at hg
              rw [List.getElem?_set] at hg
              split at hg
              · rename_i e
                split at hg
                · exact ⟨e.symm, (Option.some.inj hg).symm⟩
                · cases hg
              · rw [List.getElem?_replicate] at hg
                split at hg <;> cases hg
            show tS _ _ _ _ _ _ _ (σ.set L.lwI (some (.ref d))) H
            have hli : L.lwI < σ.length := by omega
            refine ⟨⟨(L.r.pr K w).G, L.lwOw, [], (L.r.pr K w).T, fun _ => False, fun _ => False, fun a => if a = d then none else H a, []⟩, Env.put (List.replicate L.lwN.length none) L.lwI (.lst [.int x, .int y, .int z]), ⟨⟨rfl, rfl, rfl, fun _ z => z⟩, rfl, fun q hq => (nomatch hq)⟩, ?_, ?_⟩
            · refine ⟨?_, fun i dd hg hn => ?_, fun i dd hg hn => ?_, fun i j b hi hj ⟨d1, g1⟩ ⟨d2, g2⟩ s1 s2 => ?_, fun a o e _ _ => ?_, fun a z => z.elim, fun q hq => (nomatch hq), fun a z => z.elim, fun _ z => z, fun a ⟨o, e, nt⟩ => ?_, Pt, fun q hq => (nomatch hq)⟩
              · rw [List.length_set, Pl]
                unfold Env.put
                rw [List.length_set, List.length_replicate]
              · obtain ⟨rfl, _⟩ := gI i dd hg
                exact (hn h5a).elim
              · obtain ⟨rfl, rfl⟩ := gI i dd hg
                refine ⟨d, by rw [List.getElem?_set]; simp [hli], .lst Pd (.cons (.int x) (.cons (.int y) (.cons (.int z) .nil))), .inr fun ⟨o, e, _⟩ => ?_⟩
                have z0 : (none : Option HO) = some o := (if_pos rfl).symm.trans e
                cases z0
              · rw [(gI i d1 g1).1, (gI j d2 g2).1]
              · by_cases hb : a = d
                · have z0 : (none : Option HO) = some o := (if_pos hb).symm.trans e
                  cases z0
                · exact (if_neg hb).symm.trans e
              · by_cases hb : a = d
                · have z0 : (none : Option HO) = some o := (if_pos hb).symm.trans e
                  cases z0
                · exact ⟨o, (if_neg hb).symm.trans e, nt⟩
            · show OW _ _ _ _ (evSs L.r.pg.tb (lev L.r.pg (k + 1)) L.lwB _)
              rw [hev]
              intro σ' H' I
              exact ⟨I.kp p _ ((if_neg npd).trans Pp) (fun j hj => (nomatch hj)) fun _ z => (nomatch z), fun z => (nomatch z)⟩
        · cases h6
      · cases h6
    · cases h
  · cases h
end
end Bh
/-! text Bh7e -/
set_option Elab.async false
set_option linter.all false
set_option maxRecDepth 100000
set_option maxHeartbeats 2000000
/-! Bh7e: the end. -/
namespace Bh
open PySem PySem.W L2 PyProof.Rows
/-- the whole look -/
def Lw.allB (L : Lw) (ts : List Addr) (K : Frag) : Bool := L.r.lookB K && L.r.tdB K && L.rdK K && L.lwK K && (L.r.cs K).all fun q => ts.contains q.2 && (K.lookup q.2).isNone && codeHdIn K q.1 q.2
section
variable {L : Lw} {K : Frag} {w : World} {mg : Str → Option Value} {base h0 : Heap} {prog : Program}
theorem law_binds (h : L.lwK K = true) : ∃ g, nsA K "law" = some g ∧ ∀ (s : Shared) (u : Value), BindsTo s ((fnAt K g).getD default) ⟨[u], []⟩ [(("script" : Str), u)] := by
  unfold Lw.lwK at h
  split at h
  · rename_i g hg
    refine ⟨g, hg, ?_⟩
    split at h
    · rename_i oc od fd osl hk
      have e : (fnAt K g).getD default = fd := by unfold fnAt; rw [hk]; rfl
      rw [e]
      simp only [Bool.and_eq_true, decide_eq_true_eq] at h
      obtain ⟨⟨⟨⟨⟨⟨⟨⟨h1, h2⟩, h4⟩, h5⟩, h5a⟩, h5b⟩, h5c⟩, h5d⟩, h6⟩ := h
      have hd : fd.defaults = .none := by
        simp only [fdB, Bool.and_eq_true] at h1
        exact noneV_eq h1.1.2
      intro s u
      obtain ⟨as, a1, a2, a3⟩ := parsB_ok h4
      have := bindArgs_plain (us := [u]) a1 hd (by rw [a2]; exact a3) (by
        have := congrArg List.length a2
        simpa using this.symm)
      rw [a2] at this
      exact .of_eq this
    · cases h
  · cases h
theorem law_at {l : OpenLaw} {ts : List Addr} {n k : Nat} {fa : Addr} (ok : RwOk L.r) (gd : L.Good k) (X0 : K.In h0) (G : h0.Ns mainGlobals mg) (Y : ∀ P ∈ ts, h0.get? P = some (tabObj #[])) (B : L.allB ts K = true) (hfa : mg "law" = some (.ref fa)) :
    LamX.LawAtS l w K (L2.CX l.prog w) (k + 2) n "script" mg fa h0 := by
  simp only [Lw.allB, Bool.and_eq_true] at B
  obtain ⟨⟨⟨⟨b1, b2⟩, b3⟩, b4⟩, b5⟩ := B
  rw [List.all_eq_true] at b5
  obtain ⟨g, hg, hb⟩ := law_binds b4
  have T := toldAt_look (w := w) ok X0 G b2
  have ega : g = fa := by
    have := (mg_of X0 G (nsA_eq hg)).symm.trans hfa
    cases this; rfl
  subst ega
  refine ⟨(fnAt K g).getD default, L.r.cs K, spL (L.r.T K) K, fun q hq => ?_, fun q hq => ?_, fun q hq => ?_, hb, fun H a ns _ _ hH hS => ⟨a, ns, rfl, hS, fun t ht => ?_, fun _ => rfl⟩, fun base KX Gb TB => ?_⟩
  · have := b5 q hq
    simp only [Bool.and_eq_true] at this
    exact Y q.2 (List.contains_iff_mem.mp this.1.1)
  · have := b5 q hq
    simp only [Bool.and_eq_true] at this
    exact Option.isNone_iff_eq_none.mp this.1.2
  · have := b5 q hq
    simp only [Bool.and_eq_true] at this
    exact codeHd_of_K X0 this.2
  · unfold Rw.T at ht
    obtain ⟨fd, h1, h2⟩ := List.mem_filterMap.mp ht
    cases hq : tabOfC K fd.code with
    | none => rw [hq] at h2; cases h2
    | some q =>
      rw [hq] at h2
      cases h2
      exact LamX.TabS.nil (hH q (List.mem_filterMap.mpr ⟨fd, h1, hq⟩))
  · obtain ⟨g', fd', e1, _, e3, e4⟩ := law_ok (prog := l.prog) ok X0 G T TB b3 b4 (facts_look ok b1 X0 G T TB) gd
    have : g' = g := by
      have := e1.symm.trans hfa
      cases this; rfl
    subst this
    rw [← e3]
    exact e4
theorem cx_no {P : Program} (w : World) (H : Hp) (s : Shared) (e : Value) (s' : Shared) (h : L2.CX P w [] H s (fun _ _ _ => False) e s') : False := by
  obtain ⟨_, _, _, _, _, _, _, _, _, _, _, _, z⟩ := h
  exact z
end
end Bh
/-! text Bt -/
set_option linter.all false
/-! Bt: tables as lists. Plain Lean. -/
namespace Bh
structure Tab where
  ds : List Def
  gs : List D
  ms : List (Nat × Nat × Nat)
  is : List (Nat × Nat)
  td : List (Nat × List Nat)
  cls : List Nat
  nf : Nat
def Tab.pg (t : Tab) : Pg := ⟨⟨fun i => t.gs[i]?, fun c m => (t.ms.find? fun q => q.1 == c && q.2.1 == m).map (·.2.2), fun c => t.is.lookup c, fun c => (t.td.lookup c).map .str, fun f => match t.ds[f]? with
  | some d => d.fr
  | none => false, fun c f => t.cls.contains c && decide (f < t.nf)⟩, fun i => t.ds[i]?⟩
end Bh
/-! text Bh7f -/
set_option Elab.async false
set_option linter.all false
set_option maxRecDepth 100000
set_option maxHeartbeats 2000000
/-! Bh7f: a program from its tables and names. -/
namespace Bh
open PySem PySem.W L2 PyProof.Rows
structure Nms where
  gn : List Str
  dn : List Str
  pl : List (Option Nat)
  nm : List (List Str)
  tl : List Bool
  cn : List Str
  exs : List Nat
  mn : List Str
  fn : List Str
  told : Str
  ex : List Str
def rwOf (t : Tab) (n : Nms) : Rw := ⟨t.pg, t.ds, n.gn.zip t.gs, n.dn, n.pl, n.nm, n.tl, n.cn, t.cls, n.exs, n.mn, t.ms, t.is, n.fn, t.td, n.told, n.ex⟩
theorem zip_snd {α β : Type} : ∀ {l : List α} {m : List β}, l.length = m.length → ∀ i : Nat, Option.map (fun q : α × β => q.2) ((l.zip m)[i]?) = m[i]?
  | [], [], _, i => by simp
  | a :: l, b :: m, h, 0 => rfl
  | a :: l, b :: m, h, i + 1 => by
    simp only [List.zip_cons_cons, List.getElem?_cons_succ]
    exact zip_snd (by simpa using h) i
theorem look_mem {α : Type} {c : Nat} {v : α} : ∀ {l : List (Nat × α)}, l.lookup c = some v → (c, v) ∈ l
  | [], h => by cases h
  | (a, b) :: l, h => by
    rw [List.lookup_cons] at h
    by_cases e : (c == a) = true
    · rw [e] at h
      cases h
      rw [beq_iff_eq.mp e]
      exact List.mem_cons_self
    · rw [Bool.not_eq_true] at e
      rw [e] at h
      exact List.mem_cons_of_mem _ (look_mem h)
theorem rwOf_ok {t : Tab} {n : Nms} (h1 : n.gn.length = t.gs.length) (h2 : n.fn.length = t.nf) : RwOk (rwOf t n) where
  defs := fun f => rfl
  glob := fun i => (zip_snd h1 i).symm
  meth := fun c m f h => by
    have h' : (t.ms.find? fun q => q.1 == c && q.2.1 == m).map (·.2.2) = some f := h
    obtain ⟨q, a1, a2⟩ := Option.map_eq_some_iff.mp h'
    have a3 := List.find?_some a1
    have a4 := List.mem_of_find?_eq_some a1
    simp only [Bool.and_eq_true, beq_iff_eq] at a3
    rw [← a3.1, ← a3.2, ← a2]
    exact a4
  init := fun c f h => look_mem h
  fld := fun c f h => by
    have h' : (t.cls.contains c && decide (f < t.nf)) = true := h
    rw [Bool.and_eq_true, decide_eq_true_eq] at h'
    exact ⟨List.contains_iff_mem.mp h'.1, h2 ▸ h'.2⟩
  told := fun c d h => by
    have h' : (t.td.lookup c).map D.str = some d := h
    obtain ⟨s, a1, a2⟩ := Option.map_eq_some_iff.mp h'
    exact ⟨s, look_mem a1, a2.symm⟩
end Bh
/-! text Bk1 -/
set_option linter.all false
set_option maxRecDepth 100000
namespace Bh.K16
/-- is_on -/
def b0 : List S := [.ret (.and (.chain .le .lt (.cons (.con (.int 0)) (.cons (.idx (.cons (.var 0) (.cons (.con (.int 0)) .nil))) .nil)) (.var 1)) (.chain .le .lt (.cons (.con (.int 0)) (.cons (.idx (.cons (.var 0) (.cons (.con (.int 1)) .nil))) .nil)) (.var 2)))]
def n0 : List String := ["spot", "high", "wide"]
def d0 : Def := ⟨3, 3, [], [], false, b0⟩
/-- beside -/
def b1 : List S := [.set 4 (.lc (.many [5, 6]) (.seq (.var 1)) none (.tup (.cons (.op .add (.cons (.idx (.cons (.var 0) (.cons (.con (.int 0)) .nil))) (.cons (.var 5) .nil))) (.cons (.op .add (.cons (.idx (.cons (.var 0) (.cons (.con (.int 1)) .nil))) (.cons (.var 6) .nil))) .nil)))), .ret (.bf .tuple (.cons (.lc (.one 7) (.seq (.var 4)) (some (.call 0 (.cons (.var 7) (.cons (.var 2) (.cons (.var 3) .nil))))) (.var 7)) .nil))]
def n1 : List String := ["spot", "ways", "high", "wide", "found", "down", "over", "one"]
def d1 : Def := ⟨4, 8, [], [], false, b1⟩
/-- ray -/
def b2 : List S := [.ite (.cmp .eq (.cons (.var 1) (.cons (.tup (.cons (.con (.int 0)) (.cons (.con (.int 0)) .nil))) .nil))) [.raise 1] [], .par2 4 true (.lst (.nil)) 5 false (.tup (.cons (.op .add (.cons (.idx (.cons (.var 0) (.cons (.con (.int 0)) .nil))) (.cons (.idx (.cons (.var 1) (.cons (.con (.int 0)) .nil))) .nil))) (.cons (.op .add (.cons (.idx (.cons (.var 0) (.cons (.con (.int 1)) .nil))) (.cons (.idx (.cons (.var 1) (.cons (.con (.int 1)) .nil))) .nil))) .nil))), .whil 40 (.call 0 (.cons (.var 5) (.cons (.var 2) (.cons (.var 3) .nil)))) [.expr (.mm .append 4 (.cons (.var 5) .nil)), .set 5 (.tup (.cons (.op .add (.cons (.idx (.cons (.var 5) (.cons (.con (.int 0)) .nil))) (.cons (.idx (.cons (.var 1) (.cons (.con (.int 0)) .nil))) .nil))) (.cons (.op .add (.cons (.idx (.cons (.var 5) (.cons (.con (.int 1)) .nil))) (.cons (.idx (.cons (.var 1) (.cons (.con (.int 1)) .nil))) .nil))) .nil)))], .ret (.bf .tuple (.cons (.own 4) .nil))]
def n2 : List String := ["spot", "way", "high", "wide", "found", "here"]
def d2 : Def := ⟨4, 6, [4], [], false, b2⟩
/-- distance -/
def b3 : List S := [.par2 2 false (.bf .abs (.cons (.op .sub (.cons (.idx (.cons (.var 0) (.cons (.con (.int 0)) .nil))) (.cons (.idx (.cons (.var 1) (.cons (.con (.int 0)) .nil))) .nil))) .nil)) 3 false (.bf .abs (.cons (.op .sub (.cons (.idx (.cons (.var 0) (.cons (.con (.int 1)) .nil))) (.cons (.idx (.cons (.var 1) (.cons (.con (.int 1)) .nil))) .nil))) .nil)), .ret (.tup (.cons (.op .add (.cons (.var 2) (.cons (.var 3) .nil))) (.cons (.bf .max (.cons (.var 2) (.cons (.var 3) .nil))) .nil)))]
def n3 : List String := ["one", "other", "down", "over"]
def d3 : Def := ⟨2, 4, [], [], false, b3⟩
/-- goes -/
def b4 : List S := [.ite (.cmp .notin (.cons (.var 0) (.cons (.glob 3) .nil))) [.raise 4] [], .ite (.no (.call 0 (.cons (.var 1) (.cons (.var 3) (.cons (.var 4) .nil))))) [.raise 1] [], .ite (.cmp .eq (.cons (.var 0) (.cons (.con (.str [107, 105, 110, 103])) .nil))) [.ret (.bf .tuple (.cons (.bf .sorted (.cons (.call 1 (.cons (.var 1) (.cons (.op .add (.cons (.glob 0) (.cons (.glob 1) .nil))) (.cons (.var 3) (.cons (.var 4) .nil))))) .nil)) .nil))] [], .ite (.cmp .eq (.cons (.var 0) (.cons (.con (.str [108, 101, 97, 112, 101, 114])) .nil))) [.ret (.bf .tuple (.cons (.bf .sorted (.cons (.call 1 (.cons (.var 1) (.cons (.glob 2) (.cons (.var 3) (.cons (.var 4) .nil))))) .nil)) .nil))] [], .set 5 (.pick [[116, 111, 119, 101, 114], [115, 108, 97, 110, 116, 101, 114], [108, 97, 100, 121]] (.cons (.glob 0) (.cons (.glob 1) (.cons (.op .add (.cons (.glob 0) (.cons (.glob 1) .nil))) .nil))) (.var 0)), .thaw 6 (.lst (.nil)), .fors (.one 7) (.seq (.var 5)) [.fors (.one 8) (.seq (.call 2 (.cons (.var 1) (.cons (.var 7) (.cons (.var 3) (.cons (.var 4) .nil)))))) [.expr (.mm .append 6 (.cons (.var 8) .nil)), .ite (.cmp .isin (.cons (.var 8) (.cons (.var 2) .nil))) [.brk] []]], .ret (.bf .tuple (.cons (.bf .sorted (.cons (.own 6) .nil)) .nil))]
def n4 : List String := ["kind", "spot", "blocked", "high", "wide", "ways", "found", "way", "here"]
def d4 : Def := ⟨5, 9, [6], [], false, b4⟩
/-- Hunt.__init__ -/
def b5 : List S := [.ite (.or (.no (.chain .le .le (.cons (.con (.int 3)) (.cons (.var 1) .nil)) (.con (.int 4)))) (.no (.chain .le .le (.cons (.con (.int 3)) (.cons (.var 2) .nil)) (.con (.int 4))))) [.raise 4] [], .setFld 0 0 (.var 1), .setFld 0 1 (.var 2)]
def n5 : List String := ["self", "high", "wide"]
def d5 : Def := ⟨3, 3, [0], [0], false, b5⟩
/-- Hunt.attacked -/
def b6 : List S := [.ite (.cmp .eq (.cons (.idx (.cons (.call 3 (.cons (.var 1) (.cons (.var 3) .nil))) (.cons (.con (.int 1)) .nil))) (.cons (.con (.int 1)) .nil))) [.ret (.con (.bl true))] [], .ret (.cmp .isin (.cons (.var 3) (.cons (.call 4 (.cons (.con (.str [116, 111, 119, 101, 114])) (.cons (.var 2) (.cons (.tup (.cons (.var 1) .nil)) (.cons (.fld (.cons (.var 0) .nil) 0) (.cons (.fld (.cons (.var 0) .nil) 1) .nil)))))) .nil)))]
def n6 : List String := ["self", "king", "tower", "spot"]
def d6 : Def := ⟨4, 4, [], [], false, b6⟩
/-- Hunt.is_let -/
def b7 : List S := [.bind [2, 3, 4, 5] (.var 1), .ite (.or (.cmp .lt (.cons (.bf .len (.cons (.bf .dict (.cons (.lc (.one 6) (.seq (.tup (.cons (.var 3) (.cons (.var 4) (.cons (.var 5) .nil))))) none (.tup (.cons (.var 6) (.cons (.con (.int 1)) .nil)))) .nil)) .nil)) (.cons (.con (.int 3)) .nil))) (.cmp .lt (.cons (.idx (.cons (.call 3 (.cons (.var 3) (.cons (.var 5) .nil))) (.cons (.con (.int 1)) .nil))) (.cons (.con (.int 2)) .nil)))) [.ret (.con (.bl false))] [], .ret (.or (.cmp .eq (.cons (.var 2) (.cons (.con (.str [98])) .nil))) (.no (.meth 0 (.var 0) (.cons (.var 3) (.cons (.var 4) (.cons (.var 5) .nil))))))]
def n7 : List String := ["self", "place", "turn", "king", "tower", "black", "spot"]
def d7 : Def := ⟨2, 7, [], [], false, b7⟩
/-- Hunt.moves -/
def b8 : List S := [.ite (.no (.meth 1 (.var 0) (.cons (.var 1) .nil))) [.raise 2] [], .bind [4, 5, 6, 7] (.var 1), .thaw 2 (.lst (.nil)), .ite (.cmp .eq (.cons (.var 4) (.cons (.con (.str [119])) .nil))) [.fors (.one 3) (.seq (.call 4 (.cons (.con (.str [107, 105, 110, 103])) (.cons (.var 5) (.cons (.tup (.nil)) (.cons (.fld (.cons (.var 0) .nil) 0) (.cons (.fld (.cons (.var 0) .nil) 1) .nil))))))) [.set 8 (.tup (.cons (.con (.str [98])) (.cons (.var 3) (.cons (.var 6) (.cons (.var 7) .nil))))), .ite (.and (.cmp .ne (.cons (.var 3) (.cons (.var 6) .nil))) (.meth 1 (.var 0) (.cons (.var 8) .nil))) [.expr (.mm .append 2 (.cons (.var 8) .nil))] []], .fors (.one 3) (.seq (.call 4 (.cons (.con (.str [116, 111, 119, 101, 114])) (.cons (.var 6) (.cons (.tup (.cons (.var 5) (.cons (.var 7) .nil))) (.cons (.fld (.cons (.var 0) .nil) 0) (.cons (.fld (.cons (.var 0) .nil) 1) .nil))))))) [.ite (.cmp .notin (.cons (.var 3) (.cons (.tup (.cons (.var 5) (.cons (.var 7) .nil))) .nil))) [.expr (.mm .append 2 (.cons (.tup (.cons (.con (.str [98])) (.cons (.var 5) (.cons (.var 3) (.cons (.var 7) .nil))))) .nil))] []], .ret (.bf .tuple (.cons (.own 2) .nil))] [], .fors (.one 3) (.seq (.call 4 (.cons (.con (.str [107, 105, 110, 103])) (.cons (.var 7) (.cons (.tup (.nil)) (.cons (.fld (.cons (.var 0) .nil) 0) (.cons (.fld (.cons (.var 0) .nil) 1) .nil))))))) [.ite (.cmp .eq (.cons (.var 3) (.cons (.var 6) .nil))) [.ite (.cmp .gt (.cons (.idx (.cons (.call 3 (.cons (.var 5) (.cons (.var 3) .nil))) (.cons (.con (.int 1)) .nil))) (.cons (.con (.int 1)) .nil))) [.expr (.mm .append 2 (.cons (.tup (.cons (.con (.str [45])) .nil)) .nil))] []] [.ite (.and (.cmp .ne (.cons (.var 3) (.cons (.var 5) .nil))) (.meth 1 (.var 0) (.cons (.tup (.cons (.con (.str [119])) (.cons (.var 5) (.cons (.var 6) (.cons (.var 3) .nil))))) .nil))) [.expr (.mm .append 2 (.cons (.tup (.cons (.con (.str [119])) (.cons (.var 5) (.cons (.var 6) (.cons (.var 3) .nil))))) .nil))] []]], .ret (.bf .tuple (.cons (.own 2) .nil))]
def n8 : List String := ["self", "place", "found", "spot", "turn", "king", "tower", "black", "after"]
def d8 : Def := ⟨2, 9, [2], [], false, b8⟩
/-- Hunt.is_check -/
def b9 : List S := [.bind [2, 3, 4, 5] (.var 1), .ret (.meth 0 (.var 0) (.cons (.var 3) (.cons (.var 4) (.cons (.var 5) .nil))))]
def n9 : List String := ["self", "place", "turn", "king", "tower", "black"]
def d9 : Def := ⟨2, 6, [], [], false, b9⟩
/-- Hunt.is_mate -/
def b10 : List S := [.ret (.and (.cmp .eq (.cons (.idx (.cons (.var 1) (.cons (.con (.int 0)) .nil))) (.cons (.con (.str [98])) .nil))) (.and (.meth 3 (.var 0) (.cons (.var 1) .nil)) (.cmp .eq (.cons (.meth 2 (.var 0) (.cons (.var 1) .nil)) (.cons (.tup (.nil)) .nil)))))]
def n10 : List String := ["self", "place"]
def d10 : Def := ⟨2, 2, [], [], false, b10⟩
/-- Hunt.is_stuck -/
def b11 : List S := [.ret (.and (.cmp .eq (.cons (.idx (.cons (.var 1) (.cons (.con (.int 0)) .nil))) (.cons (.con (.str [98])) .nil))) (.and (.no (.meth 3 (.var 0) (.cons (.var 1) .nil))) (.cmp .eq (.cons (.meth 2 (.var 0) (.cons (.var 1) .nil)) (.cons (.tup (.nil)) .nil)))))]
def n11 : List String := ["self", "place"]
def d11 : Def := ⟨2, 2, [], [], false, b11⟩
/-- _law_flat -/
def b12 : List S := [.set 1 (.lst (.nil)), .fors (.one 2) (.seq (.var 0)) [.set 1 (.op .add (.cons (.var 1) (.cons (.var 2) .nil)))], .ret (.var 1)]
def n12 : List String := ["rows", "found", "row"]
def d12 : Def := ⟨1, 3, [], [], false, b12⟩
/-- _law_dice -/
def b13 : List S := [.ite (.chain .lt .lt (.cons (.op .sub (.cons (.con (.int 0)) (.cons (.con (.int 10)) .nil))) (.cons (.var 0) .nil)) (.con (.int 10))) [.ret (.lst (.cons (.bf .abs (.cons (.var 0) .nil)) (.cons (.con (.int 0)) (.cons (.con (.int 2)) .nil))))] [], .ret (.lst (.cons (.var 0) (.cons (.op .add (.cons (.con (.int 1)) (.cons (.op .mod (.cons (.bf .int (.cons (.var 0) .nil)) (.cons (.con (.int 1009)) .nil))) .nil))) (.cons (.bf .int (.cons (.cmp .ge (.cons (.var 0) (.cons (.op .pow (.cons (.con (.int 10)) (.cons (.con (.int 18)) .nil))) .nil))) .nil)) .nil))))]
def n13 : List String := ["cell"]
def d13 : Def := ⟨1, 1, [], [], false, b13⟩
/-- _law_roll -/
def b14 : List S := [.ite (.or (.cmp .eq (.cons (.idx (.cons (.own 0) (.cons (.con (.int 2)) .nil))) (.cons (.con (.int 2)) .nil))) (.and (.cmp .eq (.cons (.idx (.cons (.own 0) (.cons (.con (.int 2)) .nil))) (.cons (.con (.int 1)) .nil))) (.cmp .gt (.cons (.idx (.cons (.own 0) (.cons (.con (.int 0)) .nil))) (.cons (.con (.int 0)) .nil))))) [.set 2 (.op .mod (.cons (.bf .int (.cons (.idx (.cons (.own 0) (.cons (.con (.int 0)) .nil))) .nil)) (.cons (.var 1) .nil))), .setIx 0 (.con (.int 0)) (.op .fdiv (.cons (.idx (.cons (.own 0) (.cons (.con (.int 0)) .nil))) (.cons (.var 1) .nil))), .ret (.var 2)] [], .setIx 0 (.con (.int 2)) (.con (.int 0)), .setIx 0 (.con (.int 0)) (.op .mod (.cons (.bf .int (.cons (.op .add (.cons (.op .add (.cons (.op .mul (.cons (.idx (.cons (.own 0) (.cons (.con (.int 0)) .nil))) (.cons (.con (.int 48271)) .nil))) (.cons (.op .mul (.cons (.idx (.cons (.own 0) (.cons (.con (.int 1)) .nil))) (.cons (.con (.int 69621)) .nil))) .nil))) (.cons (.con (.int 11)) .nil))) .nil)) (.cons (.con (.int 2147483647)) .nil))), .setIx 0 (.con (.int 1)) (.op .add (.cons (.idx (.cons (.own 0) (.cons (.con (.int 1)) .nil))) (.cons (.con (.int 1)) .nil))), .ret (.op .mod (.cons (.bf .int (.cons (.op .add (.cons (.op .fdiv (.cons (.idx (.cons (.own 0) (.cons (.con (.int 0)) .nil))) (.cons (.con (.int 7)) .nil))) (.cons (.idx (.cons (.own 0) (.cons (.con (.int 0)) .nil))) .nil))) .nil)) (.cons (.var 1) .nil)))]
def n14 : List String := ["dice", "many", "found"]
def d14 : Def := ⟨2, 3, [0], [0], false, b14⟩
/-- _law_spots -/
def b15 : List S := [.ret (.call 12 (.cons (.lc (.one 2) (.rng1 (.var 0)) none (.lc (.one 3) (.rng1 (.var 1)) none (.tup (.cons (.var 2) (.cons (.var 3) .nil))))) .nil))]
def n15 : List String := ["high", "wide", "j", "k"]
def d15 : Def := ⟨2, 4, [], [], false, b15⟩
/-- _law_apart -/
def b16 : List S := [.ret (.bf .max (.cons (.bf .abs (.cons (.op .sub (.cons (.idx (.cons (.var 0) (.cons (.con (.int 0)) .nil))) (.cons (.idx (.cons (.var 1) (.cons (.con (.int 0)) .nil))) .nil))) .nil)) (.cons (.bf .abs (.cons (.op .sub (.cons (.idx (.cons (.var 0) (.cons (.con (.int 1)) .nil))) (.cons (.idx (.cons (.var 1) (.cons (.con (.int 1)) .nil))) .nil))) .nil)) .nil)))]
def n16 : List String := ["one", "other"]
def d16 : Def := ⟨2, 2, [], [], false, b16⟩
/-- _law_danger -/
def b17 : List S := [.set 3 (.or (.cmp .eq (.cons (.idx (.cons (.var 1) (.cons (.con (.int 0)) .nil))) (.cons (.idx (.cons (.var 2) (.cons (.con (.int 0)) .nil))) .nil))) (.cmp .eq (.cons (.idx (.cons (.var 1) (.cons (.con (.int 1)) .nil))) (.cons (.idx (.cons (.var 2) (.cons (.con (.int 1)) .nil))) .nil)))), .par2 5 false (.lst (.cons (.idx (.cons (.var 1) (.cons (.con (.int 0)) .nil))) (.cons (.idx (.cons (.var 0) (.cons (.con (.int 0)) .nil))) (.cons (.idx (.cons (.var 2) (.cons (.con (.int 0)) .nil))) .nil)))) 6 false (.lst (.cons (.idx (.cons (.var 1) (.cons (.con (.int 1)) .nil))) (.cons (.idx (.cons (.var 0) (.cons (.con (.int 1)) .nil))) (.cons (.idx (.cons (.var 2) (.cons (.con (.int 1)) .nil))) .nil)))), .set 4 (.and (.cmp .eq (.cons (.idx (.cons (.bf .sorted (.cons (.lst (.cons (.var 1) (.cons (.var 0) (.cons (.var 2) .nil)))) .nil)) (.cons (.con (.int 1)) .nil))) (.cons (.var 0) .nil))) (.or (.cmp .eq (.cons (.bf .min (.cons (.var 5) .nil)) (.cons (.bf .max (.cons (.var 5) .nil)) .nil))) (.cmp .eq (.cons (.bf .min (.cons (.var 6) .nil)) (.cons (.bf .max (.cons (.var 6) .nil)) .nil))))), .ret (.or (.cmp .eq (.cons (.call 16 (.cons (.var 0) (.cons (.var 2) .nil))) (.cons (.con (.int 1)) .nil))) (.and (.var 3) (.and (.cmp .ne (.cons (.var 1) (.cons (.var 2) .nil))) (.no (.var 4)))))]
def n17 : List String := ["king", "tower", "spot", "line", "inside", "rows", "columns"]
def d17 : Def := ⟨3, 7, [], [], false, b17⟩
/-- _law_let -/
def b18 : List S := [.ite (.or (.cmp .eq (.cons (.var 1) (.cons (.var 2) .nil))) (.or (.cmp .eq (.cons (.var 1) (.cons (.var 3) .nil))) (.or (.cmp .eq (.cons (.var 2) (.cons (.var 3) .nil))) (.cmp .lt (.cons (.call 16 (.cons (.var 1) (.cons (.var 3) .nil))) (.cons (.con (.int 2)) .nil)))))) [.ret (.con (.bl false))] [], .ret (.or (.cmp .eq (.cons (.var 0) (.cons (.con (.str [98])) .nil))) (.no (.call 17 (.cons (.var 1) (.cons (.var 2) (.cons (.var 3) .nil))))))]
def n18 : List String := ["turn", "king", "tower", "black"]
def d18 : Def := ⟨4, 4, [], [], false, b18⟩
/-- _law_cases1 -/
def b19 : List S := [.ite (.cmp .ne (.cons (.told (.make 8 (.cons (.con (.int 2)) (.cons (.con (.int 3)) .nil)))) (.cons (.con (.str [114, 111, 119])) .nil))) [.ret (.con (.bl false))] [], .ite (.cmp .ne (.cons (.told (.make 8 (.cons (.con (.int 3)) (.cons (.con (.int 5)) .nil)))) (.cons (.con (.str [114, 111, 119])) .nil))) [.ret (.con (.bl false))] [], .ret (.con (.bl true))]
def n19 : List String := []
def d19 : Def := ⟨0, 0, [], [], false, b19⟩
/-- _law_ends_right -/
def b20 : List S := [.set 6 (.call 17 (.cons (.var 2) (.cons (.var 3) (.cons (.var 4) .nil)))), .ite (.or (.cmp .ne (.cons (.meth 3 (.var 0) (.cons (.var 1) .nil)) (.cons (.var 6) .nil))) (.cmp .ne (.cons (.meth 4 (.var 0) (.cons (.var 1) .nil)) (.cons (.and (.var 6) (.cmp .eq (.cons (.var 5) (.cons (.lst (.nil)) .nil)))) .nil)))) [.ret (.con (.bl false))] [], .ite (.cmp .ne (.cons (.meth 5 (.var 0) (.cons (.var 1) .nil)) (.cons (.and (.no (.var 6)) (.cmp .eq (.cons (.var 5) (.cons (.lst (.nil)) .nil)))) .nil))) [.ret (.con (.bl false))] [], .ret (.con (.bl true))]
def n20 : List String := ["hunt", "place", "king", "tower", "black", "after", "danger"]
def d20 : Def := ⟨6, 7, [], [], false, b20⟩
/-- _law_rest1 -/
def b21 : List S := [.fors (.one 3) (.rng1 (.con (.int 5))) [.set 4 (.idx (.cons (.con (.str [119, 98])) (.cons (.call 14 (.cons (.io 0) (.cons (.con (.int 2)) .nil))) .nil))), .bind [7, 8, 9] (.lc (.one 10) (.rng1 (.con (.int 3))) none (.idx (.cons (.var 2) (.cons (.call 14 (.cons (.io 0) (.cons (.bf .len (.cons (.var 2) .nil)) .nil))) .nil)))), .set 5 (.tup (.cons (.var 4) (.cons (.var 7) (.cons (.var 8) (.cons (.var 9) .nil))))), .set 6 (.call 18 (.cons (.var 4) (.cons (.var 7) (.cons (.var 8) (.cons (.var 9) .nil))))), .ite (.cmp .ne (.cons (.meth 1 (.var 1) (.cons (.var 5) .nil)) (.cons (.var 6) .nil))) [.ret (.con (.bl false))] [], .ite (.and (.cmp .ne (.cons (.var 8) (.cons (.var 9) .nil))) (.and (.cmp .ne (.cons (.var 7) (.cons (.var 9) .nil))) (.and (.cmp .ne (.cons (.var 7) (.cons (.var 8) .nil))) (.cmp .ne (.cons (.meth 0 (.var 1) (.cons (.var 7) (.cons (.var 8) (.cons (.var 9) .nil)))) (.cons (.call 17 (.cons (.var 7) (.cons (.var 8) (.cons (.var 9) .nil)))) .nil)))))) [.ret (.con (.bl false))] [], .ite (.no (.var 6)) [.ite (.cmp .ne (.cons (.told (.meth 2 (.var 1) (.cons (.var 5) .nil))) (.cons (.con (.str [109, 111, 118, 101])) .nil))) [.ret (.con (.bl false))] []] [.ite (.cmp .eq (.cons (.var 4) (.cons (.con (.str [119])) .nil))) [.set 11 (.lc (.one 13) (.seq (.var 2)) (some (.and (.cmp .eq (.cons (.call 16 (.cons (.var 13) (.cons (.var 7) .nil))) (.cons (.con (.int 1)) .nil))) (.and (.cmp .ne (.cons (.var 13) (.cons (.var 8) .nil))) (.call 18 (.cons (.con (.str [98])) (.cons (.var 13) (.cons (.var 8) (.cons (.var 9) .nil)))))))) (.tup (.cons (.con (.str [98])) (.cons (.var 13) (.cons (.var 8) (.cons (.var 9) .nil)))))), .thaw 12 (.lst (.nil)), .fors (.one 13) (.seq (.var 2)) [.set 15 (.and (.cmp .ne (.cons (.var 13) (.cons (.var 8) .nil))) (.or (.cmp .eq (.cons (.idx (.cons (.var 13) (.cons (.con (.int 0)) .nil))) (.cons (.idx (.cons (.var 8) (.cons (.con (.int 0)) .nil))) .nil))) (.cmp .eq (.cons (.idx (.cons (.var 13) (.cons (.con (.int 1)) .nil))) (.cons (.idx (.cons (.var 8) (.cons (.con (.int 1)) .nil))) .nil))))), .set 16 (.lc (.one 17) (.seq (.lst (.cons (.var 7) (.cons (.var 9) .nil)))) (some (.and (.cmp .eq (.cons (.idx (.cons (.bf .sorted (.cons (.lst (.cons (.var 8) (.cons (.var 17) (.cons (.var 13) .nil)))) .nil)) (.cons (.con (.int 1)) .nil))) (.cons (.var 17) .nil))) (.or (.and (.cmp .eq (.cons (.idx (.cons (.var 8) (.cons (.con (.int 0)) .nil))) (.cons (.idx (.cons (.var 17) (.cons (.con (.int 0)) .nil))) .nil))) (.cmp .eq (.cons (.idx (.cons (.var 17) (.cons (.con (.int 0)) .nil))) (.cons (.idx (.cons (.var 13) (.cons (.con (.int 0)) .nil))) .nil)))) (.and (.cmp .eq (.cons (.idx (.cons (.var 8) (.cons (.con (.int 1)) .nil))) (.cons (.idx (.cons (.var 17) (.cons (.con (.int 1)) .nil))) .nil))) (.cmp .eq (.cons (.idx (.cons (.var 17) (.cons (.con (.int 1)) .nil))) (.cons (.idx (.cons (.var 13) (.cons (.con (.int 1)) .nil))) .nil))))))) (.var 17)), .ite (.and (.var 15) (.cmp .eq (.cons (.var 16) (.cons (.lst (.nil)) .nil)))) [.expr (.mm .append 12 (.cons (.tup (.cons (.con (.str [98])) (.cons (.var 7) (.cons (.var 13) (.cons (.var 9) .nil))))) .nil))] []], .ite (.cmp .ne (.cons (.bf .list (.cons (.meth 2 (.var 1) (.cons (.var 5) .nil)) .nil)) (.cons (.op .add (.cons (.var 11) (.cons (.own 12) .nil))) .nil))) [.ret (.con (.bl false))] []] [.thaw 14 (.lst (.nil)), .fors (.one 13) (.seq (.lc (.one 17) (.seq (.var 2)) (some (.and (.cmp .eq (.cons (.call 16 (.cons (.var 17) (.cons (.var 9) .nil))) (.cons (.con (.int 1)) .nil))) (.cmp .ne (.cons (.var 17) (.cons (.var 7) .nil))))) (.var 17))) [.ite (.and (.cmp .eq (.cons (.var 13) (.cons (.var 8) .nil))) (.cmp .gt (.cons (.call 16 (.cons (.var 7) (.cons (.var 13) .nil))) (.cons (.con (.int 1)) .nil)))) [.expr (.mm .append 14 (.cons (.tup (.cons (.con (.str [45])) .nil)) .nil))] [], .ite (.and (.cmp .ne (.cons (.var 13) (.cons (.var 8) .nil))) (.call 18 (.cons (.con (.str [119])) (.cons (.var 7) (.cons (.var 8) (.cons (.var 13) .nil)))))) [.expr (.mm .append 14 (.cons (.tup (.cons (.con (.str [119])) (.cons (.var 7) (.cons (.var 8) (.cons (.var 13) .nil))))) .nil))] []], .ite (.cmp .ne (.cons (.bf .list (.cons (.meth 2 (.var 1) (.cons (.var 5) .nil)) .nil)) (.cons (.own 14) .nil))) [.ret (.con (.bl false))] [], .ite (.no (.call 20 (.cons (.var 1) (.cons (.var 5) (.cons (.var 7) (.cons (.var 8) (.cons (.var 9) (.cons (.bor 14) .nil)))))))) [.ret (.con (.bl false))] []]]], .ret (.call 19 (.nil))]
def n21 : List String := ["dice", "hunt", "spots", "turns", "turn", "place", "fine", "king", "tower", "black", "k", "steps", "rides", "one", "after", "straight", "between", "two"]
def d21 : Def := ⟨3, 18, [0, 12, 14], [0], false, b21⟩
def rdB : List S := [.ite (.cmp .eq (.cons (.var 2) (.cons (.lst (.nil)) .nil))) [.set 2 (.lst (.cons (.con (.int 0)) .nil))] [], .ret (.lc (.one 3) (.seq (.var 2)) none (.call 13 (.cons (.var 3) .nil)))]
def lwB : List S := [.par2 2 false (.con (.int 3)) 3 false (.op .add (.cons (.con (.int 3)) (.cons (.call 14 (.cons (.io 1) (.cons (.con (.int 2)) .nil))) .nil))), .par2 4 false (.make 8 (.cons (.var 2) (.cons (.var 3) .nil))) 5 false (.call 15 (.cons (.var 2) (.cons (.var 3) .nil))), .ite (.no (.call 21 (.cons (.io 1) (.cons (.var 4) (.cons (.var 5) .nil))))) [.ret (.con (.bl false))] []]
def tab : Tab where
  ds := [d0, d1, d2, d3, d4, d5, d6, d7, d8, d9, d10, d11, d12, d13, d14, d15, d16, d17, d18, d19, d20, d21]
  gs := [.tup [.tup [.int 0, .int 1], .tup [.int 1, .int 0], .tup [.int 0, .int (-1)], .tup [.int (-1), .int 0]], .tup [.tup [.int 1, .int 1], .tup [.int 1, .int (-1)], .tup [.int (-1), .int (-1)], .tup [.int (-1), .int 1]], .tup [.tup [.int 1, .int 2], .tup [.int 2, .int 1], .tup [.int 2, .int (-1)], .tup [.int 1, .int (-2)], .tup [.int (-1), .int (-2)], .tup [.int (-2), .int (-1)], .tup [.int (-2), .int 1], .tup [.int (-1), .int 2]], .tup [.str [107, 105, 110, 103], .str [108, 101, 97, 112, 101, 114], .str [116, 111, 119, 101, 114], .str [115, 108, 97, 110, 116, 101, 114], .str [108, 97, 100, 121]]]
  ms := [(8, 0, 6), (8, 1, 7), (8, 2, 8), (8, 3, 9), (8, 4, 10), (8, 5, 11)]
  is := [(8, 5)]
  td := [(1, [115, 112, 111, 116]), (2, [109, 111, 118, 101]), (3, [99, 111, 117, 110, 116]), (4, [114, 111, 119]), (5, [110, 111, 32, 119, 97, 121]), (6, [108, 97, 114, 103, 101]), (7, [116, 101, 120, 116])]
  cls := [8]
  nf := 2
def pg : Pg := tab.pg

def turnB : List S := match b21 with
  | [.fors _ _ b, _] => b
  | _ => []
end Bh.K16
/-! text Sy -/
set_option linter.all false
set_option maxRecDepth 100000
/-! Sy: symbolic runs of the evaluator. Plain Lean. -/
namespace Bh
theorem lev_call {pg : Pg} {n f : Nat} {ds : List D} {df : Def} (h : pg.defs f = some df) (hl : ds.length = df.np) : (lev pg (n+1)).c 0 f ds = endD df (evSs pg.tb (lev pg n) df.body (startE df ds)) := by
  show call1 pg (lev pg n) f ds = _
  unfold call1
  rw [h]
  simp only []
  rw [if_pos hl]
theorem Env.set_set (env : Env) (i : Nat) (a b : Option D) : (List.set env i a).set i b = List.set env i b := List.set_set ..
theorem Env.set_get (env : Env) (i : Nat) : List.set env i (env.get i) = env := by
  apply List.ext_getElem?
  intro j
  rw [List.getElem?_set]
  split
  · rename_i h; subst h
    split
    · rename_i h; simp [Env.get, h]
    · rename_i h; simp at h; simp [h]
  · rfl
theorem lcLoop_ok {t : T} {i : Nat} (ht : t = .one i) {turn : Env → R (Option D)} {env : Env} (g : D → Option D) : ∀ (xs : List D) (o : Option D) (acc : List D),
    (∀ x ∈ xs, turn (List.set env i (some x)) = .ok (g x) (List.set env i (some x))) → okLen (acc.length + xs.length) = true →
    ∃ o', lcLoop t turn xs (List.set env i o) acc = .ok (acc ++ xs.filterMap g) (List.set env i o')
  | [], o, acc, _, _ => ⟨o, by simp [lcLoop]⟩
  | x :: xs, o, acc, h, hl => by
    subst ht
    have h1 := h x (by simp)
    have h0 : bindT (.one i) x (Env.wipe (List.set env i o) (T.one i).slots) = some (List.set env i (some x)) := by
      simp [bindT, T.slots, Env.wipe, Env.put]
    have e1 : List.set env i (some x) = List.set env i (some x) := rfl
    simp only [okLen, decide_eq_true_eq, List.length_cons] at hl
    cases hg : g x with
    | none =>
      obtain ⟨o', ho⟩ := lcLoop_ok rfl (turn := turn) g xs (some x) acc (fun y hy => h y (by simp [hy])) (by simp [okLen]; omega)
      refine ⟨o', ?_⟩
      rw [lcLoop, h0]
      simp only [h1, hg]
      rw [ho, List.filterMap_cons, hg]
    | some y =>
      obtain ⟨o', ho⟩ := lcLoop_ok rfl (turn := turn) g xs (some x) (acc ++ [y]) (fun y hy => h y (by simp [hy])) (by simp [okLen]; omega)
      refine ⟨o', ?_⟩
      rw [lcLoop, h0]
      simp only [h1, hg]
      rw [if_pos (by simp [okLen]; omega), ho, List.filterMap_cons, hg]
      simp
def lcTurn (tb : Tb) (cf : CF) (c : Option E) (e : E) (env1 : Env) : R (Option D) := (evC tb cf c env1).bind fun q env2 => match q with
  | .bl true => (evE tb cf e env2).bind fun y env3 => .ok (some y) env3
  | .bl false => .ok none env2
  | _ => .err
theorem evE_lc {tb : Tb} {cf : CF} {t : T} {it : It} {c : Option E} {e : E} {env : Env} : evE tb cf (.lc t it c e) env = (evI tb cf it env).bind fun xs env0 =>
      (lcLoop t (lcTurn tb cf c e) xs env0 []).bind fun ys env => .ok (.lst ys) (env.back env0 t.slots) := by
  rw [evE]; rfl
/-- a comprehension without effects: [e for x in it if c] -/
theorem ev_lc {tb : Tb} {cf : CF} {i : Nat} {it : It} {c : Option E} {e : E} {env env0 : Env} {xs : List D} (g : D → Option D) (hi : evI tb cf it env = .ok xs env0) (hn : okLen xs.length = true)
    (h : ∀ x ∈ xs, lcTurn tb cf c e (List.set env0 i (some x)) = .ok (g x) (List.set env0 i (some x))) :
    evE tb cf (.lc (.one i) it c e) env = .ok (.lst (xs.filterMap g)) env0 := by
  rw [evE_lc, hi]
  simp only [R.bind]
  obtain ⟨o', ho⟩ := lcLoop_ok (t := .one i) rfl (turn := lcTurn tb cf c e) (env := env0) g xs (env0.get i) [] h (by simpa using hn)
  rw [Env.set_get] at ho
  rw [ho]
  simp only [T.slots, Env.back, List.nil_append, List.set_set]
  rw [Env.set_get]
/-- what a turn of a loop does to a state -/
inductive Lp (S : Type) where
  | go (s : S) | stop (s : S) | out (o : O)
def Lp.run {S : Type} (enc : S → Env) (k : S → O) : Lp S → O
  | .go s => k s
  | .stop s => .nx (enc s)
  | .out o => o
def loopL {S : Type} (enc : S → Env) (step : S → D → Lp S) : List D → S → O
  | [], s => .nx (enc s)
  | x :: xs, s => (step s x).run enc (loopL enc step xs)
def isOut : O → Bool
  | .ret _ _ => true
  | .exc _ _ => true
  | .err => true
  | _ => false
/-- a loop over data by a state -/
theorem forL_st {S : Type} {t : T} {b : Env → O} (enc : S → Env) (step : S → D → Lp S) : ∀ (xs : List D) (s : S),
    (∀ x ∈ xs, ∀ s, ∃ env1, bindT t x (enc s) = some env1 ∧ (match step s x with
      | .go s' => b env1 = .nx (enc s') ∨ b env1 = .cont (enc s')
      | .stop s' => b env1 = .brk (enc s')
      | .out o => b env1 = o ∧ isOut o = true)) → forL t b xs (enc s) = loopL enc step xs s
  | [], s, _ => rfl
  | x :: xs, s, h => by
    obtain ⟨env1, h1, h2⟩ := h x (by simp) s
    rw [forL, h1]
    simp only [loopL]
    cases hs : step s x with
    | go s' =>
      rw [hs] at h2
      have ih := forL_st (b := b) (t := t) enc step xs s' fun y hy => h y (by simp [hy])
      rcases h2 with h2 | h2 <;> simp only [h2, Lp.run] <;> exact ih
    | stop s' => rw [hs] at h2; simp only [h2, Lp.run]
    | out o =>
      rw [hs] at h2
      obtain ⟨h2, h3⟩ := h2
      rw [h2]
      cases o <;> simp [isOut] at h3 <;> rfl
theorem loopL_go {S : Type} {enc : S → Env} {step : S → D → S} : ∀ {xs : List D} {s : S}, loopL enc (fun s x => .go (step s x)) xs s = .nx (enc (xs.foldl step s))
  | [], _ => rfl
  | x :: xs, s => by simp only [loopL, Lp.run, List.foldl_cons]; exact loopL_go
end Bh
/-! text K1 -/
set_option linter.all false
set_option maxRecDepth 100000
set_option Elab.async false
namespace Bh.K16
open Bh
abbrev P (a b : Int) : D := .tup [.int a, .int b]
def sqI (w : Nat) : List (Int × Int) := (List.range 3).flatMap fun j => (List.range w).map fun k => ((j : Nat), (k : Nat))
def pd (p : Int × Int) : D := P p.1 p.2
def ab (i : Int) : Int := if i < 0 then -i else i
def mx (i j : Int) : Int := if j > i then j else i
def ap (p q : Int × Int) : Int := mx (ab (p.1 - q.1)) (ab (p.2 - q.2))
/-- strictly between on a line -/
def btw (t two one : Int × Int) : Bool :=
  (t.1 == two.1 && two.1 == one.1 && (decide (t.2 < two.2) && decide (two.2 < one.2) || decide (one.2 < two.2) && decide (two.2 < t.2))) ||
  (t.2 == two.2 && two.2 == one.2 && (decide (t.1 < two.1) && decide (two.1 < one.1) || decide (one.1 < two.1) && decide (two.1 < t.1)))
def inl (t one : Int × Int) : Bool := one != t && (one.1 == t.1 || one.2 == t.2)
def reach (t : Int × Int) (B : List (Int × Int)) (one : Int × Int) : Bool := inl t one && B.all fun two => !btw t two one
def beqP : D → Int × Int → Bool
  | .tup [.int a, .int b], q => a == q.1 && b == q.2
  | _, _ => false
def beqPs : List D → List (Int × Int) → Bool
  | [], [] => true
  | x :: xs, y :: ys => beqP x y && beqPs xs ys
  | _, _ => false
def chk (r : CR) (xs : List (Int × Int)) : Bool := match r with
  | .ok (.tup ys) [] => beqPs ys xs
  | _ => false
theorem beqP_eq {d : D} {q : Int × Int} (h : beqP d q = true) : d = pd q := by
  unfold beqP at h
  split at h
  · simp at h; obtain ⟨rfl, rfl⟩ := h; rfl
  · cases h
theorem beqPs_eq : ∀ {xs : List D} {ys : List (Int × Int)}, beqPs xs ys = true → xs = ys.map pd
  | [], [], _ => rfl
  | x :: xs, y :: ys, h => by
    simp only [beqPs, Bool.and_eq_true] at h
    rw [beqP_eq h.1, beqPs_eq h.2]; rfl
  | [], _ :: _, h => by simp [beqPs] at h
  | _ :: _, [], h => by simp [beqPs] at h
theorem chk_eq {r : CR} {xs : List (Int × Int)} (h : chk r xs = true) : r = .ok (.tup (xs.map pd)) [] := by
  unfold chk at h
  split at h
  · rw [beqPs_eq h]
  · cases h
def towerS : D := .str [116, 111, 119, 101, 114]
def kingS : D := .str [107, 105, 110, 103]
def goesB (n w : Nat) (s : D) (t : Int × Int) (B : List (Int × Int)) : CR := (lev pg (n + 3)).c 0 4 [s, pd t, .tup (B.map pd), .int 3, .int (w : Nat)]
theorem king3 (n : Nat) : ((sqI 3).all fun t => chk (goesB n 3 kingS t []) ((sqI 3).filter fun one => ap one t == 1)) = true := by kernel_rfl
theorem king4 (n : Nat) : ((sqI 4).all fun t => chk (goesB n 4 kingS t []) ((sqI 4).filter fun one => ap one t == 1)) = true := by kernel_rfl
end Bh.K16
/-! text Sz -/
set_option linter.all false
set_option maxRecDepth 100000
/-! Sz: the evaluator's equations, for symbolic runs. -/
namespace Bh
def O.seq (r : O) (k : Env → O) : O := match r with
  | .nx e => k e
  | r => r
def onB {α : Type} (x : D) (t f : R α) : R α := match x with
  | .bl true => t
  | .bl false => f
  | _ => .err
def onBO (x : D) (t f : O) : O := match x with
  | .bl true => t
  | .bl false => f
  | _ => .err
section
variable {tb : Tb} {cf : CF} {env : Env} {α β : Type}
@[simp] theorem seq_nx {e : Env} {k : Env → O} : O.seq (.nx e) k = k e := rfl
@[simp] theorem seq_ret {d : D} {e : Env} {k : Env → O} : O.seq (.ret d e) k = .ret d e := rfl
@[simp] theorem seq_brk {e : Env} {k : Env → O} : O.seq (.brk e) k = .brk e := rfl
@[simp] theorem seq_cont {e : Env} {k : Env → O} : O.seq (.cont e) k = .cont e := rfl
@[simp] theorem seq_exc {c : Nat} {e : Env} {k : Env → O} : O.seq (.exc c e) k = .exc c e := rfl
@[simp] theorem seq_err {k : Env → O} : O.seq .err k = .err := rfl
@[simp] theorem seq_cond {b : Bool} {x y : O} {k : Env → O} : O.seq (bif b then x else y) k = bif b then O.seq x k else O.seq y k := by cases b <;> rfl
@[simp] theorem bind_ok {a : α} {e : Env} {k : α → Env → R β} : R.bind (.ok a e) k = k a e := rfl
@[simp] theorem bind_exc {c : Nat} {e : Env} {k : α → Env → R β} : R.bind (.exc c e) k = .exc c e := rfl
@[simp] theorem bind_err {k : α → Env → R β} : R.bind .err k = .err := rfl
@[simp] theorem bind_cond {b : Bool} {x y : R α} {k : α → Env → R β} : R.bind (bif b then x else y) k = bif b then R.bind x k else R.bind y k := by cases b <;> rfl
@[simp] theorem o_ok {a : α} {e : Env} {k : α → Env → O} : R.o (.ok a e) k = k a e := rfl
@[simp] theorem o_exc {c : Nat} {e : Env} {k : α → Env → O} : R.o (.exc c e) k = .exc c e := rfl
@[simp] theorem o_err {k : α → Env → O} : R.o .err k = .err := rfl
@[simp] theorem o_cond {b : Bool} {x y : R α} {k : α → Env → O} : R.o (bif b then x else y) k = bif b then R.o x k else R.o y k := by cases b <;> rfl
@[simp] theorem of_some {a : α} {e : Env} : R.of (some a) e = .ok a e := rfl
@[simp] theorem of_none {e : Env} : R.of (none : Option α) e = .err := rfl
@[simp] theorem onB_bl {b : Bool} {t f : R α} : onB (.bl b) t f = bif b then t else f := by cases b <;> rfl
@[simp] theorem onBO_bl {b : Bool} {t f : O} : onBO (.bl b) t f = bif b then t else f := by cases b <;> rfl
@[simp] theorem cond_and {b c : Bool} {e : Env} : (bif b then R.ok (D.bl c) e else R.ok (D.bl false) e) = R.ok (D.bl (b && c)) e := by cases b <;> rfl
@[simp] theorem cond_or {b c : Bool} {e : Env} : (bif b then R.ok (D.bl true) e else R.ok (D.bl c) e) = R.ok (D.bl (b || c)) e := by cases b <;> rfl
@[simp] theorem endD_cond {df : Def} {b : Bool} {x y : O} : endD df (bif b then x else y) = bif b then endD df x else endD df y := by cases b <;> rfl
/-! the equations -/
@[simp] theorem late_var {i : Nat} : lateOf (.var i) = none := rfl
@[simp] theorem late_con {d : D} : lateOf (.con d) = none := rfl
@[simp] theorem late_glob {g : Nat} : lateOf (.glob g) = none := rfl
@[simp] theorem late_op {o : Op2} {es : Es} : lateOf (.op o es) = none := rfl
@[simp] theorem late_cmp {c : Cm} {es : Es} : lateOf (.cmp c es) = none := rfl
@[simp] theorem late_chain {c d : Cm} {es : Es} {e : E} : lateOf (.chain c d es e) = none := rfl
@[simp] theorem late_neg {a : E} : lateOf (.neg a) = none := rfl
@[simp] theorem late_no {a : E} : lateOf (.no a) = none := rfl
@[simp] theorem late_and {a b : E} : lateOf (.and a b) = none := rfl
@[simp] theorem late_or {a b : E} : lateOf (.or a b) = none := rfl
@[simp] theorem late_ite {c a b : E} : lateOf (.ite c a b) = none := rfl
@[simp] theorem late_tup {es : Es} : lateOf (.tup es) = none := rfl
@[simp] theorem late_lst {es : Es} : lateOf (.lst es) = none := rfl
@[simp] theorem late_idx {es : Es} : lateOf (.idx es) = none := rfl
@[simp] theorem late_slice {es : Es} {l h : Option Int} : lateOf (.slice es l h) = none := rfl
@[simp] theorem late_bf {f : Bf} {es : Es} : lateOf (.bf f es) = none := rfl
@[simp] theorem late_mm {m : Mm} {i : Nat} {es : Es} : lateOf (.mm m i es) = none := rfl
@[simp] theorem late_call {f : Nat} {es : Es} : lateOf (.call f es) = none := rfl
@[simp] theorem late_meth {m : Nat} {o : E} {es : Es} : lateOf (.meth m o es) = none := rfl
@[simp] theorem late_make {c : Nat} {es : Es} : lateOf (.make c es) = none := rfl
@[simp] theorem late_fld {es : Es} {f : Nat} : lateOf (.fld es f) = none := rfl
@[simp] theorem late_lc {t : T} {it : It} {c : Option E} {e : E} : lateOf (.lc t it c e) = none := rfl
@[simp] theorem late_told {e : E} : lateOf (.told e) = none := rfl
@[simp] theorem late_pick {ks : List (List Nat)} {es : Es} {k : E} : lateOf (.pick ks es k) = none := rfl
@[simp] theorem late_own {i : Nat} : lateOf (.own i) = some i := rfl
@[simp] theorem late_io {i : Nat} : lateOf (.io i) = some i := rfl
@[simp] theorem late_bor {i : Nat} : lateOf (.bor i) = some i := rfl
@[simp] theorem endD_ret {df : Def} {d : D} {env : Env} : endD df (.ret d env) = match outsOf env df.io with
    | some os => .ok d os
    | none => .err := rfl
@[simp] theorem endD_nx {df : Def} {env : Env} : endD df (.nx env) = match outsOf env df.io with
    | some os => .ok .non os
    | none => .err := rfl
@[simp] theorem endD_exc {df : Def} {c : Nat} {env : Env} : endD df (.exc c env) = match outsOf env df.io with
    | some os => .exc c os
    | none => .err := rfl

theorem y_var {i : Nat} : evE tb cf (.var i) env = R.of (env.get i) env := by rw [evE]
theorem y_con {d : D} : evE tb cf (.con d) env = .ok d env := by rw [evE]
theorem y_glob {g : Nat} : evE tb cf (.glob g) env = R.of (tb.glob g) env := by rw [evE]
def two2 {γ : Type} (f : D → D → Option γ) : List D → Option γ
  | [x, y] => f x y
  | _ => none
@[simp] theorem two2_2 {γ : Type} {f : D → D → Option γ} {x y : D} : two2 f [x, y] = f x y := rfl
def cmpB (o : Cm) (x y : D) : Option D := (cmpD o x y).map .bl
@[simp] theorem cmpB_some {o : Cm} {x y : D} {b : Bool} (h : cmpD o x y = some b) : cmpB o x y = some (.bl b) := by rw [cmpB, h]; rfl
theorem two_of {γ : Type} (f : D → D → Option γ) (ds : List D) (env : Env) : (match ds with
    | [x, y] => R.of (f x y) env
    | _ => .err) = R.of (two2 f ds) env := by
  unfold two2; split <;> rfl
theorem y_op {o : Op2} {es : Es} : evE tb cf (.op o es) env = (evEs tb cf es env).bind fun ds env => R.of (two2 (opD o) ds) env := by
  rw [evE]; congr 1; funext ds env; exact two_of (opD o) ds env
theorem y_cmp {o : Cm} {es : Es} : evE tb cf (.cmp o es) env = (evEs tb cf es env).bind fun ds env => R.of (two2 (cmpB o) ds) env := by
  rw [evE]; congr 1; funext ds env; exact two_of (cmpB o) ds env
theorem y_idx {es : Es} : evE tb cf (.idx es) env = (evEs tb cf es env).bind fun ds env => R.of (two2 idxD ds) env := by
  rw [evE]; congr 1; funext ds env; exact two_of idxD ds env
/-- the second half of a chain -/
def chn (c1 c2 : Cm) (ds : List D) (ev : R D) (env : Env) : R D := match ds with
  | [x, y] => match cmpD c1 x y with
    | some true => ev.bind (fun z env => R.of (cmpB c2 y z) env)
    | some false => .ok (.bl false) env
    | none => .err
  | _ => .err
def chn2 (b : Option Bool) (t f : R D) : R D := match b with
  | some true => t
  | some false => f
  | none => .err
@[simp] theorem chn2_some {b : Bool} {t f : R D} : chn2 (some b) t f = bif b then t else f := by cases b <;> rfl
@[simp] theorem chn_2 {c1 c2 : Cm} {x y : D} {ev : R D} : chn c1 c2 [x, y] ev env = chn2 (cmpD c1 x y) (ev.bind (fun z env => R.of (cmpB c2 y z) env)) (.ok (.bl false) env) := rfl
theorem y_chain {c1 c2 : Cm} {es : Es} {c : E} : evE tb cf (.chain c1 c2 es c) env = (evEs tb cf es env).bind fun ds env => chn c1 c2 ds (evE tb cf c env) env := by
  rw [evE]; congr
theorem y_neg {a : E} : evE tb cf (.neg a) env = (evE tb cf a env).bind fun x env => match x with
    | .int i => .ok (.int (-i)) env
    | _ => .err := by rw [evE] <;> congr
def notD : D → Option D
  | .bl q => some (.bl !q)
  | _ => none
@[simp] theorem notD_bl {b : Bool} : notD (.bl b) = some (.bl !b) := rfl
theorem y_no {a : E} : evE tb cf (.no a) env = (evE tb cf a env).bind fun x env => R.of (notD x) env := by
  rw [evE]; congr 1; funext x e; cases x <;> rfl
theorem y_and {a b : E} : evE tb cf (.and a b) env = (evE tb cf a env).bind fun x env => onB x (evE tb cf b env) (.ok (.bl false) env) := by
  rw [evE]; congr 1
theorem y_or {a b : E} : evE tb cf (.or a b) env = (evE tb cf a env).bind fun x env => onB x (.ok (.bl true) env) (evE tb cf b env) := by
  rw [evE]; congr 1
theorem y_ite {c a b : E} : evE tb cf (.ite c a b) env = (evE tb cf c env).bind fun x env => onB x (evE tb cf a env) (evE tb cf b env) := by
  rw [evE]; congr 1
theorem y_tup {es : Es} : evE tb cf (.tup es) env = (evEs tb cf es env).bind fun ds env => if okLen ds.length then .ok (.tup ds) env else .err := by rw [evE]
theorem y_lst {es : Es} : evE tb cf (.lst es) env = (evEs tb cf es env).bind fun ds env => if okLen ds.length then .ok (.lst ds) env else .err := by rw [evE]
theorem y_bf {f : Bf} {es : Es} : evE tb cf (.bf f es) env = (evEs tb cf es env).bind fun ds env => R.of (bfD f ds) env := by rw [evE]
theorem y_call {f : Nat} {es : Es} : evE tb cf (.call f es) env = (evEs tb cf es env).bind fun ds env => callRes es ds env (cf.c 0 f ds) := by rw [evE]
def onObj (x : D) (k : Nat → List (Nat × D) → R D) : R D := match x with
  | .obj c fs => k c fs
  | _ => .err
@[simp] theorem onObj_obj {c : Nat} {fs : List (Nat × D)} {k : Nat → List (Nat × D) → R D} : onObj (.obj c fs) k = k c fs := rfl
def onSome {β : Type} (x : Option α) (k : α → R β) : R β := match x with
  | some a => k a
  | none => .err
@[simp] theorem onSome_some {a : α} {k : α → R β} : onSome (some a) k = k a := rfl
def lateK {γ : Type} (o : Option Nat) (now : γ) (late : Nat → γ) : γ := match o with
  | none => now
  | some i => late i
@[simp] theorem lateK_none {γ : Type} {a : γ} {f : Nat → γ} : lateK none a f = a := rfl
@[simp] theorem lateK_some {γ : Type} {a : γ} {f : Nat → γ} {i : Nat} : lateK (some i) a f = f i := rfl
def onObjO (x : Option D) (k : Nat → List (Nat × D) → R D) : R D := match x with
  | some (.obj c fs) => k c fs
  | _ => .err
@[simp] theorem onObjO_obj {c : Nat} {fs : List (Nat × D)} {k : Nat → List (Nat × D) → R D} : onObjO (some (.obj c fs)) k = k c fs := rfl
theorem y_meth {m : Nat} {o : E} {es : Es} : evE tb cf (.meth m o es) env = lateK (lateOf o) ((evE tb cf o env).bind fun x env => onObj x fun c fs => onSome (tb.meth c m) fun f => (evEs tb cf es env).bind fun ds env => callRes (.cons o es) (.obj c fs :: ds) env (cf.c 0 f (.obj c fs :: ds)))
    (fun i => onObjO (env.get i) fun c fs => onSome (tb.meth c m) fun f => (evEs tb cf es env).bind fun ds env => onObjO (env.get i) fun c' fs => if c' = c then callRes (.cons o es) (.obj c' fs :: ds) env (cf.c 0 f (.obj c' fs :: ds)) else .err) := by
  rw [evE]
  cases lateOf o with
  | none =>
    simp only [lateK]
    cases evE tb cf o env with
    | ok x e =>
      cases x with
      | obj c fs =>
        simp only [R.bind, onObj]
        cases tb.meth c m <;> rfl
      | _ => rfl
    | exc c e => rfl
    | err => rfl
  | some i =>
    simp only [lateK]
    cases env.get i with
    | none => rfl
    | some x =>
      cases x with
      | obj c fs =>
        simp only [onObjO]
        cases tb.meth c m with
        | none => rfl
        | some f =>
          simp only [onSome] <;> congr
      | _ => rfl
def fldK (tb : Tb) (f : Nat) (ds : List D) (env : Env) : R D := match ds with
  | [.obj c fs] => if tb.fld c f then R.of (fs.lookup f) env else .err
  | _ => .err
@[simp] theorem fldK_1 {f c : Nat} {fs : List (Nat × D)} : fldK tb f [.obj c fs] env = if tb.fld c f then R.of (fs.lookup f) env else .err := rfl
theorem y_fld {es : Es} {f : Nat} : evE tb cf (.fld es f) env = (evEs tb cf es env).bind fun ds env => fldK tb f ds env := by
  rw [evE]; congr
def mmK (m : Mm) (i : Nat) (o : Option D) (ds : List D) (env : Env) : R D := match o with
  | some x => match mmD m x ds with
    | some r => .ok r.1 (env.put i r.2)
    | none => .err
  | none => .err
@[simp] theorem mmK_some {m : Mm} {i : Nat} {x : D} {ds : List D} : mmK m i (some x) ds env = match mmD m x ds with
    | some r => .ok r.1 (env.put i r.2)
    | none => .err := rfl
def isL (o : Option D) (k : R D) : R D := match o with
  | some (.lst _) => k
  | _ => .err
@[simp] theorem isL_lst {xs : List D} {k : R D} : isL (some (.lst xs)) k = k := rfl
theorem y_mm {m : Mm} {i : Nat} {es : Es} : evE tb cf (.mm m i es) env = isL (env.get i) ((evEs tb cf es env).bind fun ds env => mmK m i (env.get i) ds env) := by
  rw [evE]
  cases env.get i with
  | none => rfl
  | some x => cases x <;> rfl
theorem y_told {e : E} : evE tb cf (.told e) env = if 2 ≤ cf.lv then (match evE tb (low cf) e env with
    | .ok d env => .ok d env
    | .exc c env => match tb.told c with
      | some d => .ok d env
      | none => .err
    | .err => .err) else .err := by rw [evE] <;> congr
theorem y_pick {ks : List (List Nat)} {es : Es} {k : E} : evE tb cf (.pick ks es k) env = (evEs tb cf es env).bind fun ds env => (evE tb cf k env).bind fun x env => R.of (pickD ks ds x) env := by rw [evE]
theorem y_nil : evEs tb cf .nil env = .ok [] env := by rw [evEs]
theorem y_cons {e : E} {es : Es} : evEs tb cf (.cons e es) env = lateK (lateOf e) ((evE tb cf e env).bind fun d env => (evEs tb cf es env).bind fun ds env => .ok (d :: ds) env)
    (fun i => (R.of (env.get i) env).bind fun _ env => (evEs tb cf es env).bind fun ds env => (R.of (env.get i) env).bind fun d env => .ok (d :: ds) env) := by
  rw [evEs]; cases lateOf e <;> rfl
theorem y_c0 : evC tb cf none env = .ok (.bl true) env := by rw [evC]
theorem y_c1 {c : E} : evC tb cf (some c) env = evE tb cf c env := by rw [evC]
theorem y_seq {e : E} : evI tb cf (.seq e) env = (evE tb cf e env).bind fun d env => R.of (itemsD d) env := by rw [evI]
def rngD (a b : D) : Option (List D) := match a, b with
  | .int i, .int j => if rngOk i j then some (rangeD i j) else none
  | _, _ => none
@[simp] theorem rngD_int {i j : Int} : rngD (.int i) (.int j) = if rngOk i j then some (rangeD i j) else none := rfl
theorem y_rng1 {a : E} : evI tb cf (.rng1 a) env = (evE tb cf a env).bind fun x env => R.of (rngD (.int 0) x) env := by
  rw [evI]; congr 1; funext x e; cases x <;> simp [rngD, R.of]
  split <;> simp_all
theorem y_rng2 {es : Es} : evI tb cf (.rng2 es) env = (evEs tb cf es env).bind fun ds env => R.of (two2 rngD ds) env := by
  rw [evI]; congr 1; funext ds env
  rw [← two_of]
  split
  · rename_i i j
    simp only [rngD]
    split <;> rfl
  · rename_i h
    split
    · rename_i x y
      unfold rngD
      split
      · exact absurd rfl (h _ _)
      · rfl
    · rfl
theorem y_lcTurn {c : Option E} {e : E} : lcTurn tb cf c e env = (evC tb cf c env).bind fun q env2 => onB q ((evE tb cf e env2).bind fun y env3 => .ok (some y) env3) (.ok none env2) := by
  unfold lcTurn; congr 1
def isBor : E → Bool
  | .bor _ => true
  | _ => false
def isIo : E → Option Nat
  | .io i => some i
  | _ => none
@[simp] theorem isBor_bor {i : Nat} : isBor (.bor i) = true := rfl
@[simp] theorem isIo_io {i : Nat} : isIo (.io i) = some i := rfl
@[simp] theorem isBor_var {a : Nat} : isBor (.var a) = false := rfl
@[simp] theorem isBor_con {a : D} : isBor (.con a) = false := rfl
@[simp] theorem isBor_glob {a : Nat} : isBor (.glob a) = false := rfl
@[simp] theorem isBor_op {a : Op2} {b : Es} : isBor (.op a b) = false := rfl
@[simp] theorem isBor_cmp {a : Cm} {b : Es} : isBor (.cmp a b) = false := rfl
@[simp] theorem isBor_chain {a : Cm} {b : Cm} {c : Es} {d : E} : isBor (.chain a b c d) = false := rfl
@[simp] theorem isBor_neg {a : E} : isBor (.neg a) = false := rfl
@[simp] theorem isBor_no {a : E} : isBor (.no a) = false := rfl
@[simp] theorem isBor_and {a : E} {b : E} : isBor (.and a b) = false := rfl
@[simp] theorem isBor_or {a : E} {b : E} : isBor (.or a b) = false := rfl
@[simp] theorem isBor_ite {a : E} {b : E} {c : E} : isBor (.ite a b c) = false := rfl
@[simp] theorem isBor_tup {a : Es} : isBor (.tup a) = false := rfl
@[simp] theorem isBor_lst {a : Es} : isBor (.lst a) = false := rfl
@[simp] theorem isBor_idx {a : Es} : isBor (.idx a) = false := rfl
@[simp] theorem isBor_slice {a : Es} {b : Option Int} {c : Option Int} : isBor (.slice a b c) = false := rfl
@[simp] theorem isBor_bf {a : Bf} {b : Es} : isBor (.bf a b) = false := rfl
@[simp] theorem isBor_mm {a : Mm} {b : Nat} {c : Es} : isBor (.mm a b c) = false := rfl
@[simp] theorem isBor_call {a : Nat} {b : Es} : isBor (.call a b) = false := rfl
@[simp] theorem isBor_meth {a : Nat} {b : E} {c : Es} : isBor (.meth a b c) = false := rfl
@[simp] theorem isBor_make {a : Nat} {b : Es} : isBor (.make a b) = false := rfl
@[simp] theorem isBor_fld {a : Es} {b : Nat} : isBor (.fld a b) = false := rfl
@[simp] theorem isBor_lc {a : T} {b : It} {c : Option E} {d : E} : isBor (.lc a b c d) = false := rfl
@[simp] theorem isBor_told {a : E} : isBor (.told a) = false := rfl
@[simp] theorem isBor_pick {a : List (List Nat)} {b : Es} {c : E} : isBor (.pick a b c) = false := rfl
@[simp] theorem isBor_own {a : Nat} : isBor (.own a) = false := rfl
@[simp] theorem isBor_io {a : Nat} : isBor (.io a) = false := rfl
@[simp] theorem isIo_var {a : Nat} : isIo (.var a) = none := rfl
@[simp] theorem isIo_con {a : D} : isIo (.con a) = none := rfl
@[simp] theorem isIo_glob {a : Nat} : isIo (.glob a) = none := rfl
@[simp] theorem isIo_op {a : Op2} {b : Es} : isIo (.op a b) = none := rfl
@[simp] theorem isIo_cmp {a : Cm} {b : Es} : isIo (.cmp a b) = none := rfl
@[simp] theorem isIo_chain {a : Cm} {b : Cm} {c : Es} {d : E} : isIo (.chain a b c d) = none := rfl
@[simp] theorem isIo_neg {a : E} : isIo (.neg a) = none := rfl
@[simp] theorem isIo_no {a : E} : isIo (.no a) = none := rfl
@[simp] theorem isIo_and {a : E} {b : E} : isIo (.and a b) = none := rfl
@[simp] theorem isIo_or {a : E} {b : E} : isIo (.or a b) = none := rfl
@[simp] theorem isIo_ite {a : E} {b : E} {c : E} : isIo (.ite a b c) = none := rfl
@[simp] theorem isIo_tup {a : Es} : isIo (.tup a) = none := rfl
@[simp] theorem isIo_lst {a : Es} : isIo (.lst a) = none := rfl
@[simp] theorem isIo_idx {a : Es} : isIo (.idx a) = none := rfl
@[simp] theorem isIo_slice {a : Es} {b : Option Int} {c : Option Int} : isIo (.slice a b c) = none := rfl
@[simp] theorem isIo_bf {a : Bf} {b : Es} : isIo (.bf a b) = none := rfl
@[simp] theorem isIo_mm {a : Mm} {b : Nat} {c : Es} : isIo (.mm a b c) = none := rfl
@[simp] theorem isIo_call {a : Nat} {b : Es} : isIo (.call a b) = none := rfl
@[simp] theorem isIo_meth {a : Nat} {b : E} {c : Es} : isIo (.meth a b c) = none := rfl
@[simp] theorem isIo_make {a : Nat} {b : Es} : isIo (.make a b) = none := rfl
@[simp] theorem isIo_fld {a : Es} {b : Nat} : isIo (.fld a b) = none := rfl
@[simp] theorem isIo_lc {a : T} {b : It} {c : Option E} {d : E} : isIo (.lc a b c d) = none := rfl
@[simp] theorem isIo_told {a : E} : isIo (.told a) = none := rfl
@[simp] theorem isIo_pick {a : List (List Nat)} {b : Es} {c : E} : isIo (.pick a b c) = none := rfl
@[simp] theorem isIo_own {a : Nat} : isIo (.own a) = none := rfl
@[simp] theorem isIo_bor {a : Nat} : isIo (.bor a) = none := rfl
@[simp] theorem lentOk_nil {ds : List D} {r : D} : lentOk .nil ds r = true := by rw [lentOk]; all_goals simp
@[simp] theorem lentOk_cons {e : E} {es : Es} {d r : D} {ds : List D} : lentOk (.cons e es) (d :: ds) r = ((!isBor e || !hasK (kindOf d) r) && lentOk es ds r) := by
  cases e <;> simp [lentOk]
@[simp] theorem lentOut_nil {ds : List D} {r : D} : lentOut .nil ds r = true := by rw [lentOut]; all_goals simp
@[simp] theorem lentOut_cons {e : E} {es : Es} {d r : D} {ds : List D} : lentOut (.cons e es) (d :: ds) r = ((!isBor e || !kidK (kindOf d) r) && lentOut es ds r) := by
  cases e <;> simp [lentOut]
@[simp] theorem putBack_n {os : List D} {env : Env} : putBack .nil os env = env := by rw [putBack]
@[simp] theorem putBack_z : ∀ {es : Es} {env : Env}, putBack es [] env = env
  | .nil, env => by rw [putBack]
  | .cons e es, env => by cases e <;> simp [putBack] <;> exact putBack_z
@[simp] theorem putBack_c {e : E} {es : Es} {o : D} {os : List D} {env : Env} : putBack (.cons e es) (o :: os) env = lateK (isIo e) (putBack es (o :: os) env) (fun i => putBack es os (env.put i o)) := by
  cases e <;> simp [putBack, isIo, lateK]
@[simp] theorem callRes_ok {es : Es} {ds : List D} {r : D} {outs : List D} : callRes es ds env (.ok r outs) = if lentOk es ds r && outs.all (lentOut es ds) then .ok r (putBack es outs env) else .err := rfl
@[simp] theorem callRes_exc {es : Es} {ds : List D} {c : Nat} {outs : List D} : callRes es ds env (.exc c outs) = if outs.all (lentOut es ds) then .exc c (putBack es outs env) else .err := rfl
@[simp] theorem items_tup {xs : List D} : itemsD (.tup xs) = some xs := rfl
@[simp] theorem items_lst {xs : List D} : itemsD (.lst xs) = some xs := rfl
@[simp] theorem add_int {i j : Int} : opD .add (.int i) (.int j) = some (.int (i + j)) := rfl
@[simp] theorem sub_int {i j : Int} : opD .sub (.int i) (.int j) = some (.int (i - j)) := rfl
@[simp] theorem add_tup {a b : List D} : opD .add (.tup a) (.tup b) = if okLen (a.length + b.length) then some (.tup (a ++ b)) else none := rfl
@[simp] theorem add_lst {a b : List D} : opD .add (.lst a) (.lst b) = if okLen (a.length + b.length) then some (.lst (a ++ b)) else none := rfl
@[simp] theorem append_lst {a : List D} {v : D} : mmD .append (.lst a) [v] = if okLen (a.length + 1) then some (.non, .lst (a ++ [v])) else none := rfl
@[simp] theorem lt_int {i j : Int} : cmpD .lt (.int i) (.int j) = some (decide (i < j)) := rfl
@[simp] theorem le_int {i j : Int} : cmpD .le (.int i) (.int j) = some (decide (i ≤ j)) := rfl
@[simp] theorem gt_int {i j : Int} : cmpD .gt (.int i) (.int j) = some (decide (j < i)) := rfl
@[simp] theorem ge_int {i j : Int} : cmpD .ge (.int i) (.int j) = some (decide (j ≤ i)) := rfl
@[simp] theorem eq_int {i j : Int} : cmpD .eq (.int i) (.int j) = some (i == j) := by simp [cmpD, eqOk, plain, dep, eqv]
@[simp] theorem ne_int {i j : Int} : cmpD .ne (.int i) (.int j) = some (i != j) := by simp [cmpD, eqOk, plain, dep, eqv, bne]
@[simp] theorem eq_str {a b : List Nat} : cmpD .eq (.str a) (.str b) = some (a == b) := by simp [cmpD, eqOk, plain, dep, eqv]
@[simp] theorem ne_str {a b : List Nat} : cmpD .ne (.str a) (.str b) = some (a != b) := by simp [cmpD, eqOk, plain, dep, eqv, bne]
@[simp] theorem eq_bl {a b : Bool} : cmpD .eq (.bl a) (.bl b) = some (a == b) := by simp [cmpD, eqOk, plain, dep, eqv]
@[simp] theorem ne_bl {a b : Bool} : cmpD .ne (.bl a) (.bl b) = some (a != b) := by simp [cmpD, eqOk, plain, dep, eqv, bne]
@[simp] theorem tuple_lst {l : List D} : bfD .tuple [.lst l] = some (.tup l) := rfl
@[simp] theorem list_tup {l : List D} : bfD .list [.tup l] = some (.lst l) := rfl
@[simp] theorem list_lst {l : List D} : bfD .list [.lst l] = some (.lst l) := rfl
@[simp] theorem len_lst {l : List D} : bfD .len [.lst l] = some (.int l.length) := rfl
@[simp] theorem len_tup {l : List D} : bfD .len [.tup l] = some (.int l.length) := rfl
@[simp] theorem bind_one {i : Nat} {d : D} : bindT (.one i) d env = some (env.put i d) := rfl
theorem lcLoop_okM {γ : Type} (enc : γ → D) {i : Nat} {turn : Env → R (Option D)} {env : Env} (g : γ → Option D) : ∀ (xs : List γ) (o : Option D) (acc : List D),
    (∀ x ∈ xs, turn (List.set env i (some (enc x))) = .ok (g x) (List.set env i (some (enc x)))) → okLen (acc.length + xs.length) = true →
    ∃ o', lcLoop (.one i) turn (xs.map enc) (List.set env i o) acc = .ok (acc ++ xs.filterMap g) (List.set env i o')
  | [], o, acc, _, _ => ⟨o, by simp [lcLoop]⟩
  | x :: xs, o, acc, h, hl => by
    have h1 := h x (by simp)
    have h0 : bindT (.one i) (enc x) (Env.wipe (List.set env i o) (T.one i).slots) = some (List.set env i (some (enc x))) := by
      simp [bindT, T.slots, Env.wipe, Env.put]
    simp only [okLen, decide_eq_true_eq, List.length_cons] at hl
    cases hg : g x with
    | none =>
      obtain ⟨o', ho⟩ := lcLoop_okM enc (turn := turn) g xs (some (enc x)) acc (fun y hy => h y (by simp [hy])) (by simp [okLen]; omega)
      refine ⟨o', ?_⟩
      rw [List.map_cons, lcLoop, h0]
      simp only [h1, hg]
      rw [ho, List.filterMap_cons, hg]
    | some y =>
      obtain ⟨o', ho⟩ := lcLoop_okM enc (turn := turn) g xs (some (enc x)) (acc ++ [y]) (fun y hy => h y (by simp [hy])) (by simp [okLen]; omega)
      refine ⟨o', ?_⟩
      rw [List.map_cons, lcLoop, h0]
      simp only [h1, hg]
      rw [if_pos (by simp [okLen]; omega), ho, List.filterMap_cons, hg]
      simp
/-- a comprehension over coded things -/
theorem ev_lcM {γ : Type} (enc : γ → D) {i : Nat} {it : It} {c : Option E} {e : E} {env0 : Env} {xs : List γ} (g : γ → Option D) (hi : evI tb cf it env = .ok (xs.map enc) env0) (hn : okLen xs.length = true)
    (h : ∀ x ∈ xs, lcTurn tb cf c e (List.set env0 i (some (enc x))) = .ok (g x) (List.set env0 i (some (enc x)))) :
    evE tb cf (.lc (.one i) it c e) env = .ok (.lst (xs.filterMap g)) env0 := by
  rw [evE_lc, hi]
  simp only [R.bind]
  obtain ⟨o', ho⟩ := lcLoop_okM enc (turn := lcTurn tb cf c e) (env := env0) g xs (env0.get i) [] h (by simpa using hn)
  rw [Env.set_get] at ho
  rw [ho]
  simp only [T.slots, Env.back, List.nil_append, List.set_set]
  rw [Env.set_get]
theorem fm_if {γ : Type} (p : γ → Bool) (f : γ → D) : ∀ l : List γ, (l.filterMap fun x => if p x then some (f x) else none) = (l.filter p).map f
  | [] => rfl
  | x :: l => by
    rw [List.filterMap_cons, List.filter_cons, fm_if p f l]
    cases p x <;> simp
theorem y_make {c : Nat} {es : Es} : evE tb cf (.make c es) env = (evEs tb cf es env).bind fun ds env => onSome (tb.init c) fun f => makeRes es ds env (cf.c 1 f (.obj c [] :: ds)) := by
  rw [evE]; congr 1; funext ds env; cases tb.init c <;> rfl
@[simp] theorem makeRes_ok {es : Es} {ds : List D} {o : D} {outs : List D} : makeRes es ds env (.ok .non (o :: outs)) = if lentOk es ds o && outs.all (lentOut es ds) then .ok o (putBack es outs env) else .err := rfl
@[simp] theorem makeRes_exc {es : Es} {ds : List D} {c : Nat} {o : D} {outs : List D} : makeRes es ds env (.exc c (o :: outs)) = if outs.all (lentOut es ds) then .exc c (putBack es outs env) else .err := rfl
/-! statements -/
theorem z_nil : evSs tb cf [] env = .nx env := by rw [evSs]
theorem z_cons {s : S} {ss : List S} : evSs tb cf (s :: ss) env = (evS tb cf s env).seq fun e => evSs tb cf ss e := by
  rw [evSs]; cases evS tb cf s env <;> rfl
theorem z_set {i : Nat} {e : E} : evS tb cf (.set i e) env = (evE tb cf e env).o fun d env => .nx (env.put i d) := by rw [evS]
theorem z_thaw {i : Nat} {e : E} : evS tb cf (.thaw i e) env = (evE tb cf e env).o fun d env => setO true (isNew tb e) env i d .nx := by rw [evS]
def onEnv (x : Option Env) (k : Env → O) : O := match x with
  | some e => k e
  | none => .err
@[simp] theorem onEnv_some {e : Env} {k : Env → O} : onEnv (some e) k = k e := rfl
theorem z_bind {is : List Nat} {e : E} : evS tb cf (.bind is e) env = (evE tb cf e env).o fun d env => onEnv (bindT (.many is) d env) .nx := by
  rw [evS]; rfl
theorem z_par2 {i j : Nat} {fi fj : Bool} {a b : E} : evS tb cf (.par2 i fi a j fj b) env = (evE tb cf a env).o fun x env => (evE tb cf b env).o fun y env => setO fi (isNew tb a) env i x fun env => setO fj (isNew tb b) env j y .nx := by rw [evS]
theorem z_expr {e : E} : evS tb cf (.expr e) env = (evE tb cf e env).o fun _ env => .nx env := by rw [evS]
theorem z_ret {e : E} : evS tb cf (.ret e) env = (evE tb cf e env).o fun d env => .ret d env := by rw [evS]
theorem z_retO {i : Nat} : evS tb cf (.retO i) env = (R.of (env.get i) env).o fun d env => .ret d env := by rw [evS]
theorem z_raise {c : Nat} : evS tb cf (.raise c) env = .exc c env := by rw [evS]
theorem z_pass : evS tb cf .pass env = .nx env := by rw [evS]
theorem z_brk : evS tb cf .brk env = .brk env := by rw [evS]
theorem z_cont : evS tb cf .cont env = .cont env := by rw [evS]
theorem z_ite {c : E} {a b : List S} : evS tb cf (.ite c a b) env = (evE tb cf c env).o fun q env => onBO q (evSs tb cf a env) (evSs tb cf b env) := by
  rw [evS]; congr 1
theorem z_fors {t : T} {it : It} {b : List S} : evS tb cf (.fors t it b) env = (evI tb cf it env).o fun xs env => forL t (evSs tb cf b) xs env := by rw [evS]
theorem z_whil {n : Nat} {c : E} {b : List S} : evS tb cf (.whil n c b) env = whileL (evE tb cf c) (evSs tb cf b) n env := by rw [evS]
end
end Bh
/-! text K2 -/
set_option linter.all false
set_option maxRecDepth 100000
set_option Elab.async false
namespace Bh.K16
theorem get_lit {env : Env} {i : Nat} : Env.get env i = (env[i]?).getD none := rfl
@[simp] theorem idx0 (p : Int × Int) : idxD (pd p) (.int 0) = some (.int p.1) := by simp [idxD, pd, atI, ixN]
@[simp] theorem idx1 (p : Int × Int) : idxD (pd p) (.int 1) = some (.int p.2) := by simp [idxD, pd, atI, ixN]
theorem eqOk_pd (p q : Int × Int) : eqOk (pd p) (pd q) = true := by simp [eqOk, pd, plain, plains, dep, deps]
theorem eqv_pd (p q : Int × Int) : eqv (pd p) (pd q) = (p == q) := by
  simp [eqv, eqvs, pd]; rfl
@[simp] theorem cmpEq (p q : Int × Int) : cmpD .eq (pd p) (pd q) = some (p == q) := by simp [cmpD, eqOk_pd, eqv_pd]
@[simp] theorem cmpNe (p q : Int × Int) : cmpD .ne (pd p) (pd q) = some (p != q) := by simp [cmpD, eqOk_pd, eqv_pd, bne]
@[simp] theorem bfAbs (i : Int) : bfD .abs [.int i] = some (.int (ab i)) := rfl
@[simp] theorem bfMax2 (i j : Int) : bfD .max [.int i, .int j] = some (.int (mx i j)) := rfl
local macro_rules | `(tactic| walk_at "ev") => `(tactic| simp [startE, get_lit, Env.put, outsOf, okLen, setO, z_nil, z_cons, z_set, z_thaw, z_bind, z_par2, z_expr, z_ret, z_retO, z_raise, z_ite, z_fors, z_whil, z_brk, z_cont, z_pass, y_var, y_con, y_glob, y_op, y_cmp, y_idx, y_chain, y_no, y_and, y_or, y_ite, y_tup, y_lst, y_bf, y_call, y_meth, y_fld, y_nil, y_cons, y_seq, y_c0, y_c1])
def isOn (p : Int × Int) (h w : Int) : Bool := decide (0 ≤ p.1) && decide (p.1 < h) && (decide (0 ≤ p.2) && decide (p.2 < w))
theorem c16 (n : Nat) (p q : Int × Int) : (lev pg (n+1)).c 0 16 [pd p, pd q] = .ok (.int (ap p q)) [] := by
  rw [lev_call (df := d16) rfl rfl]
  simp only [d16, b16]
  walk_at "ev"
  simp [ap]
theorem c0 (n : Nat) (p : Int × Int) (h w : Int) : (lev pg (n+1)).c 0 0 [pd p, .int h, .int w] = .ok (.bl (isOn p h w)) [] := by
  rw [lev_call (df := d0) rfl rfl]
  simp only [d0, b0]
  walk_at "ev"
  simp [isOn, Bool.and_assoc]
theorem c3 (n : Nat) (p q : Int × Int) : (lev pg (n+1)).c 0 3 [pd p, pd q] = .ok (.tup [.int (ab (p.1 - q.1) + ab (p.2 - q.2)), .int (ap p q)]) [] := by
  rw [lev_call (df := d3) rfl rfl]
  simp only [d3, b3]
  walk_at "ev"
  simp [ap]
end Bh.K16
/-! text K3 -/
set_option linter.all false
set_option maxRecDepth 100000
set_option Elab.async false
namespace Bh.K16
local macro_rules | `(tactic| walk_at "ev") => `(tactic| simp [startE, get_lit, Env.put, outsOf, okLen, setO, isNew, kindOf, z_nil, z_cons, z_set, z_thaw, z_bind, z_par2, z_expr, z_ret, z_retO, z_raise, z_ite, z_fors, z_whil, z_brk, z_cont, z_pass, y_var, y_con, y_glob, y_op, y_cmp, y_idx, y_chain, y_no, y_and, y_or, y_ite, y_tup, y_lst, y_bf, y_call, y_meth, y_fld, y_mm, y_nil, y_cons, y_seq, y_c0, y_c1])
def rayL (w : Int) (t d : Int × Int) : List (Int × Int) := ((List.range 4).map fun k => (t.1 + (k + 1 : Nat) * d.1, t.2 + (k + 1 : Nat) * d.2)).filter fun p => isOn p 3 w
def ways : List (Int × Int) := [(0, 1), (1, 0), (0, -1), (-1, 0)]
theorem ray3 (n : Nat) : ((sqI 3).all fun t => ways.all fun d => chk ((lev pg (n + 2)).c 0 2 [pd t, pd d, .int 3, .int 3]) (rayL 3 t d)) = true := by kernel_rfl
theorem ray4 (n : Nat) : ((sqI 4).all fun t => ways.all fun d => chk ((lev pg (n + 2)).c 0 2 [pd t, pd d, .int 3, .int 4]) (rayL 4 t d)) = true := by kernel_rfl
theorem c2 (n w : Nat) (hw : w = 3 ∨ w = 4) {t d : Int × Int} (ht : t ∈ sqI w) (hd : d ∈ ways) : (lev pg (n + 2)).c 0 2 [pd t, pd d, .int 3, .int w] = .ok (.tup ((rayL w t d).map pd)) [] := by
  rcases hw with rfl | rfl
  · exact chk_eq (List.all_eq_true.mp (List.all_eq_true.mp (ray3 n) t ht) d hd)
  · exact chk_eq (List.all_eq_true.mp (List.all_eq_true.mp (ray4 n) t ht) d hd)
def upto (B : List (Int × Int)) : List (Int × Int) → List (Int × Int)
  | [] => []
  | x :: xs => x :: bif B.contains x then [] else upto B xs
theorem plains_pd : ∀ l : List (Int × Int), plains (l.map pd) = true
  | [] => rfl
  | p :: l => by simp [plains, plain, pd, plains_pd l]
theorem any_pd (p : Int × Int) : ∀ l : List (Int × Int), ((l.map pd).any fun x => eqv x (pd p)) = l.contains p
  | [] => rfl
  | q :: l => by
    rw [List.map_cons, List.any_cons, any_pd p l, eqv_pd, List.contains_cons]
    congr 1
    exact Bool.beq_comm
theorem dep_pd (p : Int × Int) : dep (pd p) = 1 := by simp [pd, dep, deps]
@[simp] theorem inT (p : Int × Int) (l : List (Int × Int)) : cmpD .isin (pd p) (.tup (l.map pd)) = some (l.contains p) := by
  simp only [cmpD, inD]
  rw [any_pd, plains_pd, dep_pd]
  simp [pd, plain, plains]
@[simp] theorem inL (p : Int × Int) (l : List (Int × Int)) : cmpD .isin (pd p) (.lst (l.map pd)) = some (l.contains p) := by
  simp only [cmpD, inD]
  rw [any_pd, plains_pd, dep_pd]
  simp [pd, plain, plains]
@[simp] theorem notinT (p : Int × Int) (l : List (Int × Int)) : cmpD .notin (pd p) (.tup (l.map pd)) = some (!l.contains p) := by
  have := inT p l
  simp only [cmpD] at this ⊢
  rw [this]; rfl
theorem inner (n : Nat) (B : List (Int × Int)) (t : D) (wd o7 way : Option D) : ∀ (l acc : List (Int × Int)) (o : Option D), acc.length + l.length ≤ 1000 → ∃ o',
    forL (.one 8) (evSs pg.tb (lev pg n) [.expr (.mm .append 6 (.cons (.var 8) .nil)), .ite (.cmp .isin (.cons (.var 8) (.cons (.var 2) .nil))) [.brk] []]) (l.map pd)
      [some towerS, some t, some (.tup (B.map pd)), some (.int 3), wd, way, some (.lst (acc.map pd)), o7, o] = .nx [some towerS, some t, some (.tup (B.map pd)), some (.int 3), wd, way, some (.lst ((acc ++ upto B l).map pd)), o7, o']
  | [], acc, o, _ => ⟨o, by simp [forL, upto]⟩
  | x :: l, acc, o, h => by
    have hl : acc.length + 1 ≤ 16777216 := by simp at h; omega
    have hb : evSs pg.tb (lev pg n) [.expr (.mm .append 6 (.cons (.var 8) .nil)), .ite (.cmp .isin (.cons (.var 8) (.cons (.var 2) .nil))) [.brk] []] [some towerS, some t, some (.tup (B.map pd)), some (.int 3), wd, way, some (.lst (acc.map pd)), o7, some (pd x)]
        = bif B.contains x then .brk [some towerS, some t, some (.tup (B.map pd)), some (.int 3), wd, way, some (.lst ((acc ++ [x]).map pd)), o7, some (pd x)] else .nx [some towerS, some t, some (.tup (B.map pd)), some (.int 3), wd, way, some (.lst ((acc ++ [x]).map pd)), o7, some (pd x)] := by
      walk_at "ev"
      have hl2 : acc.length ≤ 16777215 := by omega
      simp only [hl2, if_true]
      walk_at "ev"
    rw [List.map_cons, forL]
    simp only [bindT, Env.put, List.set]
    rw [hb]
    cases hc : B.contains x with
    | true => exact ⟨some (pd x), by simp only [cond_true, upto, hc]⟩
    | false =>
      obtain ⟨o', ho⟩ := inner n B t wd o7 way l (acc ++ [x]) (some (pd x)) (by simp at h ⊢; omega)
      refine ⟨o', ?_⟩
      simp only [cond_false, upto, hc]
      rw [ho]
      simp
end Bh.K16
/-! text K4 -/
set_option linter.all false
set_option maxRecDepth 100000
set_option Elab.async false
namespace Bh.K16
local macro_rules | `(tactic| walk_at "ev") => `(tactic| simp [startE, get_lit, Env.put, outsOf, okLen, setO, isNew, kindOf, z_nil, z_cons, z_set, z_thaw, z_bind, z_par2, z_expr, z_ret, z_retO, z_raise, z_ite, z_fors, z_whil, z_brk, z_cont, z_pass, y_var, y_con, y_glob, y_op, y_cmp, y_idx, y_chain, y_no, y_and, y_or, y_ite, y_tup, y_lst, y_bf, y_call, y_meth, y_fld, y_mm, y_nil, y_cons, y_seq, y_c0, y_c1, y_pick])
def leP (p q : Int × Int) : Bool := decide (p.1 < q.1) || (decide (p.1 = q.1) && decide (p.2 ≤ q.2))
def insP (x : Int × Int) : List (Int × Int) → List (Int × Int)
  | [] => [x]
  | y :: ys => if leP x y then x :: y :: ys else y :: insP x ys
def sortP : List (Int × Int) → List (Int × Int)
  | [] => []
  | x :: xs => insP x (sortP xs)
theorem leD_pd (p q : Int × Int) : leD (pd p) (pd q) = leP p q := by
  have h : ∀ a b : Int, (decide (a < b) = true ↔ a < b) := fun a b => decide_eq_true_iff
  simp only [leD, pd, toks, tokss, ltToks, ltTok, List.cons_append, List.nil_append, leP]
  by_cases h1 : p.1 < q.1
  · have : ¬ q.1 < p.1 := by omega
    simp [h1, this]
  · by_cases h2 : q.1 < p.1
    · have : p.1 ≠ q.1 := by omega
      simp [h1, h2, this]
    · have e : p.1 = q.1 := by omega
      by_cases h3 : p.2 ≤ q.2
      · have : ¬ q.2 < p.2 := by omega
        simp [h1, h2, e, h3, this]
      · have : q.2 < p.2 := by omega
        simp [h1, h2, e, h3, this]
theorem insD_pd (p : Int × Int) : ∀ l : List (Int × Int), insD (pd p) (l.map pd) = (insP p l).map pd
  | [] => rfl
  | q :: l => by
    simp only [List.map_cons, insD, insP, leD_pd, insD_pd p l]
    split <;> simp
theorem sortD_pd : ∀ l : List (Int × Int), sortD (l.map pd) = (sortP l).map pd
  | [] => rfl
  | q :: l => by rw [List.map_cons, sortD, sortD_pd l, insD_pd, sortP]
theorem alike_pd (p q : Int × Int) : alike (pd p) (pd q) = true := by simp [alike, alikes, pd]
theorem sortable_pd (l : List (Int × Int)) : sortable (l.map pd) = true := by
  have h1 : ∀ x ∈ l.map pd, ∃ p, x = pd p := fun x hx => by
    obtain ⟨p, _, rfl⟩ := List.mem_map.mp hx; exact ⟨p, rfl⟩
  simp only [sortable, Bool.and_eq_true, List.all_eq_true, decide_eq_true_eq, Bool.or_eq_true]
  refine ⟨⟨fun a ha b hb => ?_, fun a ha => ?_⟩, .inl fun a ha => ?_⟩
  · obtain ⟨p, rfl⟩ := h1 a ha; obtain ⟨q, rfl⟩ := h1 b hb; exact alike_pd p q
  · obtain ⟨p, rfl⟩ := h1 a ha; simp [pd, plain, plains, dep, deps]
  · obtain ⟨p, rfl⟩ := h1 a ha; rfl
@[simp] theorem bfSort (l : List (Int × Int)) : bfD .sorted [.lst (l.map pd)] = some (.lst ((sortP l).map pd)) := by
  simp [bfD, one1, itemsD, sortable_pd, sortD_pd]
@[simp] theorem bfSortT (l : List (Int × Int)) : bfD .sorted [.tup (l.map pd)] = some (.lst ((sortP l).map pd)) := by
  simp [bfD, one1, itemsD, sortable_pd, sortD_pd]
theorem towerIn : cmpD .notin towerS (.tup [.str [107, 105, 110, 103], .str [108, 101, 97, 112, 101, 114], .str [116, 111, 119, 101, 114], .str [115, 108, 97, 110, 116, 101, 114], .str [108, 97, 100, 121]]) = some false := by decide +kernel
def slants : List (Int × Int) := [(1, 1), (1, -1), (-1, -1), (-1, 1)]
theorem upto_len (B : List (Int × Int)) : ∀ l, (upto B l).length ≤ l.length
  | [] => by simp [upto]
  | x :: l => by
    have := upto_len B l
    rw [upto]
    cases B.contains x <;> simp <;> omega
theorem ray_len (w : Int) (t d : Int × Int) : (rayL w t d).length ≤ 4 := by
  unfold rayL
  refine Nat.le_trans (List.length_filter_le ..) (by simp)
theorem isOn_sq {w : Nat} (hw : w = 3 ∨ w = 4) {t : Int × Int} (ht : t ∈ sqI w) : isOn t 3 w = true := by
  have : ∀ t ∈ sqI w, isOn t 3 w = true := by rcases hw with rfl | rfl <;> decide +kernel
  exact this t ht
def innerB : List S := [.expr (.mm .append 6 (.cons (.var 8) .nil)), .ite (.cmp .isin (.cons (.var 8) (.cons (.var 2) .nil))) [.brk] []]
def outerB : List S := [.fors (.one 8) (.seq (.call 2 (.cons (.var 1) (.cons (.var 7) (.cons (.var 3) (.cons (.var 4) .nil)))))) innerB]
theorem outer (n : Nat) {w : Nat} (hw : w = 3 ∨ w = 4) {t : Int × Int} (ht : t ∈ sqI w) (B : List (Int × Int)) (way : Option D) : ∀ (ds acc : List (Int × Int)) (o7 o8 : Option D), (∀ d ∈ ds, d ∈ ways) → acc.length + 4 * ds.length ≤ 1000 → ∃ o7' o8',
    forL (.one 7) (evSs pg.tb (lev pg (n + 2)) outerB) (ds.map pd)
      [some towerS, some (pd t), some (.tup (B.map pd)), some (.int 3), some (.int w), way, some (.lst (acc.map pd)), o7, o8] = .nx [some towerS, some (pd t), some (.tup (B.map pd)), some (.int 3), some (.int w), way, some (.lst ((acc ++ ds.flatMap fun d => upto B (rayL w t d)).map pd)), o7', o8']
  | [], acc, o7, o8, _, _ => ⟨o7, o8, by simp [forL]⟩
  | d :: ds, acc, o7, o8, hd, h => by
    have hr := ray_len w t d
    obtain ⟨o', ho⟩ := inner (n + 2) B (pd t) (some (.int w)) (some (pd d)) way (rayL w t d) acc o8 (by simp at h; omega)
    have hb : evSs pg.tb (lev pg (n + 2)) outerB [some towerS, some (pd t), some (.tup (B.map pd)), some (.int 3), some (.int w), way, some (.lst (acc.map pd)), some (pd d), o8]
        = .nx [some towerS, some (pd t), some (.tup (B.map pd)), some (.int 3), some (.int w), way, some (.lst ((acc ++ upto B (rayL w t d)).map pd)), some (pd d), o'] := by
      unfold outerB
      walk_at "ev"
      rw [c2 n w hw ht (hd d (by simp))]
      simp [itemsD]
      have ho' : forL (T.one 8) (evSs pg.tb (lev pg (n + 2)) innerB) _ _ = _ := ho
      rw [ho']
      simp
    have hu := upto_len B (rayL w t d)
    obtain ⟨o7', o8', hx⟩ := outer n hw ht B way ds (acc ++ upto B (rayL w t d)) (some (pd d)) o' (fun y hy => hd y (by simp [hy])) (by simp at h ⊢; omega)
    refine ⟨o7', o8', ?_⟩
    rw [List.map_cons, forL]
    simp only [bindT, Env.put, List.set]
    rw [hb]
    simp only []
    rw [hx]
    simp
theorem c4T (n : Nat) {w : Nat} (hw : w = 3 ∨ w = 4) {t : Int × Int} (ht : t ∈ sqI w) (B : List (Int × Int)) : goesB n w towerS t B = .ok (.tup ((sortP (ways.flatMap fun d => upto B (rayL w t d))).map pd)) [] := by
  obtain ⟨o7', o8', hx⟩ := outer n hw ht B (some (.tup (ways.map pd))) ways [] none none (fun _ h => h) (by decide)
  unfold goesB
  rw [lev_call (df := d4) rfl rfl]
  simp only [d4, b4]
  have e1 : cmpD .eq towerS (.str [107, 105, 110, 103]) = some false := by decide +kernel
  have e2 : cmpD .eq towerS (.str [108, 101, 97, 112, 101, 114]) = some false := by decide +kernel
  have g3 : pg.tb.glob 3 = some (.tup [.str [107, 105, 110, 103], .str [108, 101, 97, 112, 101, 114], .str [116, 111, 119, 101, 114], .str [115, 108, 97, 110, 116, 101, 114], .str [108, 97, 100, 121]]) := rfl
  have g0 : pg.tb.glob 0 = some (.tup (ways.map pd)) := rfl
  have g1 : pg.tb.glob 1 = some (.tup (slants.map pd)) := rfl
  have l1 : ways.length = 4 := rfl
  have l2 : slants.length = 4 := rfl
  have pk : ∀ a b c, pickD [[116, 111, 119, 101, 114], [115, 108, 97, 110, 116, 101, 114], [108, 97, 100, 121]] [a, b, c] towerS = some a := fun a b c => rfl
  have ho : isOn t 3 w = true := isOn_sq hw ht
  have hx' : forL (T.one 7) (evSs pg.tb (lev pg (n + 2)) [S.fors (T.one 8) (It.seq (E.call 2 (Es.cons (E.var 1) (Es.cons (E.var 7) (Es.cons (E.var 3) (Es.cons (E.var 4) Es.nil)))))) [S.expr (E.mm Mm.append 6 (Es.cons (E.var 8) Es.nil)), S.ite (E.cmp Cm.isin (Es.cons (E.var 8) (Es.cons (E.var 2) Es.nil))) [S.brk] []]]) _ _ = _ := hx
  simp [startE, get_lit, Env.put, outsOf, okLen, setO, isNew, kindOf, z_nil, z_cons, z_set, z_thaw, z_bind, z_par2, z_expr, z_ret, z_retO, z_raise, z_ite, z_fors, z_whil, z_brk, z_cont, z_pass, y_var, y_con, y_glob, y_op, y_cmp, y_idx, y_chain, y_no, y_and, y_or, y_ite, y_tup, y_lst, y_bf, y_call, y_meth, y_fld, y_mm, y_nil, y_cons, y_seq, y_c0, y_c1, y_pick, e1, e2, g0, g1, g3, towerIn, c0, ho, l1, l2, pk]
  simp only [List.map_nil, List.nil_append] at hx'
  rw [hx']
  simp [get_lit, y_bf, y_cons, y_nil, z_nil, outsOf]
end Bh.K16
/-! text K5 -/
set_option linter.all false
set_option maxRecDepth 100000
set_option Elab.async false
namespace Bh.K16
local macro_rules | `(tactic| walk_at "ev") => `(tactic| simp [startE, get_lit, Env.put, outsOf, okLen, setO, isNew, kindOf, z_nil, z_cons, z_set, z_thaw, z_bind, z_par2, z_expr, z_ret, z_retO, z_raise, z_ite, z_fors, z_whil, z_brk, z_cont, z_pass, y_var, y_con, y_glob, y_op, y_cmp, y_idx, y_chain, y_no, y_and, y_or, y_ite, y_tup, y_lst, y_bf, y_call, y_meth, y_fld, y_mm, y_nil, y_cons, y_seq, y_c0, y_c1, y_pick])
def tw (w : Nat) (t : Int × Int) (B : List (Int × Int)) : List (Int × Int) := sortP (ways.flatMap fun d => upto B (rayL w t d))
def eqI (i j : Int) : Bool := match i, j with
  | .ofNat a, .ofNat b => a == b
  | .negSucc a, .negSucc b => a == b
  | _, _ => false
theorem eqI_eq {i j : Int} (h : eqI i j = true) : i = j := by
  unfold eqI at h
  split at h <;> simp_all
def eqPs : List (Int × Int) → List (Int × Int) → Bool
  | [], [] => true
  | x :: xs, y :: ys => eqI x.1 y.1 && eqI x.2 y.2 && eqPs xs ys
  | _, _ => false
theorem eqPs_eq : ∀ {xs ys : List (Int × Int)}, eqPs xs ys = true → xs = ys
  | [], [], _ => rfl
  | x :: xs, y :: ys, h => by
    simp only [eqPs, Bool.and_eq_true] at h
    obtain ⟨⟨h1, h2⟩, h3⟩ := h
    rw [eqPs_eq h3, show x = y from Prod.ext (eqI_eq h1) (eqI_eq h2)]
  | [], _ :: _, h => by simp [eqPs] at h
  | _ :: _, [], h => by simp [eqPs] at h
theorem t31 : ((sqI 3).all fun t => (sqI 3).all fun k => eqPs (tw 3 t [k]) ((sqI 3).filter (reach t [k]))) = true := by kernel_rfl
theorem t32 : ((sqI 3).all fun t => (sqI 3).all fun k => ((sqI 3).all fun b => eqPs (tw 3 t [k, b]) ((sqI 3).filter (reach t [k, b])))) = true := by kernel_rfl
theorem t41 : ((sqI 4).all fun t => (sqI 4).all fun k => eqPs (tw 4 t [k]) ((sqI 4).filter (reach t [k]))) = true := by kernel_rfl
theorem t42 : ((sqI 4).all fun t => (sqI 4).all fun k => ((sqI 4).all fun b => eqPs (tw 4 t [k, b]) ((sqI 4).filter (reach t [k, b])))) = true := by kernel_rfl
section
variable {w : Nat} (hw : w = 3 ∨ w = 4)
include hw
theorem tw1 {t k : Int × Int} (ht : t ∈ sqI w) (hk : k ∈ sqI w) : tw w t [k] = (sqI w).filter (reach t [k]) := by
  rcases hw with rfl | rfl
  · exact eqPs_eq (List.all_eq_true.mp (List.all_eq_true.mp t31 t ht) k hk)
  · exact eqPs_eq (List.all_eq_true.mp (List.all_eq_true.mp t41 t ht) k hk)
theorem tw2 {t k b : Int × Int} (ht : t ∈ sqI w) (hk : k ∈ sqI w) (hb : b ∈ sqI w) : tw w t [k, b] = (sqI w).filter (reach t [k, b]) := by
  rcases hw with rfl | rfl
  · exact eqPs_eq (List.all_eq_true.mp (List.all_eq_true.mp (List.all_eq_true.mp t32 t ht) k hk) b hb)
  · exact eqPs_eq (List.all_eq_true.mp (List.all_eq_true.mp (List.all_eq_true.mp t42 t ht) k hk) b hb)
theorem c4K (n : Nat) {t : Int × Int} (ht : t ∈ sqI w) : (lev pg (n + 3)).c 0 4 [.str [107, 105, 110, 103], pd t, .tup [], .int 3, .int w] = .ok (.tup (((sqI w).filter fun one => ap one t == 1).map pd)) [] := by
  rcases hw with rfl | rfl
  · exact chk_eq (List.all_eq_true.mp (king3 n) t ht)
  · exact chk_eq (List.all_eq_true.mp (king4 n) t ht)
theorem c4T1 (n : Nat) {t k : Int × Int} (ht : t ∈ sqI w) (hk : k ∈ sqI w) : (lev pg (n + 3)).c 0 4 [.str [116, 111, 119, 101, 114], pd t, .tup [pd k], .int 3, .int w] = .ok (.tup (((sqI w).filter (reach t [k])).map pd)) [] := by
  rw [← tw1 hw ht hk]
  exact c4T n hw ht [k]
theorem c4T2 (n : Nat) {t k b : Int × Int} (ht : t ∈ sqI w) (hk : k ∈ sqI w) (hb : b ∈ sqI w) : (lev pg (n + 3)).c 0 4 [.str [116, 111, 119, 101, 114], pd t, .tup [pd k, pd b], .int 3, .int w] = .ok (.tup (((sqI w).filter (reach t [k, b])).map pd)) [] := by
  rw [← tw2 hw ht hk hb]
  exact c4T n hw ht [k, b]
end
def hD (w : Nat) : D := .obj 8 [(0, .int 3), (1, .int w)]
theorem fl0 (w : Nat) (env : Env) : fldK pg.tb 0 [hD w] env = .ok (.int 3) env := rfl
theorem fl1 (w : Nat) (env : Env) : fldK pg.tb 1 [hD w] env = .ok (.int w) env := rfl
theorem idxT1 (a b : D) : idxD (.tup [a, b]) (.int 1) = some b := by simp [idxD, atI, ixN]
def att (k t s : Int × Int) : Bool := ap k s == 1 || reach t [k] s
theorem fcont {l : List (Int × Int)} {f : Int × Int → Bool} {s : Int × Int} (h : s ∈ l) : (l.filter f).contains s = f s := by
  rw [Bool.eq_iff_iff, List.contains_iff_mem, List.mem_filter]
  simp [h]
theorem c6 (n : Nat) {w : Nat} (hw : w = 3 ∨ w = 4) {k t s : Int × Int} (hk : k ∈ sqI w) (ht : t ∈ sqI w) (hs : s ∈ sqI w) : (lev pg (n + 4)).c 0 6 [hD w, pd k, pd t, pd s] = .ok (.bl (att k t s)) [] := by
  rw [lev_call (df := d6) rfl rfl]
  simp only [d6, b6]
  simp [startE, get_lit, Env.put, outsOf, okLen, z_nil, z_cons, z_ret, z_ite, y_var, y_con, y_cmp, y_idx, y_tup, y_call, y_fld, y_nil, y_cons, c3, idxT1, fl0, fl1, c4T1 hw (n) ht hk, fcont hs]
  unfold att
  cases ap k s == 1 <;> simp [outsOf]
  exact fun _ => hs
end Bh.K16
/-! text K6 -/
set_option linter.all false
set_option maxRecDepth 100000
set_option Elab.async false
namespace Bh.K16
theorem bindT4 (a b c d : D) (i j k l : Nat) (env : Env) : bindT (.many [i, j, k, l]) (.tup [a, b, c, d]) env = some ((((env.put i a).put j b).put k c).put l d) := by
  simp [bindT, itemsD]
theorem keyT_pd (p : Int × Int) : keyT (pd p) = true := by simp [keyT, pd, isTup, keyOk, keyOks, dep, deps]
theorem dict3 (k t b : Int × Int) : ∃ kvs, bfD .dict [.lst [.tup [pd k, .int 1], .tup [pd t, .int 1], .tup [pd b, .int 1]]] = some (.dct kvs) ∧ decide ((kvs.length : Int) < 3) = (k == t || k == b || t == b) := by
  simp only [bfD, one1, dictD, dmkT, keyT_pd, if_true, dput, eqv_pd]
  by_cases h1 : k = t
  · subst h1
    by_cases h2 : k = b
    · subst h2; exact ⟨_, rfl, by simp [dput, eqv_pd]⟩
    · have : (k == b) = false := by simp [h2]
      simp only [this, beq_self_eq_true, if_true, dput, eqv_pd]
      exact ⟨_, rfl, by simp⟩
  · have h1' : (k == t) = false := by simp [h1]
    simp only [h1', if_false, dput, eqv_pd, Bool.false_eq_true]
    by_cases h2 : k = b
    · subst h2; simp only [beq_self_eq_true, if_true]; exact ⟨_, rfl, by simp⟩
    · have h2' : (k == b) = false := by simp [h2]
      simp only [h2', if_false, Bool.false_eq_true]
      by_cases h3 : t = b
      · subst h3; simp only [beq_self_eq_true, if_true]; exact ⟨_, rfl, by simp⟩
      · have h3' : (t == b) = false := by simp [h3]
        simp only [h3', if_false, Bool.false_eq_true]
        exact ⟨_, rfl, by simp⟩
def wS : List Nat := [119]
def bS : List Nat := [98]
def letP (tn : List Nat) (k t b : Int × Int) : Bool := !(k == t || k == b || t == b || decide (ap k b < 2)) && (tn == bS || !att k t b)
theorem meth0 : pg.tb.meth 8 0 = some 6 := rfl
theorem meth1 : pg.tb.meth 8 1 = some 7 := rfl
theorem meth2 : pg.tb.meth 8 2 = some 8 := rfl
theorem meth3 : pg.tb.meth 8 3 = some 9 := rfl
theorem meth4 : pg.tb.meth 8 4 = some 10 := rfl
theorem meth5 : pg.tb.meth 8 5 = some 11 := rfl
theorem objD (w : Nat) (k : Nat → List (Nat × D) → R D) : onObj (hD w) k = k 8 [(0, .int 3), (1, .int w)] := rfl
theorem hD_eq (w : Nat) : D.obj 8 [(0, .int 3), (1, .int w)] = hD w := rfl
theorem len_dct (kvs : List (D × D)) : bfD .len [.dct kvs] = some (.int kvs.length) := rfl
theorem c7 (n : Nat) {w : Nat} (hw : w = 3 ∨ w = 4) (tn : List Nat) {k t b : Int × Int} (hk : k ∈ sqI w) (ht : t ∈ sqI w) (hb : b ∈ sqI w) : (lev pg (n + 5)).c 0 7 [hD w, .tup [.str tn, pd k, pd t, pd b]] = .ok (.bl (letP tn k t b)) [] := by
  obtain ⟨kvs, h1, h2⟩ := dict3 k t b
  rw [lev_call (df := d7) rfl rfl]
  simp only [d7, b7]
  simp [startE, get_lit, Env.put, outsOf, okLen, z_nil, z_cons, z_ret, z_ite, z_bind, bindT4, y_var, y_con, y_cmp, y_idx, y_tup, y_call, y_bf, y_or, y_no, y_meth, y_nil, y_cons, evE_lc, y_seq, y_lcTurn, y_c0, lcLoop, bindT, Env.wipe, Env.back, T.slots, h1, c3, c6 n hw hk ht hb, idxT1, objD, meth0, len_dct]
  simp only [h2, hD_eq, c6 n hw hk ht hb]
  simp
  unfold letP bS
  cases (k == t || k == b || t == b) <;> cases decide (ap k b < 2) <;> simp [outsOf]
  cases tn == [98] <;> simp
def mn3 (a b c : Int) : Int := if c < (if b < a then b else a) then c else (if b < a then b else a)
def mx3 (a b c : Int) : Int := if c > (if b > a then b else a) then c else (if b > a then b else a)
theorem bfMin3 (a b c : Int) : bfD .min [.lst [.int a, .int b, .int c]] = some (.int (mn3 a b c)) := rfl
theorem bfMax3 (a b c : Int) : bfD .max [.lst [.int a, .int b, .int c]] = some (.int (mx3 a b c)) := rfl
theorem insP_len (x : Int × Int) : ∀ l, (insP x l).length = l.length + 1
  | [] => rfl
  | y :: l => by rw [insP]; split <;> simp [insP_len x l]
theorem sortP_len : ∀ l, (sortP l).length = l.length
  | [] => rfl
  | x :: l => by rw [sortP, insP_len, sortP_len l]; simp
def mid (a b c : Int × Int) : Int × Int := ((sortP [a, b, c])[1]?).getD a
theorem sort3 (a b c : Int × Int) : ∃ l, bfD .sorted [.lst [pd a, pd b, pd c]] = some (.lst l) ∧ idxD (.lst l) (.int 1) = some (pd (mid a b c)) := by
  refine ⟨_, bfSort [a, b, c], ?_⟩
  have hl := sortP_len [a, b, c]
  unfold mid
  generalize sortP [a, b, c] = s at hl ⊢
  match s, hl with
  | [x, y, z], _ => simp [idxD, atI, ixN]
def dg (k t s : Int × Int) : Bool := ap k s == 1 || ((t.1 == s.1 || t.2 == s.2) && (t != s && !(mid t k s == k && (mn3 t.1 k.1 s.1 == mx3 t.1 k.1 s.1 || mn3 t.2 k.2 s.2 == mx3 t.2 k.2 s.2))))
theorem c17 (n : Nat) (k t s : Int × Int) : (lev pg (n + 2)).c 0 17 [pd k, pd t, pd s] = .ok (.bl (dg k t s)) [] := by
  obtain ⟨l, h1, h2⟩ := sort3 t k s
  rw [lev_call (df := d17) rfl rfl]
  simp only [d17, b17]
  simp [startE, get_lit, Env.put, outsOf, okLen, setO, z_nil, z_cons, z_ret, z_set, z_par2, y_var, y_con, y_cmp, y_idx, y_lst, y_call, y_bf, y_or, y_and, y_no, y_nil, y_cons, h1, h2, c16, bfMin3, bfMax3]
  simp [dg]
theorem dg3 : ((sqI 3).all fun k => (sqI 3).all fun t => (sqI 3).all fun s => k == t || k == s || t == s || dg k t s == att k t s) = true := by kernel_rfl
theorem dg4 : ((sqI 4).all fun k => (sqI 4).all fun t => (sqI 4).all fun s => k == t || k == s || t == s || dg k t s == att k t s) = true := by kernel_rfl
theorem dg_att {w : Nat} (hw : w = 3 ∨ w = 4) {k t s : Int × Int} (hk : k ∈ sqI w) (ht : t ∈ sqI w) (hs : s ∈ sqI w) (h1 : k ≠ t) (h2 : k ≠ s) (h3 : t ≠ s) : dg k t s = att k t s := by
  have : (k == t || k == s || t == s || dg k t s == att k t s) = true := by
    rcases hw with rfl | rfl
    · exact List.all_eq_true.mp (List.all_eq_true.mp (List.all_eq_true.mp dg3 k hk) t ht) s hs
    · exact List.all_eq_true.mp (List.all_eq_true.mp (List.all_eq_true.mp dg4 k hk) t ht) s hs
  simpa [h1, h2, h3] using this
theorem c18 (n : Nat) {w : Nat} (hw : w = 3 ∨ w = 4) (tn : List Nat) {k t b : Int × Int} (hk : k ∈ sqI w) (ht : t ∈ sqI w) (hb : b ∈ sqI w) : (lev pg (n + 3)).c 0 18 [.str tn, pd k, pd t, pd b] = .ok (.bl (letP tn k t b)) [] := by
  rw [lev_call (df := d18) rfl rfl]
  simp only [d18, b18]
  simp [startE, get_lit, Env.put, outsOf, okLen, z_nil, z_cons, z_ret, z_ite, y_var, y_con, y_cmp, y_call, y_or, y_no, y_nil, y_cons, c16, c17]
  unfold letP bS
  by_cases h1 : k = t
  · simp [h1, outsOf]
  · by_cases h2 : k = b
    · simp [h2, outsOf]
    · by_cases h3 : t = b
      · simp [h3, outsOf]
      · rw [dg_att hw hk ht hb h1 h2 h3]
        have e1 : (k == t) = false := by simp [h1]
        have e2 : (k == b) = false := by simp [h2]
        have e3 : (t == b) = false := by simp [h3]
        simp only [e1, e2, e3]
        cases decide (ap k b < 2) <;> cases tn == [98] <;> simp [outsOf]
end Bh.K16
/-! text K7 -/
set_option linter.all false
set_option maxRecDepth 100000
set_option Elab.async false
namespace Bh.K16
/-- what white's king may do -/
def wk (w : Nat) (k t b : Int × Int) : List D := (((sqI w).filter fun one => ap one k == 1).filter fun s => s != t && letP bS s t b).map fun s => .tup [.str bS, pd s, pd t, pd b]
def wt (w : Nat) (k t b : Int × Int) : List D := (((sqI w).filter (reach t [k, b])).filter fun s => !(s == k || s == b)).map fun s => .tup [.str bS, pd k, pd s, pd b]
def bm (k t : Int × Int) (s : Int × Int) : List D := if s = t then (if 1 < ap k s then [.tup [.str [45]]] else []) else if s ≠ k ∧ letP wS k t s = true then [.tup [.str wS, pd k, pd t, pd s]] else []
def mvs (w : Nat) (tn : List Nat) (k t b : Int × Int) : List D := if tn = wS then wk w k t b ++ wt w k t b else ((sqI w).filter fun one => ap one b == 1).flatMap (bm k t)
def wl1 : List S := [.set 8 (.tup (.cons (.con (.str [98])) (.cons (.var 3) (.cons (.var 6) (.cons (.var 7) .nil))))), .ite (.and (.cmp .ne (.cons (.var 3) (.cons (.var 6) .nil))) (.meth 1 (.var 0) (.cons (.var 8) .nil))) [.expr (.mm .append 2 (.cons (.var 8) .nil))] []]
theorem loop1 (n : Nat) {w : Nat} (hw : w = 3 ∨ w = 4) (pl tn : Option D) {k t b : Int × Int} (hk : k ∈ sqI w) (ht : t ∈ sqI w) (hb : b ∈ sqI w) : ∀ (l : List (Int × Int)) (acc : List D) (o3 o8 : Option D), (∀ x ∈ l, x ∈ sqI w) → acc.length + l.length ≤ 1000 → ∃ o3' o8',
    forL (.one 3) (evSs pg.tb (lev pg (n + 5)) wl1) (l.map pd) [some (hD w), pl, some (.lst acc), o3, tn, some (pd k), some (pd t), some (pd b), o8] =
      .nx [some (hD w), pl, some (.lst (acc ++ (l.filter fun s => s != t && letP bS s t b).map fun s => .tup [.str bS, pd s, pd t, pd b])), o3', tn, some (pd k), some (pd t), some (pd b), o8']
  | [], acc, o3, o8, _, _ => ⟨o3, o8, by simp [forL]⟩
  | x :: l, acc, o3, o8, hm, hl => by
    have hl1 : acc.length + 1 ≤ 16777216 := by simp at hl; omega
    have hx := hm x (by simp)
    have e7 := c7 n hw [98] hx ht hb
    have hbd : evSs pg.tb (lev pg (n + 5)) wl1 [some (hD w), pl, some (.lst acc), some (pd x), tn, some (pd k), some (pd t), some (pd b), o8] =
      .nx [some (hD w), pl, some (.lst (acc ++ (if (x != t && letP bS x t b) = true then [.tup [.str bS, pd x, pd t, pd b]] else []))), some (pd x), tn, some (pd k), some (pd t), some (pd b), some (.tup [.str bS, pd x, pd t, pd b])] := by
      unfold wl1
      simp [get_lit, Env.put, okLen, z_nil, z_cons, z_set, z_expr, z_ite, y_var, y_con, y_cmp, y_tup, y_and, y_meth, y_nil, y_cons, y_mm, objD, meth1, hD_eq, e7, hl1]
      unfold bS
      by_cases h1 : x = t
      · simp [h1]
      · have h1' : (x != t) = true := by simp [h1]
        cases h2 : letP [98] x t b <;> simp [h1', h1]
    obtain ⟨o3', o8', ih⟩ := loop1 n hw pl tn hk ht hb l (acc ++ (if (x != t && letP bS x t b) = true then [.tup [.str bS, pd x, pd t, pd b]] else [])) (some (pd x)) (some (.tup [.str bS, pd x, pd t, pd b])) (fun y hy => hm y (by simp [hy])) (by
      simp at hl ⊢
      split <;> simp <;> omega)
    refine ⟨o3', o8', ?_⟩
    rw [List.map_cons, forL]
    simp only [bindT, Env.put, List.set]
    rw [hbd]
    simp only []
    rw [ih]
    simp only [List.filter_cons]
    cases (x != t && letP bS x t b) <;> simp
def wl2 : List S := [.ite (.cmp .notin (.cons (.var 3) (.cons (.tup (.cons (.var 5) (.cons (.var 7) .nil))) .nil))) [.expr (.mm .append 2 (.cons (.tup (.cons (.con (.str [98])) (.cons (.var 5) (.cons (.var 3) (.cons (.var 7) .nil))))) .nil))] []]
theorem loop2 (n : Nat) {w : Nat} (hw : w = 3 ∨ w = 4) (pl tn o6 o8 : Option D) (k b : Int × Int) : ∀ (l : List (Int × Int)) (acc : List D) (o3 : Option D), acc.length + l.length ≤ 1000 → ∃ o3',
    forL (.one 3) (evSs pg.tb (lev pg n) wl2) (l.map pd) [some (hD w), pl, some (.lst acc), o3, tn, some (pd k), o6, some (pd b), o8] =
      .nx [some (hD w), pl, some (.lst (acc ++ (l.filter fun s => !(s == k || s == b)).map fun s => .tup [.str bS, pd k, pd s, pd b])), o3', tn, some (pd k), o6, some (pd b), o8]
  | [], acc, o3, _ => ⟨o3, by simp [forL]⟩
  | x :: l, acc, o3, hl => by
    have hl1 : acc.length + 1 ≤ 16777216 := by simp at hl; omega
    have hni := notinT x [k, b]
    simp only [List.map_cons, List.map_nil] at hni
    have hbd : evSs pg.tb (lev pg n) wl2 [some (hD w), pl, some (.lst acc), some (pd x), tn, some (pd k), o6, some (pd b), o8] =
      .nx [some (hD w), pl, some (.lst (acc ++ (if (!(x == k || x == b)) = true then [.tup [.str bS, pd k, pd x, pd b]] else []))), some (pd x), tn, some (pd k), o6, some (pd b), o8] := by
      unfold wl2
      simp [get_lit, Env.put, okLen, z_nil, z_cons, z_set, z_expr, z_ite, y_var, y_con, y_cmp, y_tup, y_nil, y_cons, y_mm, hl1, hni]
      unfold bS
      by_cases h1 : x = k <;> by_cases h2 : x = b <;> simp [h1, h2]
    obtain ⟨o3', ih⟩ := loop2 n hw pl tn o6 o8 k b l (acc ++ (if (!(x == k || x == b)) = true then [.tup [.str bS, pd k, pd x, pd b]] else [])) (some (pd x)) (by
      simp at hl ⊢
      split <;> simp <;> omega)
    refine ⟨o3', ?_⟩
    rw [List.map_cons, forL]
    simp only [bindT, Env.put, List.set]
    rw [hbd]
    simp only []
    rw [ih]
    simp only [List.filter_cons]
    cases (!(x == k || x == b)) <;> simp
def bl1 : List S := [.ite (.cmp .eq (.cons (.var 3) (.cons (.var 6) .nil))) [.ite (.cmp .gt (.cons (.idx (.cons (.call 3 (.cons (.var 5) (.cons (.var 3) .nil))) (.cons (.con (.int 1)) .nil))) (.cons (.con (.int 1)) .nil))) [.expr (.mm .append 2 (.cons (.tup (.cons (.con (.str [45])) .nil)) .nil))] []] [.ite (.and (.cmp .ne (.cons (.var 3) (.cons (.var 5) .nil))) (.meth 1 (.var 0) (.cons (.tup (.cons (.con (.str [119])) (.cons (.var 5) (.cons (.var 6) (.cons (.var 3) .nil))))) .nil))) [.expr (.mm .append 2 (.cons (.tup (.cons (.con (.str [119])) (.cons (.var 5) (.cons (.var 6) (.cons (.var 3) .nil))))) .nil))] []]]
theorem bm_len (k t s : Int × Int) : (bm k t s).length ≤ 1 := by unfold bm; split <;> split <;> simp
theorem loop3 (n : Nat) {w : Nat} (hw : w = 3 ∨ w = 4) (pl tn o7 o8 : Option D) {k t : Int × Int} (hk : k ∈ sqI w) (ht : t ∈ sqI w) : ∀ (l : List (Int × Int)) (acc : List D) (o3 : Option D), (∀ x ∈ l, x ∈ sqI w) → acc.length + l.length ≤ 1000 → ∃ o3',
    forL (.one 3) (evSs pg.tb (lev pg (n + 5)) bl1) (l.map pd) [some (hD w), pl, some (.lst acc), o3, tn, some (pd k), some (pd t), o7, o8] =
      .nx [some (hD w), pl, some (.lst (acc ++ l.flatMap (bm k t))), o3', tn, some (pd k), some (pd t), o7, o8]
  | [], acc, o3, _, _ => ⟨o3, by simp [forL]⟩
  | x :: l, acc, o3, hm, hl => by
    have hl1 : acc.length + 1 ≤ 16777216 := by simp at hl; omega
    have hx := hm x (by simp)
    have e7 := c7 n hw [119] hk ht hx
    have hbd : evSs pg.tb (lev pg (n + 5)) bl1 [some (hD w), pl, some (.lst acc), some (pd x), tn, some (pd k), some (pd t), o7, o8] =
      .nx [some (hD w), pl, some (.lst (acc ++ bm k t x)), some (pd x), tn, some (pd k), some (pd t), o7, o8] := by
      unfold bl1
      simp [get_lit, Env.put, okLen, z_nil, z_cons, z_set, z_expr, z_ite, y_var, y_con, y_cmp, y_idx, y_call, y_tup, y_and, y_meth, y_nil, y_cons, y_mm, objD, meth1, hD_eq, e7, hl1, c3, idxT1]
      unfold bm wS
      by_cases h1 : x = t
      · by_cases h2 : 1 < ap k x <;> simp [h1, h2] <;> simp [← h1, h2]
      · have h1' : (x == t) = false := by simp [h1]
        simp only [h1', cond_false, if_neg h1]
        by_cases h2 : x = k
        · simp [h2]
        · have h2' : (x != k) = true := by simp [h2]
          simp only [h2', Bool.true_and]
          cases h3 : letP [119] k t x <;> simp [h2]
    have hb1 := bm_len k t x
    obtain ⟨o3', ih⟩ := loop3 n hw pl tn o7 o8 hk ht l (acc ++ bm k t x) (some (pd x)) (fun y hy => hm y (by simp [hy])) (by
      simp at hl ⊢
      omega)
    refine ⟨o3', ?_⟩
    rw [List.map_cons, forL]
    simp only [bindT, Env.put, List.set]
    rw [hbd]
    simp only []
    rw [ih]
    simp
theorem filt_sq {w : Nat} {f : Int × Int → Bool} : ∀ x ∈ (sqI w).filter f, x ∈ sqI w := fun x hx => (List.mem_filter.mp hx).1
theorem sq_len {w : Nat} (hw : w = 3 ∨ w = 4) : (sqI w).length ≤ 12 := by rcases hw with rfl | rfl <;> decide
theorem filt_len {w : Nat} (hw : w = 3 ∨ w = 4) (f : Int × Int → Bool) : ((sqI w).filter f).length ≤ 12 := Nat.le_trans (List.length_filter_le ..) (sq_len hw)
theorem c8w (n : Nat) {w : Nat} (hw : w = 3 ∨ w = 4) {k t b : Int × Int} (hk : k ∈ sqI w) (ht : t ∈ sqI w) (hb : b ∈ sqI w) (hl : letP wS k t b = true) : (lev pg (n + 6)).c 0 8 [hD w, .tup [.str wS, pd k, pd t, pd b]] = .ok (.tup (mvs w wS k t b)) [] := by
  have f1 := filt_len hw fun one => ap one k == 1
  obtain ⟨o3, o8, h1⟩ := loop1 n hw (some (.tup [.str wS, pd k, pd t, pd b])) (some (.str wS)) hk ht hb ((sqI w).filter fun one => ap one k == 1) [] none none filt_sq (by simp; omega)
  have f2 : (wk w k t b).length ≤ 12 := by
    unfold wk; rw [List.length_map]; exact Nat.le_trans (List.length_filter_le ..) f1
  have f3 := filt_len hw (reach t [k, b])
  obtain ⟨o3', h2⟩ := loop2 (n + 5) hw (some (.tup [.str wS, pd k, pd t, pd b])) (some (.str wS)) (some (pd t)) o8 k b ((sqI w).filter (reach t [k, b])) (wk w k t b) o3 (by omega)
  have e7 := c7 n hw wS hk ht hb
  rw [hl] at e7
  rw [lev_call (df := d8) rfl rfl]
  simp only [d8, b8]
  simp only [wl1, List.nil_append] at h1
  simp only [wl2] at h2
  have hwk : List.map (fun s => D.tup [.str bS, pd s, pd t, pd b]) (List.filter (fun s => s != t && letP bS s t b) ((sqI w).filter fun one => ap one k == 1)) = wk w k t b := rfl
  have hwt : List.map (fun s => D.tup [.str bS, pd k, pd s, pd b]) (List.filter (fun s => !(s == k || s == b)) ((sqI w).filter (reach t [k, b]))) = wt w k t b := rfl
  rw [hwk] at h1
  rw [hwt] at h2
  simp [startE, get_lit, Env.put, outsOf, okLen, setO, isNew, kindOf, z_nil, z_cons, z_ret, z_thaw, z_ite, z_bind, bindT4, z_fors, y_var, y_con, y_cmp, y_tup, y_lst, y_bf, y_no, y_call, y_meth, y_fld, y_nil, y_cons, y_seq, objD, meth1, hD_eq, fl0, fl1, e7]
  have hww : (wS == [119]) = true := rfl
  simp only [hww, cond_true]
  rw [c4K hw (n + 2) hk]
  simp [fl0, fl1]
  rw [h1]
  simp [get_lit, y_call, y_cons, y_nil, y_con, y_var, y_tup, y_fld, fl0, fl1, okLen]
  rw [c4T2 hw (n + 2) ht hk hb]
  simp
  rw [h2]
  simp [get_lit, y_bf, y_cons, y_nil, outsOf]
  simp [mvs]
theorem c8b (n : Nat) {w : Nat} (hw : w = 3 ∨ w = 4) {k t b : Int × Int} (hk : k ∈ sqI w) (ht : t ∈ sqI w) (hb : b ∈ sqI w) (hl : letP bS k t b = true) : (lev pg (n + 6)).c 0 8 [hD w, .tup [.str bS, pd k, pd t, pd b]] = .ok (.tup (mvs w bS k t b)) [] := by
  have f1 := filt_len hw fun one => ap one b == 1
  obtain ⟨o3, h1⟩ := loop3 n hw (some (.tup [.str bS, pd k, pd t, pd b])) (some (.str bS)) (some (pd b)) none hk ht ((sqI w).filter fun one => ap one b == 1) [] none filt_sq (by simp; omega)
  have e7 := c7 n hw bS hk ht hb
  rw [hl] at e7
  rw [lev_call (df := d8) rfl rfl]
  simp only [d8, b8]
  simp only [bl1, List.nil_append] at h1
  simp [startE, get_lit, Env.put, outsOf, okLen, setO, isNew, kindOf, z_nil, z_cons, z_ret, z_thaw, z_ite, z_bind, bindT4, z_fors, y_var, y_con, y_cmp, y_tup, y_lst, y_bf, y_no, y_call, y_meth, y_fld, y_nil, y_cons, y_seq, objD, meth1, hD_eq, fl0, fl1, e7]
  have hww : (bS == [119]) = false := rfl
  simp only [hww, cond_false]
  rw [c4K hw (n + 2) hb]
  simp [fl0, fl1]
  rw [h1]
  simp [get_lit, y_bf, y_cons, y_nil, outsOf]
  have hwb : ¬ bS = wS := by decide
  simp [mvs, hwb]
theorem c8x (n : Nat) {w : Nat} (hw : w = 3 ∨ w = 4) (tn : List Nat) {k t b : Int × Int} (hk : k ∈ sqI w) (ht : t ∈ sqI w) (hb : b ∈ sqI w) (hl : letP tn k t b = false) : (lev pg (n + 6)).c 0 8 [hD w, .tup [.str tn, pd k, pd t, pd b]] = .exc 2 [] := by
  have e7 := c7 n hw tn hk ht hb
  rw [hl] at e7
  rw [lev_call (df := d8) rfl rfl]
  simp only [d8, b8]
  simp [startE, get_lit, Env.put, outsOf, okLen, setO, isNew, kindOf, z_nil, z_cons, z_ite, z_raise, y_var, y_no, y_meth, y_nil, y_cons, objD, meth1, hD_eq, e7]
end Bh.K16
/-! text K8 -/
set_option linter.all false
set_option maxRecDepth 100000
set_option Elab.async false
namespace Bh
mutual
theorem eqv_refl : ∀ d : D, plain d = true → eqv d d = true
  | .non, _ => by simp [eqv]
  | .bl _, _ => by simp [eqv]
  | .int _, _ => by simp [eqv]
  | .str _, _ => by simp [eqv]
  | .tup xs, h => by simp only [plain] at h; simp only [eqv]; exact eqvs_refl xs h
  | .lst xs, h => by simp only [plain] at h; simp only [eqv]; exact eqvs_refl xs h
  | .dct _, h => by simp [plain] at h
  | .obj _ _, h => by simp [plain] at h
theorem eqvs_refl : ∀ ds : List D, plains ds = true → eqvs ds ds = true
  | [], _ => by simp [eqvs]
  | d :: ds, h => by
    simp only [plains, Bool.and_eq_true] at h
    simp only [eqvs, eqv_refl d h.1, eqvs_refl ds h.2, Bool.and_self]
end
/-- plain, and not deeper than n -/
def flatD (n : Nat) (d : D) : Prop := plain d = true ∧ dep d ≤ n
theorem flat_int {n : Nat} {i : Int} : flatD n (.int i) := ⟨by simp [plain], by simp [dep]⟩
theorem flat_str {n : Nat} {i : List Nat} : flatD n (.str i) := ⟨by simp [plain], by simp [dep]⟩
theorem flats {n : Nat} : ∀ {ds : List D}, (∀ d ∈ ds, flatD n d) → plains ds = true ∧ deps ds ≤ n
  | [], _ => ⟨by simp [plains], by simp [deps]⟩
  | d :: ds, h => by
    obtain ⟨h1, h2⟩ := h d (by simp)
    obtain ⟨h3, h4⟩ := flats (ds := ds) fun e he => h e (by simp [he])
    exact ⟨by simp [plains, h1, h3], by simp [deps]; omega⟩
theorem flat_tup {n : Nat} {ds : List D} (h : ∀ d ∈ ds, flatD n d) : flatD (n + 1) (.tup ds) := by
  obtain ⟨h1, h2⟩ := flats h; exact ⟨by simp [plain, h1], by simp [dep]; omega⟩
theorem flat_lst {n : Nat} {ds : List D} (h : ∀ d ∈ ds, flatD n d) : flatD (n + 1) (.lst ds) := by
  obtain ⟨h1, h2⟩ := flats h; exact ⟨by simp [plain, h1], by simp [dep]; omega⟩
theorem ne_self {d : D} (h : flatD 100 d) : cmpD .ne d d = some false := by
  obtain ⟨h1, h2⟩ := h
  simp [cmpD, eqOk, h1, h2, eqv_refl d h1]
theorem eq_flat {a b : D} (h : flatD 100 a) (g : flatD 100 b) : cmpD .eq a b = some (eqv a b) := by
  have h2 := h.2; have g2 := g.2; have : min (dep a) (dep b) ≤ 100 := by omega
  simp [cmpD, eqOk, h.1, g.1]; omega
theorem ne_flat {a b : D} (h : flatD 100 a) (g : flatD 100 b) : cmpD .ne a b = some (!eqv a b) := by
  have h2 := h.2; have g2 := g.2; have : min (dep a) (dep b) ≤ 100 := by omega
  simp [cmpD, eqOk, h.1, g.1]; omega
end Bh
namespace Bh.K16
theorem flat_pd (p : Int × Int) : flatD 1 (pd p) := by
  unfold pd; exact flat_tup fun d hd => by
    simp at hd; rcases hd with rfl | rfl <;> exact flat_int
theorem flat_mono {n m : Nat} {d : D} (h : flatD n d) (hm : n ≤ m) : flatD m d := ⟨h.1, by have := h.2; omega⟩
theorem flat_place (s : List Nat) (k t b : Int × Int) : flatD 2 (.tup [.str s, pd k, pd t, pd b]) := flat_tup fun d hd => by
  simp at hd; rcases hd with rfl | rfl | rfl | rfl
  · exact flat_str
  all_goals exact flat_pd _
theorem flat_mvs (w : Nat) (tn : List Nat) (k t b : Int × Int) : ∀ d ∈ mvs w tn k t b, flatD 2 d := by
  intro d hd
  unfold mvs at hd
  split at hd
  · simp only [wk, wt, List.mem_append, List.mem_map] at hd
    rcases hd with ⟨s, _, rfl⟩ | ⟨s, _, rfl⟩ <;> exact flat_place _ _ _ _
  · simp only [List.mem_flatMap] at hd
    obtain ⟨s, _, hs⟩ := hd
    unfold bm at hs
    split at hs
    · split at hs
      · simp at hs; subst hs; exact flat_mono (flat_tup (n := 0) fun d hd => by simp at hd; subst hd; exact flat_str) (by decide)
      · simp at hs
    · split at hs
      · simp at hs; subst hs; exact flat_place _ _ _ _
      · simp at hs
theorem idxT40 (a b c d : D) : idxD (.tup [a, b, c, d]) (.int 0) = some a := by simp [idxD, atI, ixN]
theorem eqNil (l : List D) (h : ∀ d ∈ l, flatD 2 d) : cmpD .eq (.tup l) (.tup []) = some (l.isEmpty) := by
  rw [eq_flat (flat_mono (flat_tup h) (by decide)) (flat_mono (flat_tup (n := 0) (by simp)) (by decide))]
  cases l <;> simp [eqv, eqvs]
theorem eqNilL (l : List D) (h : ∀ d ∈ l, flatD 2 d) : cmpD .eq (.lst l) (.lst []) = some (l.isEmpty) := by
  rw [eq_flat (flat_mono (flat_lst h) (by decide)) (flat_mono (flat_lst (n := 0) (by simp)) (by decide))]
  cases l <;> simp [eqv, eqvs]
theorem c9 (n : Nat) {w : Nat} (hw : w = 3 ∨ w = 4) (tn : List Nat) {k t b : Int × Int} (hk : k ∈ sqI w) (ht : t ∈ sqI w) (hb : b ∈ sqI w) : (lev pg (n + 5)).c 0 9 [hD w, .tup [.str tn, pd k, pd t, pd b]] = .ok (.bl (att k t b)) [] := by
  rw [lev_call (df := d9) rfl rfl]
  simp only [d9, b9]
  simp [startE, get_lit, Env.put, outsOf, okLen, z_nil, z_cons, z_ret, z_bind, bindT4, y_var, y_meth, y_nil, y_cons, objD, meth0, hD_eq, c6 n hw hk ht hb]
theorem c10 (n : Nat) {w : Nat} (hw : w = 3 ∨ w = 4) {k t b : Int × Int} (hk : k ∈ sqI w) (ht : t ∈ sqI w) (hb : b ∈ sqI w) (hl : letP bS k t b = true) : (lev pg (n + 7)).c 0 10 [hD w, .tup [.str bS, pd k, pd t, pd b]] = .ok (.bl (att k t b && (mvs w bS k t b).isEmpty)) [] := by
  rw [lev_call (df := d10) rfl rfl]
  simp only [d10, b10]
  have hbb : (bS == [98]) = true := rfl
  simp [startE, get_lit, Env.put, outsOf, okLen, z_nil, z_cons, z_ret, y_var, y_con, y_cmp, y_idx, y_and, y_tup, y_meth, y_nil, y_cons, objD, meth3, meth2, hD_eq, c9 (n + 1) hw bS hk ht hb, c8b n hw hk ht hb hl, idxT40, eqNil _ (flat_mvs w bS k t b), hbb]
theorem c11 (n : Nat) {w : Nat} (hw : w = 3 ∨ w = 4) {k t b : Int × Int} (hk : k ∈ sqI w) (ht : t ∈ sqI w) (hb : b ∈ sqI w) (hl : letP bS k t b = true) : (lev pg (n + 7)).c 0 11 [hD w, .tup [.str bS, pd k, pd t, pd b]] = .ok (.bl (!att k t b && (mvs w bS k t b).isEmpty)) [] := by
  rw [lev_call (df := d11) rfl rfl]
  simp only [d11, b11]
  have hbb : (bS == [98]) = true := rfl
  simp [startE, get_lit, Env.put, outsOf, okLen, z_nil, z_cons, z_ret, y_var, y_con, y_cmp, y_idx, y_and, y_no, y_tup, y_meth, y_nil, y_cons, objD, meth3, meth2, hD_eq, c9 (n + 1) hw bS hk ht hb, c8b n hw hk ht hb hl, idxT40, eqNil _ (flat_mvs w bS k t b), hbb]
  cases att k t b <;> simp
theorem letP_ne {tn : List Nat} {k t b : Int × Int} (h : letP tn k t b = true) : k ≠ t ∧ k ≠ b ∧ t ≠ b := by
  unfold letP at h
  simp only [Bool.and_eq_true, Bool.not_eq_true', Bool.or_eq_false_iff, beq_eq_false_iff_ne] at h
  exact ⟨h.1.1.1.1, h.1.1.1.2, h.1.1.2⟩
theorem c20 (n : Nat) {w : Nat} (hw : w = 3 ∨ w = 4) {k t b : Int × Int} (hk : k ∈ sqI w) (ht : t ∈ sqI w) (hb : b ∈ sqI w) (hl : letP bS k t b = true) : (lev pg (n + 8)).c 0 20 [hD w, .tup [.str bS, pd k, pd t, pd b], pd k, pd t, pd b, .lst (mvs w bS k t b)] = .ok (.bl true) [] := by
  obtain ⟨h1, h2, h3⟩ := letP_ne hl
  have e17 := c17 (n + 5) k t b
  rw [dg_att hw hk ht hb h1 h2 h3] at e17
  rw [lev_call (df := d20) rfl rfl]
  simp only [d20, b20]
  simp [startE, get_lit, Env.put, outsOf, okLen, z_nil, z_cons, z_ret, z_set, z_ite, y_var, y_con, y_cmp, y_and, y_or, y_no, y_call, y_lst, y_meth, y_nil, y_cons, objD, meth3, meth4, meth5, hD_eq, c9 (n + 2) hw bS hk ht hb, c10 n hw hk ht hb hl, c11 n hw hk ht hb hl, e17, eqNilL _ (flat_mvs w bS k t b)]
  cases att k t b <;> simp
theorem c19 (n : Nat) : (lev pg (n + 6)).c 0 19 [] = .ok (.bl true) [] := by kernel_rfl
end Bh.K16
/-! text K9 -/
set_option linter.all false
set_option maxRecDepth 100000
set_option Elab.async false
namespace Bh.K16
def u0 : S := .set 4 (.idx (.cons (.con (.str [119, 98])) (.cons (.call 14 (.cons (.io 0) (.cons (.con (.int 2)) .nil))) .nil)))
def u1 : S := .bind [7, 8, 9] (.lc (.one 10) (.rng1 (.con (.int 3))) none (.idx (.cons (.var 2) (.cons (.call 14 (.cons (.io 0) (.cons (.bf .len (.cons (.var 2) .nil)) .nil))) .nil))))
def u2 : S := .set 5 (.tup (.cons (.var 4) (.cons (.var 7) (.cons (.var 8) (.cons (.var 9) .nil)))))
def u3 : S := .set 6 (.call 18 (.cons (.var 4) (.cons (.var 7) (.cons (.var 8) (.cons (.var 9) .nil)))))
def u4 : S := .ite (.cmp .ne (.cons (.meth 1 (.var 1) (.cons (.var 5) .nil)) (.cons (.var 6) .nil))) [.ret (.con (.bl false))] []
def u5 : S := .ite (.and (.cmp .ne (.cons (.var 8) (.cons (.var 9) .nil))) (.and (.cmp .ne (.cons (.var 7) (.cons (.var 9) .nil))) (.and (.cmp .ne (.cons (.var 7) (.cons (.var 8) .nil))) (.cmp .ne (.cons (.meth 0 (.var 1) (.cons (.var 7) (.cons (.var 8) (.cons (.var 9) .nil)))) (.cons (.call 17 (.cons (.var 7) (.cons (.var 8) (.cons (.var 9) .nil)))) .nil)))))) [.ret (.con (.bl false))] []
def ux : List S := [.ite (.cmp .ne (.cons (.told (.meth 2 (.var 1) (.cons (.var 5) .nil))) (.cons (.con (.str [109, 111, 118, 101])) .nil))) [.ret (.con (.bl false))] []]
def uw0 : S := .set 11 (.lc (.one 13) (.seq (.var 2)) (some (.and (.cmp .eq (.cons (.call 16 (.cons (.var 13) (.cons (.var 7) .nil))) (.cons (.con (.int 1)) .nil))) (.and (.cmp .ne (.cons (.var 13) (.cons (.var 8) .nil))) (.call 18 (.cons (.con (.str [98])) (.cons (.var 13) (.cons (.var 8) (.cons (.var 9) .nil)))))))) (.tup (.cons (.con (.str [98])) (.cons (.var 13) (.cons (.var 8) (.cons (.var 9) .nil))))))
def uw1 : S := .thaw 12 (.lst (.nil))
def uw2 : S := .fors (.one 13) (.seq (.var 2)) [.set 15 (.and (.cmp .ne (.cons (.var 13) (.cons (.var 8) .nil))) (.or (.cmp .eq (.cons (.idx (.cons (.var 13) (.cons (.con (.int 0)) .nil))) (.cons (.idx (.cons (.var 8) (.cons (.con (.int 0)) .nil))) .nil))) (.cmp .eq (.cons (.idx (.cons (.var 13) (.cons (.con (.int 1)) .nil))) (.cons (.idx (.cons (.var 8) (.cons (.con (.int 1)) .nil))) .nil))))), .set 16 (.lc (.one 17) (.seq (.lst (.cons (.var 7) (.cons (.var 9) .nil)))) (some (.and (.cmp .eq (.cons (.idx (.cons (.bf .sorted (.cons (.lst (.cons (.var 8) (.cons (.var 17) (.cons (.var 13) .nil)))) .nil)) (.cons (.con (.int 1)) .nil))) (.cons (.var 17) .nil))) (.or (.and (.cmp .eq (.cons (.idx (.cons (.var 8) (.cons (.con (.int 0)) .nil))) (.cons (.idx (.cons (.var 17) (.cons (.con (.int 0)) .nil))) .nil))) (.cmp .eq (.cons (.idx (.cons (.var 17) (.cons (.con (.int 0)) .nil))) (.cons (.idx (.cons (.var 13) (.cons (.con (.int 0)) .nil))) .nil)))) (.and (.cmp .eq (.cons (.idx (.cons (.var 8) (.cons (.con (.int 1)) .nil))) (.cons (.idx (.cons (.var 17) (.cons (.con (.int 1)) .nil))) .nil))) (.cmp .eq (.cons (.idx (.cons (.var 17) (.cons (.con (.int 1)) .nil))) (.cons (.idx (.cons (.var 13) (.cons (.con (.int 1)) .nil))) .nil))))))) (.var 17)), .ite (.and (.var 15) (.cmp .eq (.cons (.var 16) (.cons (.lst (.nil)) .nil)))) [.expr (.mm .append 12 (.cons (.tup (.cons (.con (.str [98])) (.cons (.var 7) (.cons (.var 13) (.cons (.var 9) .nil))))) .nil))] []]
def uw3 : S := .ite (.cmp .ne (.cons (.bf .list (.cons (.meth 2 (.var 1) (.cons (.var 5) .nil)) .nil)) (.cons (.op .add (.cons (.var 11) (.cons (.own 12) .nil))) .nil))) [.ret (.con (.bl false))] []
def ur0 : S := .set 15 (.and (.cmp .ne (.cons (.var 13) (.cons (.var 8) .nil))) (.or (.cmp .eq (.cons (.idx (.cons (.var 13) (.cons (.con (.int 0)) .nil))) (.cons (.idx (.cons (.var 8) (.cons (.con (.int 0)) .nil))) .nil))) (.cmp .eq (.cons (.idx (.cons (.var 13) (.cons (.con (.int 1)) .nil))) (.cons (.idx (.cons (.var 8) (.cons (.con (.int 1)) .nil))) .nil)))))
def ur1 : S := .set 16 (.lc (.one 17) (.seq (.lst (.cons (.var 7) (.cons (.var 9) .nil)))) (some (.and (.cmp .eq (.cons (.idx (.cons (.bf .sorted (.cons (.lst (.cons (.var 8) (.cons (.var 17) (.cons (.var 13) .nil)))) .nil)) (.cons (.con (.int 1)) .nil))) (.cons (.var 17) .nil))) (.or (.and (.cmp .eq (.cons (.idx (.cons (.var 8) (.cons (.con (.int 0)) .nil))) (.cons (.idx (.cons (.var 17) (.cons (.con (.int 0)) .nil))) .nil))) (.cmp .eq (.cons (.idx (.cons (.var 17) (.cons (.con (.int 0)) .nil))) (.cons (.idx (.cons (.var 13) (.cons (.con (.int 0)) .nil))) .nil)))) (.and (.cmp .eq (.cons (.idx (.cons (.var 8) (.cons (.con (.int 1)) .nil))) (.cons (.idx (.cons (.var 17) (.cons (.con (.int 1)) .nil))) .nil))) (.cmp .eq (.cons (.idx (.cons (.var 17) (.cons (.con (.int 1)) .nil))) (.cons (.idx (.cons (.var 13) (.cons (.con (.int 1)) .nil))) .nil))))))) (.var 17))
def ur2 : S := .ite (.and (.var 15) (.cmp .eq (.cons (.var 16) (.cons (.lst (.nil)) .nil)))) [.expr (.mm .append 12 (.cons (.tup (.cons (.con (.str [98])) (.cons (.var 7) (.cons (.var 13) (.cons (.var 9) .nil))))) .nil))] []
def ub0 : S := .thaw 14 (.lst (.nil))
def ub1 : S := .fors (.one 13) (.seq (.lc (.one 17) (.seq (.var 2)) (some (.and (.cmp .eq (.cons (.call 16 (.cons (.var 17) (.cons (.var 9) .nil))) (.cons (.con (.int 1)) .nil))) (.cmp .ne (.cons (.var 17) (.cons (.var 7) .nil))))) (.var 17))) [.ite (.and (.cmp .eq (.cons (.var 13) (.cons (.var 8) .nil))) (.cmp .gt (.cons (.call 16 (.cons (.var 7) (.cons (.var 13) .nil))) (.cons (.con (.int 1)) .nil)))) [.expr (.mm .append 14 (.cons (.tup (.cons (.con (.str [45])) .nil)) .nil))] [], .ite (.and (.cmp .ne (.cons (.var 13) (.cons (.var 8) .nil))) (.call 18 (.cons (.con (.str [119])) (.cons (.var 7) (.cons (.var 8) (.cons (.var 13) .nil)))))) [.expr (.mm .append 14 (.cons (.tup (.cons (.con (.str [119])) (.cons (.var 7) (.cons (.var 8) (.cons (.var 13) .nil))))) .nil))] []]
def ub2 : S := .ite (.cmp .ne (.cons (.bf .list (.cons (.meth 2 (.var 1) (.cons (.var 5) .nil)) .nil)) (.cons (.own 14) .nil))) [.ret (.con (.bl false))] []
def ub3 : S := .ite (.no (.call 20 (.cons (.var 1) (.cons (.var 5) (.cons (.var 7) (.cons (.var 8) (.cons (.var 9) (.cons (.bor 14) .nil)))))))) [.ret (.con (.bl false))] []
def ua0 : S := .ite (.and (.cmp .eq (.cons (.var 13) (.cons (.var 8) .nil))) (.cmp .gt (.cons (.call 16 (.cons (.var 7) (.cons (.var 13) .nil))) (.cons (.con (.int 1)) .nil)))) [.expr (.mm .append 14 (.cons (.tup (.cons (.con (.str [45])) .nil)) .nil))] []
def ua1 : S := .ite (.and (.cmp .ne (.cons (.var 13) (.cons (.var 8) .nil))) (.call 18 (.cons (.con (.str [119])) (.cons (.var 7) (.cons (.var 8) (.cons (.var 13) .nil)))))) [.expr (.mm .append 14 (.cons (.tup (.cons (.con (.str [119])) (.cons (.var 7) (.cons (.var 8) (.cons (.var 13) .nil))))) .nil))] []

theorem turn_eq : turnB = [u0, u1, u2, u3, u4, u5, .ite (.no (.var 6)) ux [.ite (.cmp .eq (.cons (.var 4) (.cons (.con (.str [119])) .nil))) [uw0, uw1, uw2, uw3] [ub0, ub1, ub2, ub3]]] := rfl
theorem b21_eq : b21 = [.fors (.one 3) (.rng1 (.con (.int 5))) turnB, .ret (.call 19 .nil)] := rfl
theorem uw2_eq : uw2 = .fors (.one 13) (.seq (.var 2)) [ur0, ur1, ur2] := rfl
theorem ub1_eq : ub1 = .fors (.one 13) (.seq (.lc (.one 17) (.seq (.var 2)) (some (.and (.cmp .eq (.cons (.call 16 (.cons (.var 17) (.cons (.var 9) .nil))) (.cons (.con (.int 1)) .nil))) (.cmp .ne (.cons (.var 17) (.cons (.var 7) .nil))))) (.var 17))) [ua0, ua1] := rfl
section
variable {w : Nat} (hw : w = 3 ∨ w = 4) {k t b : Int × Int} (hk : k ∈ sqI w) (ht : t ∈ sqI w) (hb : b ∈ sqI w)
include hw hk ht hb
theorem uw0_ok (n : Nat) (dv o3 o4 o5 o6 o7 o8 o9 o10 o11 o12 o13 o14 o15 o16 o17 : Option D) : evS pg.tb (lev pg (n + 4)) uw0 [dv, (some (hD w)), (some (.lst ((sqI w).map pd))), o3, some (.str wS), some (.tup [.str wS, pd k, pd t, pd b]), o6, some (pd k), some (pd t), some (pd b), o10, o11, o12, o13, o14, o15, o16, o17] = .nx [dv, (some (hD w)), (some (.lst ((sqI w).map pd))), o3, some (.str wS), some (.tup [.str wS, pd k, pd t, pd b]), o6, some (pd k), some (pd t), some (pd b), o10, some (.lst (wk w k t b)), o12, o13, o14, o15, o16, o17] := by
  have hl : evE pg.tb (lev pg (n + 4)) (.lc (.one 13) (.seq (.var 2)) (some (.and (.cmp .eq (.cons (.call 16 (.cons (.var 13) (.cons (.var 7) .nil))) (.cons (.con (.int 1)) .nil))) (.and (.cmp .ne (.cons (.var 13) (.cons (.var 8) .nil))) (.call 18 (.cons (.con (.str [98])) (.cons (.var 13) (.cons (.var 8) (.cons (.var 9) .nil)))))))) (.tup (.cons (.con (.str [98])) (.cons (.var 13) (.cons (.var 8) (.cons (.var 9) .nil)))))) [dv, (some (hD w)), (some (.lst ((sqI w).map pd))), o3, some (.str wS), some (.tup [.str wS, pd k, pd t, pd b]), o6, some (pd k), some (pd t), some (pd b), o10, o11, o12, o13, o14, o15, o16, o17] = .ok (.lst (wk w k t b)) [dv, (some (hD w)), (some (.lst ((sqI w).map pd))), o3, some (.str wS), some (.tup [.str wS, pd k, pd t, pd b]), o6, some (pd k), some (pd t), some (pd b), o10, o11, o12, o13, o14, o15, o16, o17] := by
    have h0 := ev_lcM (tb := pg.tb) (cf := lev pg (n + 4)) pd (i := 13) (it := .seq (.var 2)) (c := some (.and (.cmp .eq (.cons (.call 16 (.cons (.var 13) (.cons (.var 7) .nil))) (.cons (.con (.int 1)) .nil))) (.and (.cmp .ne (.cons (.var 13) (.cons (.var 8) .nil))) (.call 18 (.cons (.con (.str [98])) (.cons (.var 13) (.cons (.var 8) (.cons (.var 9) .nil)))))))) (e := .tup (.cons (.con (.str [98])) (.cons (.var 13) (.cons (.var 8) (.cons (.var 9) .nil))))) (xs := sqI w) (env := [dv, (some (hD w)), (some (.lst ((sqI w).map pd))), o3, some (.str wS), some (.tup [.str wS, pd k, pd t, pd b]), o6, some (pd k), some (pd t), some (pd b), o10, o11, o12, o13, o14, o15, o16, o17]) (env0 := [dv, (some (hD w)), (some (.lst ((sqI w).map pd))), o3, some (.str wS), some (.tup [.str wS, pd k, pd t, pd b]), o6, some (pd k), some (pd t), some (pd b), o10, o11, o12, o13, o14, o15, o16, o17])
      (fun s => if (ap s k == 1 && (s != t && letP bS s t b)) then some (.tup [.str bS, pd s, pd t, pd b]) else none) (by simp [y_seq, y_var, get_lit]) (by have := sq_len hw; simp [okLen]; omega) (fun x hx => by
        simp [get_lit, Env.put, okLen, setO, isNew, kindOf, z_nil, z_cons, z_set, z_thaw, z_expr, z_ret, z_ite, z_fors, y_var, y_con, y_cmp, y_idx, y_op, y_tup, y_lst, y_bf, y_and, y_or, y_no, y_call, y_meth, y_nil, y_cons, y_seq, y_c0, y_c1, y_mm, y_lcTurn, objD, hD_eq, c16, c18 (n + 1) hw [98] hx ht hb]
        unfold bS
        by_cases h1 : x = t
        · simp [h1]
        · have h1' : (x != t) = true := by simp [h1]
          simp only [h1', Bool.true_and]
          cases h3 : ap x k == 1 <;> have h4 := h3 <;> simp at h4 <;> cases letP [98] x t b <;> simp [h1, h4])
    rw [h0, fm_if]
    congr 2
    unfold wk
    rw [List.filter_filter]
    congr 1
    apply List.filter_congr
    intro x hx
    cases ap x k == 1 <;> simp
  unfold uw0
  rw [z_set, hl]
  simp [Env.put]
end
def bwl (t two one : Int × Int) : Bool := mid t two one == two && ((t.1 == two.1 && two.1 == one.1) || (t.2 == two.2 && two.2 == one.2))
theorem bw3 : ((sqI 3).all fun t => (sqI 3).all fun k => (sqI 3).all fun one => k == t || !inl t one || bwl t k one == (btw t k one || one == k)) = true := by kernel_rfl
theorem bw4 : ((sqI 4).all fun t => (sqI 4).all fun k => (sqI 4).all fun one => k == t || !inl t one || bwl t k one == (btw t k one || one == k)) = true := by kernel_rfl
theorem bw_eq {w : Nat} (hw : w = 3 ∨ w = 4) {t k one : Int × Int} (ht : t ∈ sqI w) (hk : k ∈ sqI w) (ho : one ∈ sqI w) (h1 : k ≠ t) (h2 : inl t one = true) : bwl t k one = (btw t k one || one == k) := by
  have : (k == t || !inl t one || bwl t k one == (btw t k one || one == k)) = true := by
    rcases hw with rfl | rfl
    · exact List.all_eq_true.mp (List.all_eq_true.mp (List.all_eq_true.mp bw3 t ht) k hk) one ho
    · exact List.all_eq_true.mp (List.all_eq_true.mp (List.all_eq_true.mp bw4 t ht) k hk) one ho
  have e : (k == t) = false := by simp [h1]
  rw [e, h2] at this
  simpa using this
theorem cond_ok (b : Bool) (x y : D) (e : Env) : (bif b then R.ok x e else R.ok y e) = .ok (bif b then x else y) e := by cases b <;> rfl
theorem ur_ok (n : Nat) (w : Nat) (k t b x : Int × Int) (acc : List D) (ha : acc.length ≤ 1000) (dv o3 o4 o5 o6 o7 o8 o9 o10 o11 o12 o13 o14 o15 o16 o17 : Option D) : evSs pg.tb (lev pg n) [ur0, ur1, ur2] [dv, (some (hD w)), (some (.lst ((sqI w).map pd))), o3, some (.str wS), some (.tup [.str wS, pd k, pd t, pd b]), o6, some (pd k), some (pd t), some (pd b), o10, o11, some (.lst acc), some (pd x), o14, o15, o16, o17] = .nx [dv, (some (hD w)), (some (.lst ((sqI w).map pd))), o3, some (.str wS), some (.tup [.str wS, pd k, pd t, pd b]), o6, some (pd k), some (pd t), some (pd b), o10, o11, some (.lst (acc ++ (if (inl t x && !bwl t k x && !bwl t b x) = true then [.tup [.str bS, pd k, pd x, pd b]] else []))), some (pd x), o14, some (.bl (inl t x)), some (.lst (([k, b].filter fun two => bwl t two x).map pd)), o17] := by
  have ha' : acc.length ≤ 16777215 := by omega
  obtain ⟨l1, p1, p2⟩ := sort3 t k x
  obtain ⟨l2, p3, p4⟩ := sort3 t b x
  have h1 : evS pg.tb (lev pg n) ur0 [dv, (some (hD w)), (some (.lst ((sqI w).map pd))), o3, some (.str wS), some (.tup [.str wS, pd k, pd t, pd b]), o6, some (pd k), some (pd t), some (pd b), o10, o11, some (.lst acc), some (pd x), o14, o15, o16, o17] = .nx [dv, (some (hD w)), (some (.lst ((sqI w).map pd))), o3, some (.str wS), some (.tup [.str wS, pd k, pd t, pd b]), o6, some (pd k), some (pd t), some (pd b), o10, o11, some (.lst acc), some (pd x), o14, some (.bl (inl t x)), o16, o17] := by
    unfold ur0
    simp [get_lit, Env.put, okLen, setO, isNew, kindOf, z_nil, z_cons, z_set, z_thaw, z_expr, z_ret, z_ite, z_fors, y_var, y_con, y_cmp, y_idx, y_op, y_tup, y_lst, y_bf, y_and, y_or, y_no, y_call, y_meth, y_nil, y_cons, y_seq, y_c0, y_c1, y_mm, y_lcTurn, objD, hD_eq, inl]
  have h2 : evS pg.tb (lev pg n) ur1 [dv, (some (hD w)), (some (.lst ((sqI w).map pd))), o3, some (.str wS), some (.tup [.str wS, pd k, pd t, pd b]), o6, some (pd k), some (pd t), some (pd b), o10, o11, some (.lst acc), some (pd x), o14, some (.bl (inl t x)), o16, o17] = .nx [dv, (some (hD w)), (some (.lst ((sqI w).map pd))), o3, some (.str wS), some (.tup [.str wS, pd k, pd t, pd b]), o6, some (pd k), some (pd t), some (pd b), o10, o11, some (.lst acc), some (pd x), o14, some (.bl (inl t x)), some (.lst (([k, b].filter fun two => bwl t two x).map pd)), o17] := by
    have h0 := ev_lcM (tb := pg.tb) (cf := lev pg n) pd (i := 17) (it := (.seq (.lst (.cons (.var 7) (.cons (.var 9) .nil))))) (c := (some (.and (.cmp .eq (.cons (.idx (.cons (.bf .sorted (.cons (.lst (.cons (.var 8) (.cons (.var 17) (.cons (.var 13) .nil)))) .nil)) (.cons (.con (.int 1)) .nil))) (.cons (.var 17) .nil))) (.or (.and (.cmp .eq (.cons (.idx (.cons (.var 8) (.cons (.con (.int 0)) .nil))) (.cons (.idx (.cons (.var 17) (.cons (.con (.int 0)) .nil))) .nil))) (.cmp .eq (.cons (.idx (.cons (.var 17) (.cons (.con (.int 0)) .nil))) (.cons (.idx (.cons (.var 13) (.cons (.con (.int 0)) .nil))) .nil)))) (.and (.cmp .eq (.cons (.idx (.cons (.var 8) (.cons (.con (.int 1)) .nil))) (.cons (.idx (.cons (.var 17) (.cons (.con (.int 1)) .nil))) .nil))) (.cmp .eq (.cons (.idx (.cons (.var 17) (.cons (.con (.int 1)) .nil))) (.cons (.idx (.cons (.var 13) (.cons (.con (.int 1)) .nil))) .nil)))))))) (e := .var 17) (xs := [k, b]) (env := [dv, (some (hD w)), (some (.lst ((sqI w).map pd))), o3, some (.str wS), some (.tup [.str wS, pd k, pd t, pd b]), o6, some (pd k), some (pd t), some (pd b), o10, o11, some (.lst acc), some (pd x), o14, some (.bl (inl t x)), o16, o17]) (env0 := [dv, (some (hD w)), (some (.lst ((sqI w).map pd))), o3, some (.str wS), some (.tup [.str wS, pd k, pd t, pd b]), o6, some (pd k), some (pd t), some (pd b), o10, o11, some (.lst acc), some (pd x), o14, some (.bl (inl t x)), o16, o17])
      (fun two => if bwl t two x then some (pd two) else none) (by simp [get_lit, Env.put, okLen, setO, isNew, kindOf, z_nil, z_cons, z_set, z_thaw, z_expr, z_ret, z_ite, z_fors, y_var, y_con, y_cmp, y_idx, y_op, y_tup, y_lst, y_bf, y_and, y_or, y_no, y_call, y_meth, y_nil, y_cons, y_seq, y_c0, y_c1, y_mm, y_lcTurn, objD, hD_eq]) (by simp [okLen]) (fun two _ => by
        obtain ⟨l1, p1, p2⟩ := sort3 t two x
        simp [get_lit, Env.put, okLen, setO, isNew, kindOf, z_nil, z_cons, z_set, z_thaw, z_expr, z_ret, z_ite, z_fors, y_var, y_con, y_cmp, y_idx, y_op, y_tup, y_lst, y_bf, y_and, y_or, y_no, y_call, y_meth, y_nil, y_cons, y_seq, y_c0, y_c1, y_mm, y_lcTurn, objD, hD_eq, p1, p2]
        have e : bwl t two x = (mid t two x == two && (t.1 == two.1 && two.1 == x.1 || t.2 == two.2 && two.2 == x.2)) := rfl
        rw [← e]
        cases bwl t two x <;> simp)
    unfold ur1
    rw [z_set, h0, fm_if]
    simp [Env.put]
  rw [z_cons, h1, seq_nx, z_cons, h2, seq_nx, z_cons]
  unfold ur2
  have n0 : cmpD .eq (.lst []) (.lst []) = some true := eqNilL [] (by simp)
  have n1 : ∀ p, cmpD .eq (.lst [pd p]) (.lst []) = some false := fun p => eqNilL [pd p] (by simp; exact flat_mono (flat_pd p) (by decide))
  have n2 : ∀ p q, cmpD .eq (.lst [pd p, pd q]) (.lst []) = some false := fun p q => eqNilL [pd p, pd q] (by simp; exact ⟨flat_mono (flat_pd p) (by decide), flat_mono (flat_pd q) (by decide)⟩)
  cases hi : inl t x
  · simp [get_lit, Env.put, okLen, setO, isNew, kindOf, z_nil, z_cons, z_set, z_thaw, z_expr, z_ret, z_ite, z_fors, y_var, y_con, y_cmp, y_idx, y_op, y_tup, y_lst, y_bf, y_and, y_or, y_no, y_call, y_meth, y_nil, y_cons, y_seq, y_c0, y_c1, y_mm, y_lcTurn, objD, hD_eq]
  · cases hq1 : bwl t k x <;> cases hq2 : bwl t b x <;> simp [get_lit, Env.put, okLen, setO, isNew, kindOf, z_nil, z_cons, z_set, z_thaw, z_expr, z_ret, z_ite, z_fors, y_var, y_con, y_cmp, y_idx, y_op, y_tup, y_lst, y_bf, y_and, y_or, y_no, y_call, y_meth, y_nil, y_cons, y_seq, y_c0, y_c1, y_mm, y_lcTurn, objD, hD_eq, hq1, hq2, n0, n1, n2, ha', bS]
end Bh.K16
/-! text K10 -/
set_option linter.all false
set_option maxRecDepth 100000
set_option Elab.async false
namespace Bh.K16
def rdL (k t b x : Int × Int) : List D := (if (inl t x && !bwl t k x && !bwl t b x) = true then [.tup [.str bS, pd k, pd x, pd b]] else [])
theorem rdL_len (k t b x : Int × Int) : (rdL k t b x).length ≤ 1 := by unfold rdL; split <;> simp
theorem loopR (n w : Nat) (k t b : Int × Int) (dv o3 o6 o10 o11 o14 o17 : Option D) : ∀ (l : List (Int × Int)) (acc : List D) (o13 o15 o16 : Option D), acc.length + l.length ≤ 1000 → ∃ o13' o15' o16',
    forL (.one 13) (evSs pg.tb (lev pg n) [ur0, ur1, ur2]) (l.map pd) [dv, (some (hD w)), (some (.lst ((sqI w).map pd))), o3, some (.str wS), some (.tup [.str wS, pd k, pd t, pd b]), o6, some (pd k), some (pd t), some (pd b), o10, o11, some (.lst acc), o13, o14, o15, o16, o17] = .nx [dv, (some (hD w)), (some (.lst ((sqI w).map pd))), o3, some (.str wS), some (.tup [.str wS, pd k, pd t, pd b]), o6, some (pd k), some (pd t), some (pd b), o10, o11, some (.lst (acc ++ l.flatMap (rdL k t b))), o13', o14, o15', o16', o17]
  | [], acc, o13, o15, o16, _ => ⟨o13, o15, o16, by simp [forL]⟩
  | x :: l, acc, o13, o15, o16, h => by
    have hb := ur_ok n w k t b x acc (by simp at h; omega) dv o3 none none o6 none none none o10 o11 none none o14 o15 o16 o17
    have hr := rdL_len k t b x
    obtain ⟨a1, a2, a3, ih⟩ := loopR n w k t b dv o3 o6 o10 o11 o14 o17 l (acc ++ rdL k t b x) (some (pd x)) (some (.bl (inl t x))) (some (.lst (([k, b].filter fun two => bwl t two x).map pd))) (by simp at h ⊢; omega)
    refine ⟨a1, a2, a3, ?_⟩
    rw [List.map_cons, forL]
    simp only [bindT, Env.put, List.set]
    rw [hb]
    simp only []
    have e : (acc ++ (if (inl t x && !bwl t k x && !bwl t b x) = true then [.tup [.str bS, pd k, pd x, pd b]] else [])) = acc ++ rdL k t b x := rfl
    rw [e, ih]
    simp
def amL (k t x : Int × Int) : List D := (if (x == t && decide (1 < ap k x)) = true then [.tup [.str [45]]] else []) ++ (if (x != t && letP wS k t x) = true then [.tup [.str wS, pd k, pd t, pd x]] else [])
theorem amL_len (k t x : Int × Int) : (amL k t x).length ≤ 2 := by unfold amL; simp; split <;> split <;> simp
theorem ua_ok (n : Nat) {w : Nat} (hw : w = 3 ∨ w = 4) {k t x : Int × Int} (b : Int × Int) (hk : k ∈ sqI w) (ht : t ∈ sqI w) (hx : x ∈ sqI w) (acc : List D) (ha : acc.length ≤ 1000) (dv o3 o6 o10 o11 o12 o15 o16 o17 : Option D) : evSs pg.tb (lev pg (n + 4)) [ua0, ua1] [dv, (some (hD w)), (some (.lst ((sqI w).map pd))), o3, some (.str bS), some (.tup [.str bS, pd k, pd t, pd b]), o6, some (pd k), some (pd t), some (pd b), o10, o11, o12, some (pd x), some (.lst acc), o15, o16, o17] = .nx [dv, (some (hD w)), (some (.lst ((sqI w).map pd))), o3, some (.str bS), some (.tup [.str bS, pd k, pd t, pd b]), o6, some (pd k), some (pd t), some (pd b), o10, o11, o12, some (pd x), some (.lst (acc ++ amL k t x)), o15, o16, o17] := by
  have a1 : acc.length ≤ 16777215 := by omega
  have a2 : acc.length + 1 ≤ 16777215 := by omega
  have e18 := c18 (n + 1) hw [119] hk ht hx
  unfold ua0 ua1 amL
  by_cases h1 : x = t
  · have h1' : (x == t) = true := by simp [h1]
    have h1'' : (x != t) = false := by simp [h1]
    by_cases h2 : 1 < ap k x
    · simp [get_lit, Env.put, okLen, setO, isNew, kindOf, z_nil, z_cons, z_set, z_thaw, z_expr, z_ret, z_ite, z_fors, y_var, y_con, y_cmp, y_idx, y_op, y_tup, y_lst, y_bf, y_and, y_or, y_no, y_call, y_meth, y_nil, y_cons, y_seq, y_c0, y_c1, y_mm, y_lcTurn, objD, hD_eq, c16, e18, a1, h1', h1'', h2]
    · simp [get_lit, Env.put, okLen, setO, isNew, kindOf, z_nil, z_cons, z_set, z_thaw, z_expr, z_ret, z_ite, z_fors, y_var, y_con, y_cmp, y_idx, y_op, y_tup, y_lst, y_bf, y_and, y_or, y_no, y_call, y_meth, y_nil, y_cons, y_seq, y_c0, y_c1, y_mm, y_lcTurn, objD, hD_eq, c16, e18, a1, h1', h1'', h2]
  · have h1' : (x == t) = false := by simp [h1]
    have h1'' : (x != t) = true := by simp [h1]
    unfold wS
    cases h3 : letP [119] k t x
    · simp [get_lit, Env.put, okLen, setO, isNew, kindOf, z_nil, z_cons, z_set, z_thaw, z_expr, z_ret, z_ite, z_fors, y_var, y_con, y_cmp, y_idx, y_op, y_tup, y_lst, y_bf, y_and, y_or, y_no, y_call, y_meth, y_nil, y_cons, y_seq, y_c0, y_c1, y_mm, y_lcTurn, objD, hD_eq, c16, e18, a1, h1', h1'', h3]
    · simp [get_lit, Env.put, okLen, setO, isNew, kindOf, z_nil, z_cons, z_set, z_thaw, z_expr, z_ret, z_ite, z_fors, y_var, y_con, y_cmp, y_idx, y_op, y_tup, y_lst, y_bf, y_and, y_or, y_no, y_call, y_meth, y_nil, y_cons, y_seq, y_c0, y_c1, y_mm, y_lcTurn, objD, hD_eq, c16, e18, a1, h1', h1'', h3]
theorem loopA (n : Nat) {w : Nat} (hw : w = 3 ∨ w = 4) {k t : Int × Int} (b : Int × Int) (hk : k ∈ sqI w) (ht : t ∈ sqI w) (dv o3 o6 o10 o11 o12 o15 o16 o17 : Option D) : ∀ (l : List (Int × Int)) (acc : List D) (o13 : Option D), (∀ x ∈ l, x ∈ sqI w) → acc.length + 2 * l.length ≤ 1000 → ∃ o13',
    forL (.one 13) (evSs pg.tb (lev pg (n + 4)) [ua0, ua1]) (l.map pd) [dv, (some (hD w)), (some (.lst ((sqI w).map pd))), o3, some (.str bS), some (.tup [.str bS, pd k, pd t, pd b]), o6, some (pd k), some (pd t), some (pd b), o10, o11, o12, o13, some (.lst acc), o15, o16, o17] = .nx [dv, (some (hD w)), (some (.lst ((sqI w).map pd))), o3, some (.str bS), some (.tup [.str bS, pd k, pd t, pd b]), o6, some (pd k), some (pd t), some (pd b), o10, o11, o12, o13', some (.lst (acc ++ l.flatMap (amL k t))), o15, o16, o17]
  | [], acc, o13, _, _ => ⟨o13, by simp [forL]⟩
  | x :: l, acc, o13, hm, h => by
    have hb := ua_ok n hw b hk ht (hm x (by simp)) acc (by simp at h; omega) dv o3 o6 o10 o11 o12 o15 o16 o17
    have hr := amL_len k t x
    obtain ⟨a1, ih⟩ := loopA n hw b hk ht dv o3 o6 o10 o11 o12 o15 o16 o17 l (acc ++ amL k t x) (some (pd x)) (fun y hy => hm y (by simp [hy])) (by simp at h ⊢; omega)
    refine ⟨a1, ?_⟩
    rw [List.map_cons, forL]
    simp only [bindT, Env.put, List.set]
    rw [hb]
    simp only []
    rw [ih]
    simp
theorem rides_eq {w : Nat} (hw : w = 3 ∨ w = 4) {k t b : Int × Int} (hk : k ∈ sqI w) (ht : t ∈ sqI w) (hb : b ∈ sqI w) (h1 : k ≠ t) (h2 : t ≠ b) : (sqI w).flatMap (rdL k t b) = wt w k t b := by
  have e : ∀ l : List (Int × Int), l.flatMap (rdL k t b) = (l.filter fun x => inl t x && !bwl t k x && !bwl t b x).map fun x => .tup [.str bS, pd k, pd x, pd b] := fun l => by
    induction l with
    | nil => rfl
    | cons x l ih =>
      rw [List.flatMap_cons, ih, List.filter_cons]
      unfold rdL
      split <;> simp
  rw [e]
  unfold wt
  rw [List.filter_filter]
  congr 1
  apply List.filter_congr
  intro x hx
  unfold reach
  cases hi : inl t x with
  | false => simp
  | true =>
    rw [bw_eq hw ht hk hx h1 hi, bw_eq hw ht hb hx (Ne.symm h2) hi]
    simp
    cases btw t k x <;> cases btw t b x <;> cases x == k <;> cases x == b <;> rfl
theorem after_eq {w : Nat} {k t b : Int × Int} (h1 : k ≠ t) : (((sqI w).filter fun two => ap two b == 1 && two != k).flatMap (amL k t)) = ((sqI w).filter fun one => ap one b == 1).flatMap (bm k t) := by
  generalize sqI w = l
  induction l with
  | nil => rfl
  | cons x l ih =>
    rw [List.filter_cons, List.filter_cons]
    cases ap x b == 1 with
    | false => simpa using ih
    | true =>
      by_cases hk : x = k
      · have e : (x != k) = false := by simp [hk]
        have : bm k t x = [] := by
          unfold bm; rw [if_neg (by rw [hk]; exact h1), if_neg (fun z => z.1 hk)]
        simp only [e, Bool.and_false, Bool.false_eq_true, if_false, if_true, List.flatMap_cons, this, List.nil_append]
        exact ih
      · have e : (x != k) = true := by simp [hk]
        have : amL k t x = bm k t x := by
          unfold amL bm
          by_cases ht : x = t
          · have a1 : (x == t) = true := by simp [ht]
            have a2 : (x != t) = false := by simp [ht]
            simp only [a1, a2, Bool.true_and, Bool.false_and, if_pos ht, decide_eq_true_eq]
            split <;> simp
          · have a1 : (x == t) = false := by simp [ht]
            have a2 : (x != t) = true := by simp [ht]
            simp only [a1, a2, Bool.true_and, Bool.false_and, if_neg ht]
            cases letP wS k t x <;> simp [hk]
        simp only [e, Bool.and_true, if_true, List.flatMap_cons, this]
        rw [ih]
end Bh.K16
/-! text Bk3 -/
set_option linter.all false
set_option maxRecDepth 100000
set_option maxHeartbeats 4000000
/-! Bk3: the roll of the law's dice. -/
namespace Bh.K16
def diceD (a b c : Int) : D := .lst [.int a, .int b, .int c]
theorem roll_ok (cf : CF) (a b c n : Int) (h0 : 0 < n) (h1 : n < 1073741824) : ∃ r a' b' c' : Int, 0 ≤ r ∧ r < n ∧ call1 pg cf 14 [diceD a b c, .int n] = .ok (.int r) [diceD a' b' c'] := by
  have e14 : pg.defs 14 = some d14 := rfl
  unfold call1
  rw [e14]
  have hd : d14.body = b14 := rfl
  have hn : [diceD a b c, D.int n].length = d14.np := rfl
  simp only [hn, if_true, hd]
  have hs : startE d14 [diceD a b c, .int n] = [some (diceD a b c), some (.int n), none] := rfl
  rw [hs]
  have q1 : ∀ x : Int, 0 ≤ x % n ∧ x % n < n := fun x => ⟨Int.emod_nonneg _ (by omega), Int.emod_lt_of_pos _ h0⟩
  by_cases c2 : c = 2
  · refine ⟨a % n, a / n, b, c, (q1 a).1, (q1 a).2, ?_⟩
    subst c2
    simp [b14, diceD, evSs, evS, evE, evEs, R.bind, R.o, R.of, Env.get, Env.put, lateOf, idxD, atI, ixN, cmpD, eqOk, plain, plains, dep, deps, eqv, intC, opD, modD, fdivD, h0, h1, bfD, intD, endD, d14, outsOf]
  · by_cases c1 : c = 1 ∧ 0 < a
    · refine ⟨a % n, a / n, b, c, (q1 a).1, (q1 a).2, ?_⟩
      obtain ⟨c1, c3⟩ := c1
      subst c1
      simp [b14, diceD, evSs, evS, evE, evEs, R.bind, R.o, R.of, Env.get, Env.put, lateOf, idxD, atI, ixN, cmpD, eqOk, plain, plains, dep, deps, eqv, intC, opD, modD, fdivD, h0, h1, c3, bfD, intD, endD, d14, outsOf]
    · refine ⟨((a * 48271 + b * 69621 + 11) % 2147483647 / 7 + (a * 48271 + b * 69621 + 11) % 2147483647) % n, (a * 48271 + b * 69621 + 11) % 2147483647, b + 1, 0, (q1 _).1, (q1 _).2, ?_⟩
      by_cases d1 : c = 1
      · have d2 : ¬ 0 < a := fun z => c1 ⟨d1, z⟩
        subst d1
        simp [b14, diceD, evSs, evS, evE, evEs, R.bind, R.o, R.of, Env.get, Env.put, lateOf, idxD, atI, ixN, cmpD, eqOk, plain, plains, dep, deps, eqv, intC, opD, modD, fdivD, addD, mulD, small64, h0, h1, d2, bfD, intD, endD, d14, outsOf]
      · have e2 : (c == 2) = false := by simp [c2]
        have e1 : (c == 1) = false := by simp [d1]
        simp [b14, diceD, evSs, evS, evE, evEs, R.bind, R.o, R.of, Env.get, Env.put, lateOf, idxD, atI, ixN, cmpD, eqOk, plain, plains, dep, deps, eqv, intC, opD, modD, fdivD, addD, mulD, small64, h0, h1, e2, e1, bfD, intD, endD, d14, outsOf]
end Bh.K16
/-! text K11 -/
set_option linter.all false
set_option maxRecDepth 100000
set_option Elab.async false
namespace Bh.K16
theorem wk_len {w : Nat} (hw : w = 3 ∨ w = 4) (k t b : Int × Int) : (wk w k t b).length ≤ 12 := by
  unfold wk; rw [List.length_map]; exact Nat.le_trans (List.length_filter_le ..) (filt_len hw _)
theorem wt_len {w : Nat} (hw : w = 3 ∨ w = 4) (k t b : Int × Int) : (wt w k t b).length ≤ 12 := by
  unfold wt; rw [List.length_map]; exact Nat.le_trans (List.length_filter_le ..) (filt_len hw _)
theorem turnW (n : Nat) {w : Nat} (hw : w = 3 ∨ w = 4) {k t b : Int × Int} (hk : k ∈ sqI w) (ht : t ∈ sqI w) (hb : b ∈ sqI w) (hl : letP wS k t b = true) (dv o3 o4 o5 o6 o7 o8 o9 o10 o11 o12 o13 o14 o15 o16 o17 : Option D) : ∃ o10' o11' o12' o13' o14' o15' o16' o17', evSs pg.tb (lev pg (n + 8)) [uw0, uw1, uw2, uw3] [dv, (some (hD w)), (some (.lst ((sqI w).map pd))), o3, some (.str wS), some (.tup [.str wS, pd k, pd t, pd b]), o6, some (pd k), some (pd t), some (pd b), o10, o11, o12, o13, o14, o15, o16, o17] = .nx [dv, (some (hD w)), (some (.lst ((sqI w).map pd))), o3, some (.str wS), some (.tup [.str wS, pd k, pd t, pd b]), o6, some (pd k), some (pd t), some (pd b), o10', o11', o12', o13', o14', o15', o16', o17'] := by
  obtain ⟨h1, h2, h3⟩ := letP_ne hl
  have w1 := wk_len hw k t b
  have w2 := wt_len hw k t b
  have s0 := uw0_ok hw hk ht hb (n + 4) dv o3 o4 o5 o6 o7 o8 o9 o10 o11 o12 o13 o14 o15 o16 o17
  obtain ⟨a1, a2, a3, s2⟩ := loopR (n + 8) w k t b dv o3 o6 o10 (some (.lst (wk w k t b))) o14 o17 (sqI w) [] o13 o15 o16 (by have := sq_len hw; simp; omega)
  rw [rides_eq hw hk ht hb h1 h3, List.nil_append] at s2
  have e8 := c8w (n + 2) hw hk ht hb hl
  have em : mvs w wS k t b = wk w k t b ++ wt w k t b := by unfold mvs; rw [if_pos rfl]
  have hf := ne_self (flat_mono (flat_lst (flat_mvs w wS k t b)) (m := 100) (by decide))
  rw [em] at hf e8
  have hlen : (wk w k t b).length + (wt w k t b).length ≤ 16777216 := by omega
  refine ⟨o10, some (.lst (wk w k t b)), some (.lst (wt w k t b)), a1, o14, a2, a3, o17, ?_⟩
  rw [z_cons, s0, seq_nx, z_cons]
  unfold uw1 uw3
  rw [uw2_eq]
  simp [get_lit, Env.put, okLen, setO, isNew, kindOf, z_nil, z_cons, z_set, z_thaw, z_expr, z_ret, z_ite, z_fors, y_var, y_con, y_cmp, y_idx, y_op, y_tup, y_lst, y_bf, y_and, y_or, y_no, y_call, y_meth, y_nil, y_cons, y_seq, y_c0, y_c1, y_mm, y_lcTurn, objD, hD_eq]
  rw [s2]
  simp [get_lit, Env.put, okLen, setO, isNew, kindOf, z_nil, z_cons, z_set, z_thaw, z_expr, z_ret, z_ite, z_fors, y_var, y_con, y_cmp, y_idx, y_op, y_tup, y_lst, y_bf, y_and, y_or, y_no, y_call, y_meth, y_nil, y_cons, y_seq, y_c0, y_c1, y_mm, y_lcTurn, objD, hD_eq, meth2, e8, hf, hlen]
theorem turnBl (n : Nat) {w : Nat} (hw : w = 3 ∨ w = 4) {k t b : Int × Int} (hk : k ∈ sqI w) (ht : t ∈ sqI w) (hb : b ∈ sqI w) (hl : letP bS k t b = true) (dv o3 o4 o5 o6 o7 o8 o9 o10 o11 o12 o13 o14 o15 o16 o17 : Option D) : ∃ o10' o11' o12' o13' o14' o15' o16' o17', evSs pg.tb (lev pg (n + 8)) [ub0, ub1, ub2, ub3] [dv, (some (hD w)), (some (.lst ((sqI w).map pd))), o3, some (.str bS), some (.tup [.str bS, pd k, pd t, pd b]), o6, some (pd k), some (pd t), some (pd b), o10, o11, o12, o13, o14, o15, o16, o17] = .nx [dv, (some (hD w)), (some (.lst ((sqI w).map pd))), o3, some (.str bS), some (.tup [.str bS, pd k, pd t, pd b]), o6, some (pd k), some (pd t), some (pd b), o10', o11', o12', o13', o14', o15', o16', o17'] := by
  obtain ⟨h1, h2, h3⟩ := letP_ne hl
  have hfl := filt_len hw fun two => ap two b == 1 && two != k
  obtain ⟨a1, s2⟩ := loopA (n + 4) hw b hk ht dv o3 o6 o10 o11 o12 o15 o16 o17 ((sqI w).filter fun two => ap two b == 1 && two != k) [] o13 filt_sq (by simp; omega)
  have em : mvs w bS k t b = ((sqI w).filter fun one => ap one b == 1).flatMap (bm k t) := by unfold mvs; rw [if_neg (by decide)]
  rw [after_eq h1, ← em, List.nil_append] at s2
  have e8 := c8b (n + 2) hw hk ht hb hl
  have e20 := c20 n hw hk ht hb hl
  have hf := ne_self (flat_mono (flat_lst (flat_mvs w bS k t b)) (m := 100) (by decide))
  refine ⟨o10, o11, o12, a1, some (.lst (mvs w bS k t b)), o15, o16, o17, ?_⟩
  unfold ub0 ub2 ub3
  rw [ub1_eq]
  have h0 := ev_lcM (tb := pg.tb) (cf := lev pg (n + 8)) pd (i := 17) (it := .seq (.var 2)) (c := some (.and (.cmp .eq (.cons (.call 16 (.cons (.var 17) (.cons (.var 9) .nil))) (.cons (.con (.int 1)) .nil))) (.cmp .ne (.cons (.var 17) (.cons (.var 7) .nil))))) (e := .var 17) (xs := sqI w) (env := [dv, (some (hD w)), (some (.lst ((sqI w).map pd))), o3, some (.str bS), some (.tup [.str bS, pd k, pd t, pd b]), o6, some (pd k), some (pd t), some (pd b), o10, o11, o12, o13, some (.lst []), o15, o16, o17]) (env0 := [dv, (some (hD w)), (some (.lst ((sqI w).map pd))), o3, some (.str bS), some (.tup [.str bS, pd k, pd t, pd b]), o6, some (pd k), some (pd t), some (pd b), o10, o11, o12, o13, some (.lst []), o15, o16, o17])
      (fun two => if (ap two b == 1 && two != k) then some (pd two) else none) (by simp [get_lit, Env.put, okLen, setO, isNew, kindOf, z_nil, z_cons, z_set, z_thaw, z_expr, z_ret, z_ite, z_fors, y_var, y_con, y_cmp, y_idx, y_op, y_tup, y_lst, y_bf, y_and, y_or, y_no, y_call, y_meth, y_nil, y_cons, y_seq, y_c0, y_c1, y_mm, y_lcTurn, objD, hD_eq]) (by have := sq_len hw; simp [okLen]; omega) (fun two _ => by
        simp only [y_lcTurn]
        simp [get_lit, Env.put, okLen, setO, isNew, kindOf, z_nil, z_cons, z_set, z_thaw, z_expr, z_ret, z_ite, z_fors, y_var, y_con, y_cmp, y_idx, y_op, y_tup, y_lst, y_bf, y_and, y_or, y_no, y_call, y_meth, y_nil, y_cons, y_seq, y_c0, y_c1, y_mm, y_lcTurn, objD, hD_eq, c16]
        cases h3 : ap two b == 1 <;> have h4 := h3 <;> simp at h4 <;> by_cases h5 : two = k <;> (first | (simp [h4, h5]; done) | (have h6 : (two != k) = true := (by simp [h5]); simp [h4, h5, h6])))
  rw [fm_if] at h0
  simp only [z_cons, z_thaw, y_lst, y_nil, bind_ok, o_ok, List.length_nil, okLen, Nat.zero_le, decide_true, if_true, setO, isNew, kindOf, Env.put, z_fors, y_seq]
  simp
  rw [h0]
  simp
  rw [s2]
  simp [get_lit, Env.put, okLen, setO, isNew, kindOf, z_nil, z_cons, z_set, z_thaw, z_expr, z_ret, z_ite, z_fors, y_var, y_con, y_cmp, y_idx, y_op, y_tup, y_lst, y_bf, y_and, y_or, y_no, y_call, y_meth, y_nil, y_cons, y_seq, y_c0, y_c1, y_mm, y_lcTurn, objD, hD_eq, meth2, e8, hf, e20, hasK]
theorem turnX (n : Nat) {w : Nat} (hw : w = 3 ∨ w = 4) (tn : List Nat) {k t b : Int × Int} (hk : k ∈ sqI w) (ht : t ∈ sqI w) (hb : b ∈ sqI w) (hl : letP tn k t b = false) (dv o3 o4 o5 o6 o7 o8 o9 o10 o11 o12 o13 o14 o15 o16 o17 : Option D) : evSs pg.tb (lev pg (n + 8)) ux [dv, (some (hD w)), (some (.lst ((sqI w).map pd))), o3, some (.str tn), some (.tup [.str tn, pd k, pd t, pd b]), o6, some (pd k), some (pd t), some (pd b), o10, o11, o12, o13, o14, o15, o16, o17] = .nx [dv, (some (hD w)), (some (.lst ((sqI w).map pd))), o3, some (.str tn), some (.tup [.str tn, pd k, pd t, pd b]), o6, some (pd k), some (pd t), some (pd b), o10, o11, o12, o13, o14, o15, o16, o17] := by
  have e8 := c8x n hw tn hk ht hb hl
  unfold ux
  simp only [z_cons, z_nil, z_ite, y_cmp, y_cons, y_told, late_told, lateK_none, lev_lv, lev_low]
  have t2 : pg.tb.told 2 = some (.str [109, 111, 118, 101]) := rfl
  simp [get_lit, Env.put, okLen, setO, isNew, kindOf, z_nil, z_cons, z_set, z_thaw, z_expr, z_ret, z_ite, z_fors, y_var, y_con, y_cmp, y_idx, y_op, y_tup, y_lst, y_bf, y_and, y_or, y_no, y_call, y_meth, y_nil, y_cons, y_seq, y_c0, y_c1, y_mm, y_lcTurn, objD, hD_eq, meth2, e8, t2]
end Bh.K16
/-! text K12 -/
set_option linter.all false
set_option maxRecDepth 100000
set_option Elab.async false
namespace Bh.K16
theorem roll (n : Nat) (a b c m : Int) (h0 : 0 < m) (h1 : m < 1073741824) : ∃ r a' b' c' : Int, 0 ≤ r ∧ r < m ∧ (lev pg (n + 1)).c 0 14 [diceD a b c, .int m] = .ok (.int r) [diceD a' b' c'] := roll_ok (lev pg n) a b c m h0 h1
theorem idxSq {w : Nat} {r : Int} (h0 : 0 ≤ r) (h1 : r < (sqI w).length) : ∃ p ∈ sqI w, idxD (.lst ((sqI w).map pd)) (.int r) = some (pd p) := by
  have h2 : r.toNat < (sqI w).length := by omega
  refine ⟨(sqI w)[r.toNat], List.getElem_mem h2, ?_⟩
  simp [idxD, atI, ixN, h0, h1, List.getElem?_eq_getElem h2]
theorem sq_pos {w : Nat} (hw : w = 3 ∨ w = 4) : 9 ≤ (sqI w).length := by rcases hw with rfl | rfl <;> decide
def fine (w : Nat) (env : Env) : Prop := ∃ (a b c : Int) (o3 o4 o5 o6 o7 o8 o9 o10 o11 o12 o13 o14 o15 o16 o17 : Option D), env = [some (diceD a b c), (some (hD w)), (some (.lst ((sqI w).map pd))), o3, o4, o5, o6, o7, o8, o9, o10, o11, o12, o13, o14, o15, o16, o17]
theorem u0_ok (n w : Nat) (a b c : Int) (o3 o4 o5 o6 o7 o8 o9 o10 o11 o12 o13 o14 o15 o16 o17 : Option D) : ∃ (tn : List Nat) (a' b' c' : Int), (tn = wS ∨ tn = bS) ∧ evS pg.tb (lev pg (n + 8)) u0 [some (diceD a b c), (some (hD w)), (some (.lst ((sqI w).map pd))), o3, o4, o5, o6, o7, o8, o9, o10, o11, o12, o13, o14, o15, o16, o17] = .nx [some (diceD a' b' c'), (some (hD w)), (some (.lst ((sqI w).map pd))), o3, some (.str tn), o5, o6, o7, o8, o9, o10, o11, o12, o13, o14, o15, o16, o17] := by
  obtain ⟨r, a', b', c', h0, h1, h2⟩ := roll (n + 7) a b c 2 (by decide) (by decide)
  have hr : r = 0 ∨ r = 1 := by omega
  have hp : ∀ d, hasK (kindOf (.int 2)) d = hasK 0 d := fun _ => rfl
  rcases hr with rfl | rfl
  · refine ⟨wS, a', b', c', .inl rfl, ?_⟩
    have hi : idxD (.str [119, 98]) (.int 0) = some (.str wS) := rfl
    unfold u0
    simp [get_lit, Env.put, okLen, setO, isNew, kindOf, z_nil, z_cons, z_set, z_thaw, z_expr, z_ret, z_ite, z_fors, y_var, y_con, y_cmp, y_idx, y_op, y_tup, y_lst, y_bf, y_and, y_or, y_no, y_call, y_meth, y_nil, y_cons, y_seq, y_c0, y_c1, y_mm, y_lcTurn, objD, hD_eq, h2, hi]
  · refine ⟨bS, a', b', c', .inr rfl, ?_⟩
    have hi : idxD (.str [119, 98]) (.int 1) = some (.str bS) := rfl
    unfold u0
    simp [get_lit, Env.put, okLen, setO, isNew, kindOf, z_nil, z_cons, z_set, z_thaw, z_expr, z_ret, z_ite, z_fors, y_var, y_con, y_cmp, y_idx, y_op, y_tup, y_lst, y_bf, y_and, y_or, y_no, y_call, y_meth, y_nil, y_cons, y_seq, y_c0, y_c1, y_mm, y_lcTurn, objD, hD_eq, h2, hi]
theorem range3 : rangeD 0 3 = [.int 0, .int 1, .int 2] := rfl
theorem u1_ok (n : Nat) {w : Nat} (hw : w = 3 ∨ w = 4) (a b c : Int) (o3 o4 o5 o6 o7 o8 o9 o10 o11 o12 o13 o14 o15 o16 o17 : Option D) : ∃ (k t q : Int × Int) (a' b' c' : Int), k ∈ sqI w ∧ t ∈ sqI w ∧ q ∈ sqI w ∧ evS pg.tb (lev pg (n + 8)) u1 [some (diceD a b c), (some (hD w)), (some (.lst ((sqI w).map pd))), o3, o4, o5, o6, o7, o8, o9, o10, o11, o12, o13, o14, o15, o16, o17] = .nx [some (diceD a' b' c'), (some (hD w)), (some (.lst ((sqI w).map pd))), o3, o4, o5, o6, some (pd k), some (pd t), some (pd q), o10, o11, o12, o13, o14, o15, o16, o17] := by
  have l1 := sq_pos hw
  have l2 := sq_len hw
  obtain ⟨r1, a1, b1, c1, p1, p2, p3⟩ := roll (n + 7) a b c (sqI w).length (by omega) (by omega)
  obtain ⟨r2, a2, b2, c2, q1, q2, q3⟩ := roll (n + 7) a1 b1 c1 (sqI w).length (by omega) (by omega)
  obtain ⟨r3, a3, b3, c3, s1, s2, s3⟩ := roll (n + 7) a2 b2 c2 (sqI w).length (by omega) (by omega)
  obtain ⟨k, hk, hk2⟩ := idxSq p1 p2
  obtain ⟨t, ht, ht2⟩ := idxSq q1 q2
  obtain ⟨q, hq, hq2⟩ := idxSq s1 s2
  refine ⟨k, t, q, a3, b3, c3, hk, ht, hq, ?_⟩
  have ro : rngOk 0 3 = true := by decide
  unfold u1
  simp [get_lit, Env.put, okLen, setO, isNew, kindOf, z_nil, z_cons, z_set, z_thaw, z_expr, z_ret, z_ite, z_fors, y_var, y_con, y_cmp, y_idx, y_op, y_tup, y_lst, y_bf, y_and, y_or, y_no, y_call, y_meth, y_nil, y_cons, y_seq, y_c0, y_c1, y_mm, y_lcTurn, objD, hD_eq, z_bind, evE_lc, y_rng1, ro, range3, lcLoop, bindT, Env.wipe, Env.back, T.slots, p3, q3, s3, hk2, ht2, hq2]
theorem turn_ok (n : Nat) {w : Nat} (hw : w = 3 ∨ w = 4) {env : Env} (hf : fine w env) : ∃ env', evSs pg.tb (lev pg (n + 8)) turnB env = .nx env' ∧ fine w env' := by
  obtain ⟨a, b, c, o3, o4, o5, o6, o7, o8, o9, o10, o11, o12, o13, o14, o15, o16, o17, rfl⟩ := hf
  obtain ⟨tn, a1, b1, c1, htn, h0⟩ := u0_ok n w a b c o3 o4 o5 o6 o7 o8 o9 o10 o11 o12 o13 o14 o15 o16 o17
  obtain ⟨k, t, q, a2, b2, c2, hk, ht, hq, h1⟩ := u1_ok n hw a1 b1 c1 o3 (some (.str tn)) o5 o6 o7 o8 o9 o10 o11 o12 o13 o14 o15 o16 o17
  rw [turn_eq, z_cons, h0, seq_nx, z_cons, h1, seq_nx]
  have e7 := c7 (n + 3) hw tn hk ht hq
  have e18 := c18 (n + 5) hw tn hk ht hq
  have e6 := c6 (n + 4) hw hk ht hq
  have e17 := c17 (n + 6) k t q
  have h5 : evS pg.tb (lev pg (n + 8)) u5 [some (diceD a2 b2 c2), (some (hD w)), (some (.lst ((sqI w).map pd))), o3, some (.str tn), some (.tup [.str tn, pd k, pd t, pd q]), some (.bl (letP tn k t q)), some (pd k), some (pd t), some (pd q), o10, o11, o12, o13, o14, o15, o16, o17] = .nx [some (diceD a2 b2 c2), (some (hD w)), (some (.lst ((sqI w).map pd))), o3, some (.str tn), some (.tup [.str tn, pd k, pd t, pd q]), some (.bl (letP tn k t q)), some (pd k), some (pd t), some (pd q), o10, o11, o12, o13, o14, o15, o16, o17] := by
    unfold u5
    by_cases x1 : t = q
    · simp [get_lit, Env.put, okLen, setO, isNew, kindOf, z_nil, z_cons, z_set, z_thaw, z_expr, z_ret, z_ite, z_fors, y_var, y_con, y_cmp, y_idx, y_op, y_tup, y_lst, y_bf, y_and, y_or, y_no, y_call, y_meth, y_nil, y_cons, y_seq, y_c0, y_c1, y_mm, y_lcTurn, objD, hD_eq, x1]
    · have x1' : (t != q) = true := by simp [x1]
      by_cases x2 : k = q
      · simp [get_lit, Env.put, okLen, setO, isNew, kindOf, z_nil, z_cons, z_set, z_thaw, z_expr, z_ret, z_ite, z_fors, y_var, y_con, y_cmp, y_idx, y_op, y_tup, y_lst, y_bf, y_and, y_or, y_no, y_call, y_meth, y_nil, y_cons, y_seq, y_c0, y_c1, y_mm, y_lcTurn, objD, hD_eq, x1', x2]
      · have x2' : (k != q) = true := by simp [x2]
        by_cases x3 : k = t
        · simp [get_lit, Env.put, okLen, setO, isNew, kindOf, z_nil, z_cons, z_set, z_thaw, z_expr, z_ret, z_ite, z_fors, y_var, y_con, y_cmp, y_idx, y_op, y_tup, y_lst, y_bf, y_and, y_or, y_no, y_call, y_meth, y_nil, y_cons, y_seq, y_c0, y_c1, y_mm, y_lcTurn, objD, hD_eq, x1', x2', x3]
        · have x3' : (k != t) = true := by simp [x3]
          rw [dg_att hw hk ht hq x3 x2 x1] at e17
          simp [get_lit, Env.put, okLen, setO, isNew, kindOf, z_nil, z_cons, z_set, z_thaw, z_expr, z_ret, z_ite, z_fors, y_var, y_con, y_cmp, y_idx, y_op, y_tup, y_lst, y_bf, y_and, y_or, y_no, y_call, y_meth, y_nil, y_cons, y_seq, y_c0, y_c1, y_mm, y_lcTurn, objD, hD_eq, meth0, x1', x2', x3', e6, e17]
  have h2 : ∀ ss, evSs pg.tb (lev pg (n + 8)) (u2 :: u3 :: u4 :: u5 :: ss) [some (diceD a2 b2 c2), (some (hD w)), (some (.lst ((sqI w).map pd))), o3, some (.str tn), o5, o6, some (pd k), some (pd t), some (pd q), o10, o11, o12, o13, o14, o15, o16, o17] = evSs pg.tb (lev pg (n + 8)) ss [some (diceD a2 b2 c2), (some (hD w)), (some (.lst ((sqI w).map pd))), o3, some (.str tn), some (.tup [.str tn, pd k, pd t, pd q]), some (.bl (letP tn k t q)), some (pd k), some (pd t), some (pd q), o10, o11, o12, o13, o14, o15, o16, o17] := by
    intro ss
    have g2 : evS pg.tb (lev pg (n + 8)) u2 [some (diceD a2 b2 c2), (some (hD w)), (some (.lst ((sqI w).map pd))), o3, some (.str tn), o5, o6, some (pd k), some (pd t), some (pd q), o10, o11, o12, o13, o14, o15, o16, o17] = .nx [some (diceD a2 b2 c2), (some (hD w)), (some (.lst ((sqI w).map pd))), o3, some (.str tn), some (.tup [.str tn, pd k, pd t, pd q]), o6, some (pd k), some (pd t), some (pd q), o10, o11, o12, o13, o14, o15, o16, o17] := by
      unfold u2
      simp [get_lit, Env.put, okLen, setO, isNew, kindOf, z_nil, z_cons, z_set, z_thaw, z_expr, z_ret, z_ite, z_fors, y_var, y_con, y_cmp, y_idx, y_op, y_tup, y_lst, y_bf, y_and, y_or, y_no, y_call, y_meth, y_nil, y_cons, y_seq, y_c0, y_c1, y_mm, y_lcTurn, objD, hD_eq]
    have g3 : evS pg.tb (lev pg (n + 8)) u3 [some (diceD a2 b2 c2), (some (hD w)), (some (.lst ((sqI w).map pd))), o3, some (.str tn), some (.tup [.str tn, pd k, pd t, pd q]), o6, some (pd k), some (pd t), some (pd q), o10, o11, o12, o13, o14, o15, o16, o17] = .nx [some (diceD a2 b2 c2), (some (hD w)), (some (.lst ((sqI w).map pd))), o3, some (.str tn), some (.tup [.str tn, pd k, pd t, pd q]), some (.bl (letP tn k t q)), some (pd k), some (pd t), some (pd q), o10, o11, o12, o13, o14, o15, o16, o17] := by
      unfold u3
      simp [get_lit, Env.put, okLen, setO, isNew, kindOf, z_nil, z_cons, z_set, z_thaw, z_expr, z_ret, z_ite, z_fors, y_var, y_con, y_cmp, y_idx, y_op, y_tup, y_lst, y_bf, y_and, y_or, y_no, y_call, y_meth, y_nil, y_cons, y_seq, y_c0, y_c1, y_mm, y_lcTurn, objD, hD_eq, e18]
    have g4 : evS pg.tb (lev pg (n + 8)) u4 [some (diceD a2 b2 c2), (some (hD w)), (some (.lst ((sqI w).map pd))), o3, some (.str tn), some (.tup [.str tn, pd k, pd t, pd q]), some (.bl (letP tn k t q)), some (pd k), some (pd t), some (pd q), o10, o11, o12, o13, o14, o15, o16, o17] = .nx [some (diceD a2 b2 c2), (some (hD w)), (some (.lst ((sqI w).map pd))), o3, some (.str tn), some (.tup [.str tn, pd k, pd t, pd q]), some (.bl (letP tn k t q)), some (pd k), some (pd t), some (pd q), o10, o11, o12, o13, o14, o15, o16, o17] := by
      unfold u4
      simp [get_lit, Env.put, okLen, setO, isNew, kindOf, z_nil, z_cons, z_set, z_thaw, z_expr, z_ret, z_ite, z_fors, y_var, y_con, y_cmp, y_idx, y_op, y_tup, y_lst, y_bf, y_and, y_or, y_no, y_call, y_meth, y_nil, y_cons, y_seq, y_c0, y_c1, y_mm, y_lcTurn, objD, hD_eq, meth1, e7]
    rw [z_cons, g2, seq_nx, z_cons, g3, seq_nx, z_cons, g4, seq_nx, z_cons, h5, seq_nx]
  rw [h2]
  cases hl : letP tn k t q with
  | false =>
    have hx := turnX n hw tn hk ht hq hl (some (diceD a2 b2 c2)) o3 none none (some (.bl false)) none none none o10 o11 o12 o13 o14 o15 o16 o17
    have hq : evSs pg.tb (lev pg (n + 8)) [.ite (.no (.var 6)) ux [.ite (.cmp .eq (.cons (.var 4) (.cons (.con (.str [119])) .nil))) [uw0, uw1, uw2, uw3] [ub0, ub1, ub2, ub3]]] [some (diceD a2 b2 c2), (some (hD w)), (some (.lst ((sqI w).map pd))), o3, some (.str tn), some (.tup [.str tn, pd k, pd t, pd q]), some (.bl false), some (pd k), some (pd t), some (pd q), o10, o11, o12, o13, o14, o15, o16, o17] = .nx [some (diceD a2 b2 c2), (some (hD w)), (some (.lst ((sqI w).map pd))), o3, some (.str tn), some (.tup [.str tn, pd k, pd t, pd q]), some (.bl false), some (pd k), some (pd t), some (pd q), o10, o11, o12, o13, o14, o15, o16, o17] := by
      rw [z_cons, z_ite, y_no]
      simp [y_var, get_lit]
      rw [hx]
      simp [z_nil]
    exact ⟨_, hq, a2, b2, c2, _, _, _, _, _, _, _, _, _, _, _, _, _, _, _, rfl⟩
  | true =>
    rcases htn with rfl | rfl
    · obtain ⟨x10, x11, x12, x13, x14, x15, x16, x17, hx⟩ := turnW n hw hk ht hq hl (some (diceD a2 b2 c2)) o3 none none (some (.bl true)) none none none o10 o11 o12 o13 o14 o15 o16 o17
      have hq : evSs pg.tb (lev pg (n + 8)) [.ite (.no (.var 6)) ux [.ite (.cmp .eq (.cons (.var 4) (.cons (.con (.str [119])) .nil))) [uw0, uw1, uw2, uw3] [ub0, ub1, ub2, ub3]]] [some (diceD a2 b2 c2), (some (hD w)), (some (.lst ((sqI w).map pd))), o3, some (.str wS), some (.tup [.str wS, pd k, pd t, pd q]), some (.bl true), some (pd k), some (pd t), some (pd q), o10, o11, o12, o13, o14, o15, o16, o17] = .nx [some (diceD a2 b2 c2), (some (hD w)), (some (.lst ((sqI w).map pd))), o3, some (.str wS), some (.tup [.str wS, pd k, pd t, pd q]), some (.bl true), some (pd k), some (pd t), some (pd q), x10, x11, x12, x13, x14, x15, x16, x17] := by
        have e : (wS == [119]) = true := rfl
        simp only [z_cons, z_nil] at hx
        rw [z_cons, z_ite, y_no]
        simp [y_var, y_con, y_cmp, y_cons, y_nil, z_cons, z_nil, z_ite, get_lit, e]
        rw [hx]
        simp
      exact ⟨_, hq, a2, b2, c2, _, _, _, _, _, _, _, _, _, _, _, _, _, _, _, rfl⟩
    · obtain ⟨x10, x11, x12, x13, x14, x15, x16, x17, hx⟩ := turnBl n hw hk ht hq hl (some (diceD a2 b2 c2)) o3 none none (some (.bl true)) none none none o10 o11 o12 o13 o14 o15 o16 o17
      have hq : evSs pg.tb (lev pg (n + 8)) [.ite (.no (.var 6)) ux [.ite (.cmp .eq (.cons (.var 4) (.cons (.con (.str [119])) .nil))) [uw0, uw1, uw2, uw3] [ub0, ub1, ub2, ub3]]] [some (diceD a2 b2 c2), (some (hD w)), (some (.lst ((sqI w).map pd))), o3, some (.str bS), some (.tup [.str bS, pd k, pd t, pd q]), some (.bl true), some (pd k), some (pd t), some (pd q), o10, o11, o12, o13, o14, o15, o16, o17] = .nx [some (diceD a2 b2 c2), (some (hD w)), (some (.lst ((sqI w).map pd))), o3, some (.str bS), some (.tup [.str bS, pd k, pd t, pd q]), some (.bl true), some (pd k), some (pd t), some (pd q), x10, x11, x12, x13, x14, x15, x16, x17] := by
        have e : (bS == [119]) = false := rfl
        simp only [z_cons, z_nil] at hx
        rw [z_cons, z_ite, y_no]
        simp [y_var, y_con, y_cmp, y_cons, y_nil, z_cons, z_nil, z_ite, get_lit, e]
        rw [hx]
        simp
      exact ⟨_, hq, a2, b2, c2, _, _, _, _, _, _, _, _, _, _, _, _, _, _, _, rfl⟩

theorem turns_ok (n : Nat) {w : Nat} (hw : w = 3 ∨ w = 4) : ∀ (l : List D) (env : Env), fine w env → ∃ env', forL (.one 3) (evSs pg.tb (lev pg (n + 8)) turnB) l env = .nx env' ∧ fine w env'
  | [], env, h => ⟨env, rfl, h⟩
  | x :: l, env, h => by
    have h' : fine w (env.put 3 x) := by
      obtain ⟨a, b, c, o3, o4, o5, o6, o7, o8, o9, o10, o11, o12, o13, o14, o15, o16, o17, rfl⟩ := h
      exact ⟨a, b, c, _, _, _, _, _, _, _, _, _, _, _, _, _, _, _, rfl⟩
    obtain ⟨e1, h1, h2⟩ := turn_ok n hw h'
    obtain ⟨e2, h3, h4⟩ := turns_ok n hw l e1 h2
    refine ⟨e2, ?_, h4⟩
    rw [forL]
    simp only [bindT]
    rw [h1]
    exact h3
/-- the law's part: it holds for all dice -/
theorem rest_ok (n : Nat) {w : Nat} (hw : w = 3 ∨ w = 4) (a b c : Int) : ∃ a' b' c', (lev pg (n + 9)).c 0 21 [diceD a b c, hD w, .lst ((sqI w).map pd)] = .ok (.bl true) [diceD a' b' c'] := by
  have hf : fine w [some (diceD a b c), some (hD w), some (.lst ((sqI w).map pd)), none, none, none, none, none, none, none, none, none, none, none, none, none, none, none] := ⟨a, b, c, _, _, _, _, _, _, _, _, _, _, _, _, _, _, _, rfl⟩
  obtain ⟨e1, h1, a', b', c', o3, o4, o5, o6, o7, o8, o9, o10, o11, o12, o13, o14, o15, o16, o17, rfl⟩ := turns_ok n hw (rangeD 0 5) _ hf
  refine ⟨a', b', c', ?_⟩
  rw [lev_call (df := d21) rfl rfl]
  have hb : d21.body = [.fors (.one 3) (.rng1 (.con (.int 5))) turnB, .ret (.call 19 .nil)] := rfl
  rw [hb]
  have hr : rngOk 0 5 = true := by decide
  simp only [z_cons, z_fors, y_rng1, y_con, bind_ok, rngD_int, hr, if_true, of_some, o_ok]
  have hs : startE d21 [diceD a b c, hD w, .lst ((sqI w).map pd)] = [some (diceD a b c), some (hD w), some (.lst ((sqI w).map pd)), none, none, none, none, none, none, none, none, none, none, none, none, none, none, none] := rfl
  rw [hs, h1]
  have hio : d21.io = [0] := rfl
  simp [z_ret, y_call, y_nil, c19 (n + 2), hio, outsOf, get_lit]
end Bh.K16
/-! text K13 -/
set_option linter.all false
set_option maxRecDepth 100000
set_option Elab.async false
namespace Bh.K16
theorem pow18 : opD .pow (.int 10) (.int 18) = some (.int 1000000000000000000) := by rfl
theorem dice_ok (n : Nat) (m : Int) : ∃ a b c, (lev pg (n + 1)).c 0 13 [.int m] = .ok (diceD a b c) [] := by
  rw [lev_call (df := d13) rfl rfl]
  simp only [d13, b13]
  have hI : ∀ i : Int, bfD .int [.int i] = some (.int i) := fun _ => rfl
  have hB : ∀ b : Bool, bfD .int [.bl b] = some (.int (if b then 1 else 0)) := fun _ => rfl
  have hM : ∀ i : Int, opD .mod (.int i) (.int 1009) = some (.int (i % 1009)) := fun _ => rfl
  cases h1 : decide (-10 < m) <;> cases h2 : decide (m < 10) <;>
  · simp [startE, get_lit, Env.put, outsOf, okLen, z_nil, z_cons, z_ret, z_ite, y_var, y_con, y_cmp, y_chain, y_op, y_lst, y_bf, y_nil, y_cons, h1, h2, hI, hB, hM, pow18, diceD]
theorem rd_ok (ns : List Int) : ∃ a b c e, evSs pg.tb (lev pg 13) rdB [none, some (.int 1), some (.lst ((ns.take 1).map .int)), none] = .ret (.lst [diceD a b c]) e := by
  have hn : ∀ l : List Int, cmpD .eq (.lst (l.map .int)) (.lst []) = some l.isEmpty := fun l => by
    rw [eq_flat (flat_mono (flat_lst (n := 0) fun d hd => by obtain ⟨i, _, rfl⟩ := List.mem_map.mp hd; exact flat_int) (by decide)) (flat_mono (flat_lst (n := 0) (by simp)) (by decide))]
    cases l <;> simp [eqv, eqvs]
  have one : ∀ m : Int, ∃ a b c e, evSs pg.tb (lev pg 13) rdB [none, some (.int 1), some (.lst [.int m]), none] = .ret (.lst [diceD a b c]) e := fun m => by
    obtain ⟨a, b, c, h⟩ := dice_ok 12 m
    have := hn [m]
    refine ⟨a, b, c, [none, some (.int 1), some (.lst [.int m]), none], ?_⟩
    unfold rdB
    simp only [List.map] at this
    simp [get_lit, Env.put, okLen, z_nil, z_cons, z_ret, z_ite, y_var, y_con, y_cmp, y_lst, y_nil, y_cons, this, evE_lc, y_seq, y_lcTurn, y_c0, y_call, lcLoop, bindT, Env.wipe, Env.back, T.slots, h]
  cases ns with
  | nil =>
    obtain ⟨a, b, c, h⟩ := dice_ok 12 0
    refine ⟨a, b, c, [none, some (.int 1), some (.lst [.int 0]), none], ?_⟩
    have := hn []
    unfold rdB
    simp only [List.map] at this
    simp [get_lit, Env.put, okLen, z_nil, z_cons, z_ret, z_ite, z_set, y_var, y_con, y_cmp, y_lst, y_nil, y_cons, this, evE_lc, y_seq, y_lcTurn, y_c0, y_call, lcLoop, bindT, Env.wipe, Env.back, T.slots, h]
  | cons m ns => exact one m
theorem c5 (n : Nat) {w : Nat} (hw : w = 3 ∨ w = 4) : (lev pg (n + 2)).c 1 5 [.obj 8 [], .int 3, .int w] = .ok .non [hD w] := by
  rcases hw with rfl | rfl <;> rfl
theorem spots3 (n : Nat) : (lev pg (n + 2)).c 0 15 [.int 3, .int (3 : Nat)] = .ok (.lst ((sqI 3).map pd)) [] := by kernel_rfl
theorem spots4 (n : Nat) : (lev pg (n + 2)).c 0 15 [.int 3, .int (4 : Nat)] = .ok (.lst ((sqI 4).map pd)) [] := by kernel_rfl
theorem rest14 {w : Nat} (hw : w = 3 ∨ w = 4) (a b c : Int) : ∃ a' b' c', (lev pg 14).c 0 21 [diceD a b c, hD w, .lst ((sqI w).map pd)] = .ok (.bl true) [diceD a' b' c'] := rest_ok 5 hw a b c
theorem mk14 {w : Nat} (hw : w = 3 ∨ w = 4) : (lev pg 14).c 1 5 [.obj 8 [], .int 3, .int w] = .ok .non [hD w] := c5 12 hw
theorem sp14 {w : Nat} (hw : w = 3 ∨ w = 4) : (lev pg 14).c 0 15 [.int 3, .int w] = .ok (.lst ((sqI w).map pd)) [] := by
  rcases hw with rfl | rfl
  · exact spots3 12
  · exact spots4 12
theorem roll14 (a b c : Int) : ∃ r a' b' c' : Int, (r = 0 ∨ r = 1) ∧ (lev pg 14).c 0 14 [diceD a b c, .int 2] = .ok (.int r) [diceD a' b' c'] := by
  obtain ⟨r, a1, b1, c1, h0, h1, h2⟩ := roll 13 a b c 2 (by decide) (by decide)
  exact ⟨r, a1, b1, c1, by omega, h2⟩
theorem mkh (cf : CF) {w : Nat} (a1 b1 c1 : Int) (e5 : cf.c 1 5 [.obj 8 [], .int 3, .int w] = .ok .non [hD w]) : evE pg.tb cf (.make 8 (.cons (.var 2) (.cons (.var 3) .nil))) [none, some (diceD a1 b1 c1), some (.int 3), some (.int w), none, none] = .ok (hD w) [none, some (diceD a1 b1 c1), some (.int 3), some (.int w), none, none] := by
  have hi : pg.tb.init 8 = some 5 := rfl
  rw [y_make]
  simp [get_lit, y_cons, y_nil, y_var, hi]
  rw [e5]
  simp
theorem lw_cf (cf : CF) {w : Nat} (a b c a1 b1 c1 a2 b2 c2 r : Int) (hr : 3 + r = (w : Int)) (h2 : cf.c 0 14 [diceD a b c, .int 2] = .ok (.int r) [diceD a1 b1 c1]) (e5 : cf.c 1 5 [.obj 8 [], .int 3, .int w] = .ok .non [hD w]) (es : cf.c 0 15 [.int 3, .int w] = .ok (.lst ((sqI w).map pd)) [])
    (h3 : cf.c 0 21 [diceD a1 b1 c1, hD w, .lst ((sqI w).map pd)] = .ok (.bl true) [diceD a2 b2 c2]) :
    evSs pg.tb cf lwB (Env.put (List.replicate 6 none) 1 (diceD a b c)) = .nx [none, some (diceD a2 b2 c2), some (.int 3), some (.int w), some (hD w), some (.lst ((sqI w).map pd))] := by
  have hm := mkh cf a1 b1 c1 e5
  unfold lwB
  simp [get_lit, Env.put, okLen, setO, z_nil, z_cons, z_ret, z_ite, z_par2, y_var, y_con, y_op, y_no, y_call, y_nil, y_cons, h2, hr]
  rw [hm]
  simp [get_lit, y_cons, y_nil, y_var]
  rw [es]
  simp [get_lit]
  rw [h3]
  simp [Env.put]
theorem lw_ok (a b c : Int) : ∃ e, evSs pg.tb (lev pg 14) lwB (Env.put (List.replicate 6 none) 1 (diceD a b c)) = .nx e := by
  obtain ⟨r, a1, b1, c1, h1, h2⟩ := roll14 a b c
  have key : ∀ w : Nat, (w = 3 ∨ w = 4) → (3 + r = (w : Int)) → ∃ e, evSs pg.tb (lev pg 14) lwB (Env.put (List.replicate 6 none) 1 (diceD a b c)) = .nx e := fun w hw hr => by
    obtain ⟨a2, b2, c2, h3⟩ := rest14 hw a1 b1 c1
    exact ⟨_, lw_cf (lev pg 14) a b c a1 b1 c1 a2 b2 c2 r hr h2 (mk14 hw) (sp14 hw) h3⟩
  rcases h1 with rfl | rfl
  · exact key 3 (.inl rfl) rfl
  · exact key 4 (.inr rfl) rfl
end Bh.K16
/-! text K16end -/
set_option Elab.async false
set_option maxRecDepth 1000000
set_option maxHeartbeats 4000000
namespace Bh.K16
open PySem PySem.W L2 PyProof.Rows
def nms : Nms where
  gn := ["STRAIGHT", "SLANT", "LEAPS", "KINDS"]
  dn := ["is_on", "beside", "ray", "distance", "goes", "__init__", "attacked", "is_let", "moves", "is_check", "is_mate", "is_stuck", "_law_flat", "_law_dice", "_law_roll", "_law_spots", "_law_apart", "_law_danger", "_law_let", "_law_cases1", "_law_ends_right", "_law_rest1"]
  pl := [none, none, none, none, none, some 8, some 8, some 8, some 8, some 8, some 8, some 8, none, none, none, none, none, none, none, none, none, none]
  nm := [["spot", "high", "wide"], ["spot", "ways", "high", "wide", "found", "down", "over", "one"], ["spot", "way", "high", "wide", "found", "here"], ["one", "other", "down", "over"], ["kind", "spot", "blocked", "high", "wide", "ways", "found", "way", "here"], ["self", "high", "wide"], ["self", "king", "tower", "spot"], ["self", "place", "turn", "king", "tower", "black", "spot"], ["self", "place", "found", "spot", "turn", "king", "tower", "black", "after"], ["self", "place", "turn", "king", "tower", "black"], ["self", "place"], ["self", "place"], ["rows", "found", "row"], ["cell"], ["dice", "many", "found"], ["high", "wide", "j", "k"], ["one", "other"], ["king", "tower", "spot", "line", "inside", "rows", "columns"], ["turn", "king", "tower", "black"], [], ["hunt", "place", "king", "tower", "black", "after", "danger"], ["dice", "hunt", "spots", "turns", "turn", "place", "fine", "king", "tower", "black", "k", "steps", "rides", "one", "after", "straight", "between", "two"]]
  tl := [false, false, false, false, false, false, false, false, false, false, false, false, false, false, false, false, false, false, false, true, false, true]
  cn := ["BoardFault", "BadSpot", "BadMove", "BadCount", "BadRow", "NoWay", "TooLarge", "BadText", "Hunt"]
  exs := [1, 2, 3, 4, 5, 6]
  mn := ["attacked", "is_let", "moves", "is_check", "is_mate", "is_stuck"]
  fn := ["high", "wide"]
  told := "_law_told"
  ex := []
def law : Lw := ⟨rwOf tab nms, "_law_rounds", ["script", "most", "cells", "cell"], rdB, ["script", "dice", "high", "wide", "hunt", "spots"], [1], lwB, 1, false⟩
theorem good : law.Good 13 := ⟨rd_ok, lw_ok⟩
end Bh.K16
open PySem PySem.W PyProof.Rows
set_option maxRecDepth 100000 in
set_option maxHeartbeats 0 in
theorem PySem.Challenge.cw_boardhall_k16_hunts_holds : PySem.Challenge.rw_boardhall_k16_hunts.Holds := by
  w_on; o_law; k_head; (case hw => w_witness2)
  k_fill
  refine LamX.walk_ofTs (l := PySem.Challenge.rw_boardhall_k16_hunts) (n := 63) (k := 15) (x := "script") (CX := fun w => L2.CX PySem.Challenge.rw_boardhall_k16_hunts.prog w) rfl (by decide) rfl ⟨rfl, by decide, by decide⟩ (fun w h Y => PySem.W.km_in_of Y) ?F (fun w => Bh.cx_no w)
  case F =>
    intro w mg fa h Y KX G hmg
    exact Bh.law_at (L := Bh.K16.law) (Bh.rwOf_ok rfl rfl) Bh.K16.good KX G (PySem.W.km_tabs_of Y) (by kernel_rfl) hmg
