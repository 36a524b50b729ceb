import PyProof.Rows.All
import Wide.All
import OpenK.AllK
import Wide.FinOn
import HandS.ForMost
import HandS.Exc
import HandS.TryOnly
import HandS.ExcOwn
import HandS.WordsExc
import HandS.Walk
import HandS.Zip
import HandS.Deep
import HandS.Style
import HandS.TupAny
import HandS.TupMul
import HandS.IsInst
import HandS.Wide
import PyProof.Rows.IntBool
import KE.KDictKeyed
import KE.KDictDisplayH
import KE.KLam
import HandS.CallSlots
import HandS.Strs
import HandS.SetFor
import HandS.Defaults
import HandS.HeadWalk
import HandS.Head0
import HandS.Head1
import HandS.Head2
import HandS.HeadEnd
import HandS.HeadHook1
import HandS.HeadHook2
import PySem.Challenge.RW_gapplanks_k01_values_recognized
set_option Elab.async false
set_option linter.all false
set_option maxRecDepth 100000
set_option maxHeartbeats 4000000
/-! The evaluator: an own small tree of expressions and statements, and what it means over plain data. -/
namespace Ev

/-- plain data -/
inductive D where
  | non | bl (b : Bool) | int (i : Int) | str (s : List Nat) | tup (xs : List D) | lst (xs : List D)

/-- a value: data, a def of the table, a lambda with what it captured, a cell of the store, a written dict of texts that stands as it is -/
inductive Vl where
  | d (x : D) | fn (g : Nat) | clo (l : Nat) (caps : List Vl) | ref (r : Nat) | dct (kvs : List (List Nat × Int))

inductive Cell where
  | lst (xs : List D) | dic (kvs : List (D × D)) | ins (c : Nat) (fs : List (Nat × Vl)) | dead

abbrev Sto := List Cell
abbrev En := List (Option Vl)

inductive R (α : Type) where
  | ok (a : α) (s : Sto) | ex (c : Nat) (fs : List D) (s : Sto) | no

def R.bind {α β : Type} (r : R α) (f : α → Sto → R β) : R β := match r with
  | .ok a s => f a s
  | .ex c fs s => .ex c fs s
  | .no => .no

def line : Nat := 16777216

/-! ### equality, order -/
def D.num : D → Option Int
  | .int i => some i
  | .bl b => some (if b then 1 else 0)
  | _ => none

mutual
def D.eqv : D → D → Bool
  | .non, .non => true
  | .bl a, .bl b => a == b
  | .int a, .int b => a == b
  | .bl a, .int b => (if a then 1 else 0) == b
  | .int a, .bl b => a == (if b then 1 else 0)
  | .str a, .str b => a == b
  | .tup xs, .tup ys => D.eqvs xs ys
  | .lst xs, .lst ys => D.eqvs xs ys
  | _, _ => false
def D.eqvs : List D → List D → Bool
  | [], [] => true
  | x :: xs, y :: ys => D.eqv x y && D.eqvs xs ys
  | _, _ => false
end

mutual
def D.depth : D → Nat
  | .tup xs => D.depths xs + 1
  | .lst xs => D.depths xs + 1
  | _ => 0
def D.depths : List D → Nat
  | [] => 0
  | x :: xs => max x.depth (D.depths xs)
end

/-- codes in order -/
def ltS : List Nat → List Nat → Bool
  | [], [] => false
  | [], _ :: _ => true
  | _ :: _, [] => false
  | a :: x, b :: y => if a < b then true else if b < a then false else ltS x y

mutual
/-- Python's < where it is one: numbers, texts, tuples of these -/
def D.lt : D → D → Option Bool
  | .int a, .int b => some (decide (a < b))
  | .bl a, .bl b => some (decide ((if a then 1 else 0 : Int) < (if b then 1 else 0)))
  | .bl a, .int b => some (decide ((if a then 1 else 0 : Int) < b))
  | .int a, .bl b => some (decide (a < (if b then 1 else 0)))
  | .str a, .str b => some (ltS a b)
  | .tup xs, .tup ys => D.lts xs ys
  | _, _ => none
def D.lts : List D → List D → Option Bool
  | [], [] => some false
  | [], _ :: _ => some true
  | _ :: _, [] => some false
  | x :: xs, y :: ys => if D.eqv x y then D.lts xs ys else D.lt x y
end

/-- sorted, stable -/
def sortD : List D → Option (List D)
  | [] => some []
  | x :: xs => match sortD xs with
    | none => none
    | some ys => insF x ys
where
  /-- put in ahead of what is not less -/
  insF (x : D) : List D → Option (List D)
  | [] => some [x]
  | y :: ys => match D.lt y x with
    | none => none
    | some false => some (x :: y :: ys)
    | some true => match insF x ys with
      | none => none
      | some zs => some (y :: zs)

def inD (x : D) : List D → Bool
  | [] => false
  | y :: ys => D.eqv y x || inD x ys
/-- each once, the first of equal ones -/
def onceD : List D → List D
  | [] => []
  | x :: xs => x :: (onceD xs).filter fun y => !D.eqv y x

/-! ### dicts -/
def getD (k : D) : List (D × D) → Option D
  | [] => none
  | (k', v) :: r => if D.eqv k' k then some v else getD k r
def putD (k v : D) : List (D × D) → List (D × D)
  | [] => [(k, v)]
  | (k', v') :: r => if D.eqv k' k then (k', v) :: r else (k', v') :: putD k v r

/-! ### the tree -/
inductive Op | add | sub | mul | fdiv | mod | pow
inductive Cop | lt | le | gt | ge | eq | ne | isin | notin
inductive Ty | int | bool | str | tuple | list
inductive Bf | isi (t : Ty) | len | all | any | sorted | tuple | list | int | bool | str | abs | min | max
inductive Mf | append | pop | get2 | index | join | split | lstrip | repl2 | repl3

mutual
inductive Tg where
  | nm (i : Nat) | tp (ts : Tgs)
inductive Tgs where
  | nil | cons (t : Tg) (ts : Tgs)
end
mutual
inductive E where
  | cst (d : D) | var (i : Nat) | glo (k : Nat) | frz (i : Nat)
  | tup (es : Es) | lst (es : Es) | new (es : Es) | dic (ks vs : Es) | tdic (kvs : List (List Nat × Int))
  | bin (o : Op) (a b : E) | neg (a : E)
  | cmp (o : Cop) (a b : E) | chain (o o' : Cop) (a b c : E) | isN (a : E) | notN (a : E)
  | and (a : E) (es : Es) | or (a : E) (es : Es) | not (a : E) | ife (c a b : E)
  | idx (a i : E) | slc (a : E) (lo hi : Po) | rev (a : E)
  | call (g : Nat) (es : Es) | callv (i : Nat) (es : Es) | blt (b : Bf) (es : Es) | sset (a : E) | lset (a : E) | mth (m : Mf) (o : E) (es : Es)
  | lc (elt : E) (t : Tg) (it : It) (c : Po) (own : List Nat)
  | lam (l : Nat) (caps : List Nat)
inductive Es where
  | nil | cons (e : E) (es : Es)
inductive Po where
  | no | e (a : E)
inductive It where
  | val (a : E) | rng1 (a : E) | rng2 (a b : E) | enum (a : E) | zip (a b : E) | keys (a : E)
end

mutual
def Tg.slots : Tg → List Nat
  | .nm i => [i]
  | .tp ts => Tgs.slots ts
def Tgs.slots : Tgs → List Nat
  | .nil => []
  | .cons t ts => t.slots ++ Tgs.slots ts
end
def Tgs.len : Tgs → Nat
  | .nil => 0
  | .cons _ ts => ts.len + 1

/-! ### what the operations do -/
def rawV (st : Sto) : Vl → Option D
  | .d x => some x
  | .ref r => match st[r]? with
    | some (.lst xs) => some (.lst xs)
    | _ => none
  | _ => none
def rawVs (st : Sto) : List Vl → Option (List D)
  | [] => some []
  | v :: vs => match rawV st v with
    | none => none
    | some x => match rawVs st vs with
      | none => none
      | some xs => some (x :: xs)
/-- data alone, no cell -/
def datVs : List Vl → Option (List D)
  | [] => some []
  | .d x :: vs => match datVs vs with
    | none => none
    | some xs => some (x :: xs)
  | _ :: _ => none

def rep (k : Nat) {α : Type} (xs : List α) : List α := match k with
  | 0 => []
  | k + 1 => xs ++ rep k xs

def opD : Op → D → D → Option D
  | .add, .int a, .int b => some (.int (a + b))
  | .add, .bl a, .int b => some (.int ((if a then 1 else 0) + b))
  | .add, .int a, .bl b => some (.int (a + (if b then 1 else 0)))
  | .add, .str a, .str b => if a.length + b.length ≤ line then some (.str (a ++ b)) else none
  | .add, .tup a, .tup b => if a.length + b.length ≤ line then some (.tup (a ++ b)) else none
  | .add, .lst a, .lst b => if a.length + b.length ≤ line then some (.lst (a ++ b)) else none
  | .sub, .int a, .int b => some (.int (a - b))
  | .mul, .int a, .int b => if a.natAbs < 18446744073709551616 ∨ b.natAbs < 18446744073709551616 then some (.int (a * b)) else none
  | .mul, .str a, .int b => if b.natAbs < 1000000 ∧ a.length * b.toNat ≤ line then some (.str (rep b.toNat a)) else none
  | .mul, .tup (a :: as), .int b => if 2 ≤ b ∧ b ≤ 1000 ∧ (a :: as).length ≤ 1000 then some (.tup (rep b.toNat (a :: as))) else none
  | .fdiv, .int a, .int b => if b ≠ 0 ∧ b.natAbs < 1073741824 then some (.int (Int.fdiv a b)) else none
  | .mod, .int a, .int b => if b ≠ 0 then some (.int (Int.fmod a b)) else none
  | .pow, .int a, .int b => if 0 ≤ b ∧ b ≤ 1000 ∧ a.natAbs < 18446744073709551616 then some (.int (a ^ b.toNat)) else none
  | _, _, _ => none

/-- a sign among signs -/
def inS (c : List Nat) (s : List Nat) : Option Bool := match c with
  | [x] => some (s.contains x)
  | _ => none

def copD : Cop → D → D → Option Bool
  | .lt, .int a, .int b => some (decide (a < b))
  | .le, .int a, .int b => some (decide (a ≤ b))
  | .gt, .int a, .int b => some (decide (b < a))
  | .ge, .int a, .int b => some (decide (b ≤ a))
  | .eq, a, b => if min a.depth b.depth ≤ 64 then some (D.eqv a b) else none
  | .ne, a, b => if min a.depth b.depth ≤ 64 then some (!D.eqv a b) else none
  | .isin, .str c, .str s => inS c s
  | .notin, .str c, .str s => match inS c s with
    | some b => some (!b)
    | none => none
  | .isin, x, .tup xs => if x.depth ≤ 64 then some (inD x xs) else none
  | .isin, x, .lst xs => if x.depth ≤ 64 then some (inD x xs) else none
  | .notin, x, .tup xs => if x.depth ≤ 64 then some (!inD x xs) else none
  | .notin, x, .lst xs => if x.depth ≤ 64 then some (!inD x xs) else none
  | _, _, _ => none

def isiD : Ty → D → Bool
  | .int, .int _ => true
  | .int, .bl _ => true
  | .bool, .bl _ => true
  | .str, .str _ => true
  | .tuple, .tup _ => true
  | .list, .lst _ => true
  | _, _ => false

def ixN (n : Nat) (i : Int) : Option Nat := if 0 ≤ i then (if i < n then some i.toNat else none) else if -(n : Int) ≤ i then some (i + n).toNat else none
def idxD : D → D → Option D
  | .tup xs, .int i => match ixN xs.length i with
    | some j => xs[j]?
    | none => none
  | .lst xs, .int i => match ixN xs.length i with
    | some j => xs[j]?
    | none => none
  | .str s, .int i => match ixN s.length i with
    | some j => match s[j]? with
      | some c => some (.str [c])
      | none => none
    | none => none
  | _, _ => none

/-- a bound of a slice -/
def sIx (n d : Nat) : Option Int → Nat
  | none => d
  | some i => if 0 ≤ i then min i.toNat n else (i + n).toNat
def cut {α : Type} (xs : List α) (lo hi : Option Int) : List α := (xs.drop (sIx xs.length 0 lo)).take (sIx xs.length xs.length hi - sIx xs.length 0 lo)
def cutD (x : D) (lo hi : Option Int) : Option D := match x with
  | .str s => some (.str (cut s lo hi))
  | .tup xs => some (.tup (cut xs lo hi))
  | .lst xs => some (.lst (cut xs lo hi))
  | _ => none
def revD : D → Option D
  | .str s => some (.str s.reverse)
  | .lst s => some (.lst s.reverse)
  | _ => none

def boolsD : List D → Option (List Bool)
  | [] => some []
  | .bl b :: xs => match boolsD xs with
    | some bs => some (b :: bs)
    | none => none
  | _ => none
def intsD : List D → Option (List Int)
  | [] => some []
  | .int b :: xs => match intsD xs with
    | some bs => some (b :: bs)
    | none => none
  | _ => none
def signsD (s : List Nat) : List D := s.map fun c => .str [c]

/-- the items that a for, a comprehension goes through -/
def itemsD : D → Option (List D)
  | .tup xs => some xs
  | .lst xs => some xs
  | .str s => some (signsD s)
  | _ => none
def enumFrom : Nat → List D → List D
  | _, [] => []
  | k, x :: xs => .tup [.int k, x] :: enumFrom (k + 1) xs
def zipD : List D → List D → List D
  | x :: xs, y :: ys => .tup [x, y] :: zipD xs ys
  | _, _ => []
def rangeD (lo : Int) : Nat → List D
  | 0 => []
  | n + 1 => .int lo :: rangeD (lo + 1) n

/-- put in order, once -/
def insI (x : Int) : List Int → List Int
  | [] => [x]
  | y :: ys => if x < y then x :: y :: ys else if x = y then y :: ys else y :: insI x ys
def setI : List Int → List Int
  | [] => []
  | x :: xs => insI x (setI xs)
def minI : List Int → Option Int
  | [] => none
  | x :: xs => some (xs.foldl (fun a b => if b < a then b else a) x)
def maxI : List Int → Option Int
  | [] => none
  | x :: xs => some (xs.foldl (fun a b => if b > a then b else a) x)

/-- sorted(set(..)) -/
def ssetD : D → Option D
  | .tup xs => match intsD xs with
    | some is => if is.length < 64 then some (.lst ((setI is).map D.int)) else none
    | none => none
  | _ => none
def bLen : D → Option D
  | .tup xs => some (.int xs.length)
  | .lst xs => some (.int xs.length)
  | .str s => some (.int s.length)
  | _ => none
def bAll : D → Option D
  | .lst xs => match boolsD xs with
    | some bs => some (.bl (bs.all id))
    | none => none
  | _ => none
def bAny : D → Option D
  | .lst xs => match boolsD xs with
    | some bs => some (.bl (bs.any id))
    | none => none
  | _ => none
def bTuple : D → Option D
  | .lst xs => some (.tup xs)
  | .tup xs => some (.tup xs)
  | _ => none
def bList : D → Option D
  | .lst xs => some (.lst xs)
  | .tup xs => some (.lst xs)
  | _ => none
def bInt : D → Option D
  | .int i => some (.int i)
  | .bl b => some (.int (if b then 1 else 0))
  | _ => none
def bBool : D → Option D
  | .bl b => some (.bl b)
  | _ => none
def bAbs : D → Option D
  | .int i => some (.int (if i < 0 then -i else i))
  | _ => none
def bMin : D → Option D
  | .lst xs => match intsD xs with
    | some is => match minI is with
      | some m => some (.int m)
      | none => none
    | none => none
  | _ => none
def blt1 (b : Bf) (x : D) : Option D := match b with
  | .isi t => some (.bl (isiD t x))
  | .len => bLen x
  | .all => bAll x
  | .any => bAny x
  | .tuple => bTuple x
  | .list => bList x
  | .int => bInt x
  | .bool => bBool x
  | .abs => bAbs x
  | .min => bMin x
  | _ => none
def bMin2 : D → D → Option D
  | .int a, .int b => some (.int (if b < a then b else a))
  | _, _ => none
def bMax2 : D → D → Option D
  | .int a, .int b => some (.int (if b > a then b else a))
  | _, _ => none
def blt2 (b : Bf) (x y : D) : Option D := match b with
  | .min => bMin2 x y
  | .max => bMax2 x y
  | _ => none
def bltD (b : Bf) : List D → Option D
  | [x] => blt1 b x
  | [x, y] => blt2 b x y
  | _ => none

/-! ### the store -/
def En.get (ρ : En) (i : Nat) : Option Vl := match ρ[i]? with
  | some (some v) => some v
  | _ => none
def En.put (ρ : En) (i : Nat) (v : Vl) : En := ρ.set i (some v)
def En.wipe (ρ : En) : List Nat → En
  | [] => ρ
  | i :: is => (En.wipe ρ is).set i none

mutual
def bindT : Tg → D → En → Option En
  | .nm i, x, ρ => some (ρ.put i (.d x))
  | .tp ts, .tup xs, ρ => bindTs ts xs ρ
  | .tp _, _, _ => none
def bindTs : Tgs → List D → En → Option En
  | .nil, [], ρ => some ρ
  | .cons t ts, x :: xs, ρ => match bindT t x ρ with
    | some ρ' => bindTs ts xs ρ'
    | none => none
  | _, _, _ => none
end

/-- what stands around an expression: the defs, the lambdas, the module's constants -/
structure Ctx where
  call : Nat → List Vl → Sto → R Vl
  lam : Nat → List Vl → List Vl → Sto → R Vl
  con : Nat → Option Vl

/-- a call's own store: data alone goes in and comes out -/
def ofO (o : Option D) (s : Sto) : R Vl := match o with
  | some x => .ok (.d x) s
  | none => .no

def capsOf (ρ : En) : List Nat → Option (List Vl)
  | [] => some []
  | i :: is => match ρ.get i with
    | some v => match capsOf ρ is with
      | some vs => some (v :: vs)
      | none => none
    | none => none

def getT (k : List Nat) : List (List Nat × Int) → Option Int
  | [] => none
  | (k', v) :: r => if k' == k then some v else getT k r
/-- may be a key: a tuple without lists, not too deep -/
def D.kf : Nat → D → Bool
  | 0, .tup _ => false
  | n + 1, .tup xs => xs.all (D.kf n)
  | _, .lst _ => false
  | _, _ => true
def D.key : D → Bool
  | .tup xs => xs.all (D.kf 7)
  | _ => false
def mAppend (o : Vl) (vs : List Vl) (st : Sto) : R Vl := match o, vs with
  | .ref r, [.d x] => match st[r]? with
    | some (.lst xs) => if xs.length < line then .ok (.d .non) (st.set r (.lst (xs ++ [x]))) else .no
    | _ => .no
  | _, _ => .no
def mPop (o : Vl) (vs : List Vl) (st : Sto) : R Vl := match o, vs with
  | .ref r, [] => match st[r]? with
    | some (.lst xs) => match xs[xs.length - 1]? with
      | some x => .ok (.d x) (st.set r (.lst xs.dropLast))
      | none => .no
    | _ => .no
  | _, _ => .no
def mGet2 (o : Vl) (vs : List Vl) (st : Sto) : R Vl := match o, vs with
  | .ref r, [.d k, .d x] => match st[r]? with
    | some (.dic kvs) => if k.key then .ok (.d ((getD k kvs).getD x)) st else .no
    | _ => .no
  | _, _ => .no
def mthD (m : Mf) (o : Vl) (vs : List Vl) (st : Sto) : R Vl := match m with
  | .append => mAppend o vs st
  | .pop => mPop o vs st
  | .get2 => mGet2 o vs st
  | _ => .no

/-- what a method is called on -/
def kindM (m : Mf) (u : Vl) (st : Sto) : Bool := match m, u with
  | .append, .ref r => match st[r]? with
    | some (.lst _) => true
    | _ => false
  | .pop, .ref r => match st[r]? with
    | some (.lst _) => true
    | _ => false
  | .get2, .ref r => match st[r]? with
    | some (.dic _) => true
    | _ => false
  | _, _ => false
def zipV : D → D → Option (List D)
  | .lst xs, .lst ys => some (zipD xs ys)
  | .tup xs, .tup ys => some (zipD xs ys)
  | _, _ => none

def callV (C : Ctx) (v : Vl) (vs : List Vl) (st : Sto) : R Vl := match v with
  | .fn g => C.call g vs st
  | .clo l caps => C.lam l caps vs st
  | _ => .no

/-- the turns of a comprehension -/
def lcLoop (step : D → Sto → R (Option D)) : List D → Sto → R (List D)
  | [], st => .ok [] st
  | x :: xs, st => match step x st with
    | .ok o st => match lcLoop step xs st with
      | .ok ys st => .ok (match o with
        | some y => y :: ys
        | none => ys) st
      | _ => .no
    | _ => .no

def pairsD : List D → List D → List (D × D) → List (D × D)
  | k :: ks, v :: vs, acc => pairsD ks vs (putD k v acc)
  | _, _, acc => acc


def ofB (o : Option Bool) (s : Sto) : R Vl := match o with
  | some b => .ok (.d (.bl b)) s
  | none => .no
def noneV : Vl → Bool
  | .d .non => true
  | _ => false
/-- a comparison: in of a dict's keys, or of data -/
def cmpV (o : Cop) (u v : Vl) (st : Sto) : R Vl := match o, v with
  | .isin, .dct kvs => match u with
    | .d (.str k) => .ok (.d (.bl (getT k kvs).isSome)) st
    | _ => .no
  | .isin, .ref r => match st[r]? with
    | some (.dic kvs) => match u with
      | .d k => if k.key then .ok (.d (.bl (getD k kvs).isSome)) st else .no
      | _ => .no
    | some (.lst xs) => match u with
      | .d k => ofB (copD .isin k (.lst xs)) st
      | _ => .no
    | _ => .no
  | .notin, .ref r => match st[r]? with
    | some (.dic kvs) => match u with
      | .d k => if k.key then .ok (.d (.bl (!(getD k kvs).isSome))) st else .no
      | _ => .no
    | some (.lst xs) => match u with
      | .d k => ofB (copD .notin k (.lst xs)) st
      | _ => .no
    | _ => .no
  | o, v => match rawV st u, rawV st v with
    | some x, some y => ofB (copD o x y) st
    | _, _ => .no
/-- an item: a dict's by its key, a list's, a tuple's, a text's by its place -/
def idxV (u v : Vl) (st : Sto) : R Vl := match u with
  | .ref r => match st[r]? with
    | some (.dic kvs) => match v with
      | .d k => if k.key then ofO (getD k kvs) st else .no
      | _ => .no
    | some (.lst xs) => match v with
      | .d i => ofO (idxD (.lst xs) i) st
      | _ => .no
    | _ => .no
  | .d x => match v with
    | .d i => ofO (idxD x i) st
    | _ => .no
  | .dct kvs => match v with
    | .d (.str k) => match getT k kvs with
      | some i => .ok (.d (.int i)) st
      | none => .no
    | _ => .no
  | _ => .no
def onD {α : Type} (o : Option α) (f : α → R Vl) : R Vl := match o with
  | some x => f x
  | none => .no
/-- by a truth -/
def onB {α : Type} (v : Vl) (t f : R α) : R α := match v with
  | .d (.bl true) => t
  | .d (.bl false) => f
  | _ => .no

mutual
def evE (C : Ctx) : E → En → Sto → R Vl
  | .cst d, _, st => .ok (.d d) st
  | .var i, ρ, st => match ρ.get i with
    | some v => .ok v st
    | none => .no
  | .glo k, _, st => match C.con k with
    | some v => .ok v st
    | none => .no
  | .frz i, ρ, st => match ρ.get i with
    | some (.ref r) => match st[r]? with
      | some (.lst xs) => .ok (.d (.lst xs)) (st.set r .dead)
      | _ => .no
    | _ => .no
  | .tup es, ρ, st => (evEs C es ρ st).bind fun vs st => onD (datVs vs) fun xs => .ok (.d (.tup xs)) st
  | .lst es, ρ, st => (evEs C es ρ st).bind fun vs st => onD (datVs vs) fun xs => .ok (.d (.lst xs)) st
  | .new es, ρ, st => (evEs C es ρ st).bind fun vs st => onD (datVs vs) fun xs => .ok (.ref st.length) (st ++ [.lst xs])
  | .dic ks vs, ρ, st => (evEs C ks ρ st).bind fun kl st => (evEs C vs ρ st).bind fun vl st => onD (datVs kl) fun ks => onD (datVs vl) fun vs =>
      if ks.length = vs.length ∧ ks.length ≤ 15 ∧ ks.all D.key then .ok (.ref st.length) (st ++ [.dic (pairsD ks vs [])]) else .no
  | .tdic kvs, _, st => .ok (.dct kvs) st
  | .bin o a b, ρ, st => (evE C a ρ st).bind fun u st => (evE C b ρ st).bind fun v st => onD (rawV st u) fun x => onD (rawV st v) fun y => ofO (opD o x y) st
  | .neg a, ρ, st => (evE C a ρ st).bind fun v st => match v with
    | .d (.int i) => .ok (.d (.int (-i))) st
    | _ => .no
  | .cmp o a b, ρ, st => (evE C a ρ st).bind fun u st => (evE C b ρ st).bind fun v st => cmpV o u v st
  | .chain o o' a b c, ρ, st => (evE C a ρ st).bind fun u st => (evE C b ρ st).bind fun v st => (cmpV o u v st).bind fun k st =>
      onB k ((evE C c ρ st).bind fun w st => cmpV o' v w st) (.ok (.d (.bl false)) st)
  | .isN a, ρ, st => (evE C a ρ st).bind fun v st => .ok (.d (.bl (noneV v))) st
  | .notN a, ρ, st => (evE C a ρ st).bind fun v st => .ok (.d (.bl (!noneV v))) st
  | .and a es, ρ, st => (evE C a ρ st).bind fun v st => onB v (evAnd C es ρ st) (.ok (.d (.bl false)) st)
  | .or a es, ρ, st => (evE C a ρ st).bind fun v st => onB v (.ok (.d (.bl true)) st) (evOr C es ρ st)
  | .not a, ρ, st => (evE C a ρ st).bind fun v st => match v with
    | .d (.bl b) => .ok (.d (.bl (!b))) st
    | _ => .no
  | .ife c a b, ρ, st => (evE C c ρ st).bind fun v st => onB v (evE C a ρ st) (evE C b ρ st)
  | .idx a i, ρ, st => (evE C a ρ st).bind fun u st => (evE C i ρ st).bind fun v st => idxV u v st
  | .slc a lo hi, ρ, st => (evE C a ρ st).bind fun u st => (evPo C lo ρ st).bind fun l st => (evPo C hi ρ st).bind fun h st =>
      onD (rawV st u) fun x => ofO (cutD x l h) st
  | .rev a, ρ, st => (evE C a ρ st).bind fun u st => onD (rawV st u) fun x => ofO (revD x) st
  | .call g es, ρ, st => (evEs C es ρ st).bind fun vs st => C.call g vs st
  | .callv i es, ρ, st => match ρ.get i with
    | some f => (evEs C es ρ st).bind fun vs st => callV C f vs st
    | none => .no
  | .blt b es, ρ, st => (evEs C es ρ st).bind fun vs st => onD (rawVs st vs) fun xs => ofO (bltD b xs) st
  | .sset a, ρ, st => (evE C a ρ st).bind fun v st => onD (rawV st v) fun x => ofO (ssetD x) st
  | .lset a, ρ, st => (evE C a ρ st).bind fun v st => onD (rawV st v) fun x => onD (itemsD x) fun xs => onD (intsD xs) fun _ =>
      if (onceD xs).length ≤ 64 then .ok (.d (.int (onceD xs).length)) st else .no
  | .mth m o es, ρ, st => (evE C o ρ st).bind fun u st => if kindM m u st then (evEs C es ρ st).bind fun vs st => mthD m u vs st else .no
  | .lc elt t it c own, ρ, st => (evIt C it ρ st).bind fun xs st => (lcLoop (fun x st => match bindT t x (ρ.wipe own) with
      | none => .no
      | some ρ' => (evPoB C c ρ' st).bind fun k st => match k with
        | false => .ok none st
        | true => (evE C elt ρ' st).bind fun v st => match v with
          | .d y => .ok (some y) st
          | _ => .no) xs st).bind fun ys st => .ok (.d (.lst ys)) st
  | .lam l caps, ρ, st => onD (capsOf ρ caps) fun vs => .ok (.clo l vs) st
def evEs (C : Ctx) : Es → En → Sto → R (List Vl)
  | .nil, _, st => .ok [] st
  | .cons e es, ρ, st => (evE C e ρ st).bind fun v st => (evEs C es ρ st).bind fun vs st => .ok (v :: vs) st
def evAnd (C : Ctx) : Es → En → Sto → R Vl
  | .nil, _, _ => .no
  | .cons e .nil, ρ, st => evE C e ρ st
  | .cons e (.cons e2 es), ρ, st => (evE C e ρ st).bind fun v st => onB v (evAnd C (.cons e2 es) ρ st) (.ok (.d (.bl false)) st)
def evOr (C : Ctx) : Es → En → Sto → R Vl
  | .nil, _, _ => .no
  | .cons e .nil, ρ, st => evE C e ρ st
  | .cons e (.cons e2 es), ρ, st => (evE C e ρ st).bind fun v st => onB v (.ok (.d (.bl true)) st) (evOr C (.cons e2 es) ρ st)
def evPo (C : Ctx) : Po → En → Sto → R (Option Int)
  | .no, _, st => .ok none st
  | .e a, ρ, st => (evE C a ρ st).bind fun v st => match v with
    | .d (.int i) => .ok (some i) st
    | _ => .no
def evPoB (C : Ctx) : Po → En → Sto → R Bool
  | .no, _, st => .ok true st
  | .e a, ρ, st => (evE C a ρ st).bind fun v st => match v with
    | .d (.bl i) => .ok i st
    | _ => .no
def evIt (C : Ctx) : It → En → Sto → R (List D)
  | .val a, ρ, st => (evE C a ρ st).bind fun v st => match v with
    | .d x => match itemsD x with
      | some xs => .ok xs st
      | none => .no
    | _ => .no
  | .rng1 a, ρ, st => (evE C a ρ st).bind fun v st => match v with
    | .d (.int i) => if i.natAbs ≤ line then .ok (rangeD 0 i.toNat) st else .no
    | _ => .no
  | .rng2 a b, ρ, st => (evE C a ρ st).bind fun u st => (evE C b ρ st).bind fun v st => match u, v with
    | .d (.int i), .d (.int j) => if i.natAbs ≤ line / 2 && j.natAbs ≤ line / 2 then .ok (rangeD i (j - i).toNat) st else .no
    | _, _ => .no
  | .enum a, ρ, st => (evE C a ρ st).bind fun v st => match v with
    | .d x => match itemsD x with
      | some xs => .ok (enumFrom 0 xs) st
      | none => .no
    | _ => .no
  | .zip a b, ρ, st => (evE C a ρ st).bind fun u st => (evE C b ρ st).bind fun v st => match u, v with
    | .d x, .d y => match zipV x y with
      | some zs => .ok zs st
      | none => .no
    | _, _ => .no
  | .keys a, ρ, st => (evE C a ρ st).bind fun v st => match v with
    | .ref r => match st[r]? with
      | some (.dic kvs) => .ok (kvs.map (·.1)) st
      | _ => .no
    | _ => .no
end

/-! ### statements -/
/-- how a statement ends -/
inductive O where
  | nx (ρ : En) (s : Sto) | rt (v : Vl) (s : Sto) | bk (ρ : En) (s : Sto) | ct (ρ : En) (s : Sto) | ex (c : Nat) (fs : List D) (ρ : En) (s : Sto) | no
def R.out {α : Type} (r : R α) (ρ : En) (f : α → Sto → O) : O := match r with
  | .ok a s => f a s
  | .ex c fs s => .ex c fs ρ s
  | .no => .no
def O.then (o : O) (f : En → Sto → O) : O := match o with
  | .nx ρ s => f ρ s
  | o => o

mutual
inductive S where
  | set (i : Nat) (e : E) | unp (ts : Tgs) (e : E) | par2 (i j : Nat) (a b : E) | par3 (i j k : Nat) (a b c : E) | idx (o i e : E) | exp (e : E)
  | ite (c : E) (a b : Ss) | for_ (t : Tg) (it : It) (b : Ss) | whl (c : E) (b : Ss) | ret (e : E) | retN | brk | cnt | pas
  | rse (c : Nat) | nev
inductive Ss where
  | nil | cons (s : S) (r : Ss)
end

def setV (o i v : Vl) (st : Sto) : Option Sto := match o, i, v with
  | .ref r, .d k, .d x => match st[r]? with
    | some (.dic kvs) => if k.key && kvs.length < 1000000 then some (st.set r (.dic (putD k x kvs))) else none
    | some (.lst xs) => match k with
      | .int n => match ixN xs.length n with
        | some j => some (st.set r (.lst (xs.set j x)))
        | none => none
      | _ => none
    | _ => none
  | _, _, _ => none

/-- the turns of a for -/
def forLoop (step : D → En → Sto → O) : List D → En → Sto → O
  | [], ρ, st => .nx ρ st
  | x :: xs, ρ, st => match step x ρ st with
    | .nx ρ st => forLoop step xs ρ st
    | .ct ρ st => forLoop step xs ρ st
    | .bk ρ st => .nx ρ st
    | .rt v st => .rt v st
    | .ex c fs ρ st => .ex c fs ρ st
    | .no => .no
/-- the turns of a while, so many at most -/
def whlLoop (test : En → Sto → R Vl) (body : En → Sto → O) : Nat → En → Sto → O
  | 0, _, _ => .no
  | n + 1, ρ, st => (test ρ st).out ρ fun v st => match v with
    | .d (.bl true) => match body ρ st with
      | .nx ρ st => whlLoop test body n ρ st
      | .ct ρ st => whlLoop test body n ρ st
      | .bk ρ st => .nx ρ st
      | .rt v st => .rt v st
      | .ex c fs ρ st => .ex c fs ρ st
      | .no => .no
    | .d (.bl false) => .nx ρ st
    | _ => .no
def turns : Nat := 1000000

mutual
def evS (C : Ctx) : S → En → Sto → O
  | .set i e, ρ, st => (evE C e ρ st).out ρ fun v st => .nx (ρ.put i v) st
  | .unp ts e, ρ, st => (evE C e ρ st).out ρ fun v st => match v with
    | .d (.tup xs) => match bindTs ts xs ρ with
      | some ρ' => .nx ρ' st
      | none => .no
    | _ => .no
  | .par2 i j a b, ρ, st => (evE C a ρ st).out ρ fun u st => (evE C b ρ st).out ρ fun v st => .nx ((ρ.put i u).put j v) st
  | .par3 i j k a b c, ρ, st => (evE C a ρ st).out ρ fun u st => (evE C b ρ st).out ρ fun v st => (evE C c ρ st).out ρ fun w st => .nx (((ρ.put i u).put j v).put k w) st
  | .idx o i e, ρ, st => (evE C e ρ st).out ρ fun v st => (evE C o ρ st).out ρ fun u st => (evE C i ρ st).out ρ fun k st => match setV u k v st with
    | some st' => .nx ρ st'
    | none => .no
  | .exp e, ρ, st => (evE C e ρ st).out ρ fun _ st => .nx ρ st
  | .ite c a b, ρ, st => (evE C c ρ st).out ρ fun v st => match v with
    | .d (.bl true) => evSs C a ρ st
    | .d (.bl false) => evSs C b ρ st
    | _ => .no
  | .for_ t it b, ρ, st => (evIt C it ρ st).out ρ fun xs st => forLoop (fun x ρ st => match bindT t x ρ with
    | some ρ' => evSs C b ρ' st
    | none => .no) xs ρ st
  | .whl c b, ρ, st => whlLoop (fun ρ st => evE C c ρ st) (fun ρ st => evSs C b ρ st) turns ρ st
  | .ret e, ρ, st => (evE C e ρ st).out ρ fun v st => .rt v st
  | .retN, _, st => .rt (.d .non) st
  | .brk, ρ, st => .bk ρ st
  | .cnt, ρ, st => .ct ρ st
  | .pas, ρ, st => .nx ρ st
  | .rse c, ρ, st => .ex c [] ρ st
  | .nev, _, _ => .no
def evSs (C : Ctx) : Ss → En → Sto → O
  | .nil, ρ, st => .nx ρ st
  | .cons s r, ρ, st => (evS C s ρ st).then fun ρ st => evSs C r ρ st
end

/-! ### defs -/
/-- a def: how many parameters, how many names, its body; alone: data in, data out, a store of its own -/
structure Fd where
  np : Nat
  nn : Nat
  alone : Bool
  body : Ss
/-- a lambda: the captured names' slots and its parameters' in its own list of names, its body -/
structure Ld where
  nc : Nat
  np : Nat
  alone : Bool
  body : E

mutual
def Vl.pure : Vl → Bool
  | .d _ => true
  | .fn _ => true
  | .clo _ cs => Vl.pures cs
  | .ref _ => false
  | .dct _ => true
def Vl.pures : List Vl → Bool
  | [] => true
  | v :: vs => v.pure && Vl.pures vs
end

def begin_ (nn : Nat) (vs : List Vl) : En := vs.map some ++ List.replicate (nn - vs.length) none

/-- what a body hands back -/
def O.res : O → R Vl
  | .nx _ s => .ok (.d .non) s
  | .rt v s => .ok v s
  | .ex c fs _ s => .ex c fs s
  | _ => .no
/-- from a store of its own: data alone comes out, the store is as it was -/
def R.back (r : R Vl) (st : Sto) : R Vl := match r with
  | .ok (.d x) _ => .ok (.d x) st
  | .ex c fs _ => .ex c fs st
  | _ => .no

structure Tab where
  fns : List Fd
  lams : List Ld
  cons : List Vl

/-- calls nested at most n deep -/
def Tab.cx (T : Tab) : Nat → Ctx
  | 0 => ⟨fun _ _ _ => .no, fun _ _ _ _ => .no, fun k => T.cons[k]?⟩
  | n + 1 => ⟨fun g vs st => match T.fns[g]? with
      | none => .no
      | some f => if vs.length = f.np then
          (if f.alone then (if Vl.pures vs then (evSs (T.cx n) f.body (begin_ f.nn vs) []).res.back st else .no)
          else (evSs (T.cx n) f.body (begin_ f.nn vs) st).res)
          else .no,
    fun l cs vs st => match T.lams[l]? with
      | none => .no
      | some f => if cs.length = f.nc then if vs.length = f.np then
          (if f.alone then (if Vl.pures cs && Vl.pures vs then (evE (T.cx n) f.body ((cs ++ vs).map some) []).back st else .no)
          else evE (T.cx n) f.body ((cs ++ vs).map some) st)
          else .no else .no,
    fun k => T.cons[k]?⟩
end Ev

namespace EvS
open PySem PySem.Spec PyProof.Rows L2 Ev

/-! ### data in the heap -/
mutual
def toPy : D → PyData
  | .non => .none
  | .bl b => .bool b
  | .int i => .int i
  | .str s => .str ⟨s.toArray⟩
  | .tup xs => .tuple (toPys xs)
  | .lst xs => .list (toPys xs)
def toPys : List D → List PyData
  | [] => []
  | x :: xs => toPy x :: toPys xs
end

/-- a list that stands as it is: locked, or of the written part -/
def FzL (K : PySem.W.Frag) (H : Hp) (a : Addr) (xs : List V) : Prop :=
  (∃ o, H a = some (.frz o (.lst xs))) ∨
    ∃ (o : Obj) (its : Array Value) (n : Nat), K.lookup a = some o ∧ o.cls = .type "list" ∧ o.dict = none ∧ o.data = .seq its n ∧ its.size ≤ sizeLine ∧ Vals xs its.toList
theorem FzL.sq {K : PySem.W.Frag} {H : Hp} {a : Addr} {xs : List V} (h : FzL K H a xs) : SqL K H a xs := by
  rcases h with h | h
  · exact .inl (.inr h)
  · exact .inr h

mutual
/-- the data x stands at v -/
def RD (K : PySem.W.Frag) (H : Hp) : D → V → Prop
  | .non, v => v = .non
  | .bl b, v => v = .bl b
  | .int i, v => v = .int i
  | .str s, v => v = .str ⟨s.toArray⟩ ∧ s.length ≤ line ∧ ∀ c ∈ s, c < 128
  | .tup xs, v => ∃ a vs, v = .ref a ∧ SqT K H a vs ∧ xs.length ≤ line ∧ RDs K H xs vs
  | .lst xs, v => ∃ a vs, v = .ref a ∧ FzL K H a vs ∧ xs.length ≤ line ∧ RDs K H xs vs
def RDs (K : PySem.W.Frag) (H : Hp) : List D → List V → Prop
  | [], vs => vs = []
  | x :: xs, vs => ∃ v r, vs = v :: r ∧ RD K H x v ∧ RDs K H xs r
end

/-- never written -/
def Fix : HO → Prop
  | .tup _ => True
  | .frz _ _ => True
  | _ => False

theorem line_eq : line = sizeLine := by rw [sizeLine_eq]; rfl

section
variable {K : PySem.W.Frag} {H H' : Hp}
theorem sqT_fix {a : Addr} {vs : List V} (h : SqT K H a vs) (e : ∀ a o, H a = some o → Fix o → H' a = some o) : SqT K H' a vs := by
  rcases h with (h | ⟨o, h⟩) | h
  · exact .inl (.inl (e _ _ h trivial))
  · exact .inl (.inr ⟨o, e _ _ h trivial⟩)
  · exact .inr h
theorem FzL.fix {a : Addr} {vs : List V} (h : FzL K H a vs) (e : ∀ a o, H a = some o → Fix o → H' a = some o) : FzL K H' a vs := by
  rcases h with ⟨o, h⟩ | h
  · exact .inl ⟨o, e _ _ h trivial⟩
  · exact .inr h
mutual
theorem RD.fix (e : ∀ a o, H a = some o → Fix o → H' a = some o) : ∀ {x : D} {v : V}, RD K H x v → RD K H' x v
  | .non, _, h => h
  | .bl _, _, h => h
  | .int _, _, h => h
  | .str _, _, h => h
  | .tup _, _, ⟨a, vs, h1, h2, h3, h4⟩ => ⟨a, vs, h1, sqT_fix h2 e, h3, RDs.fix e h4⟩
  | .lst _, _, ⟨a, vs, h1, h2, h3, h4⟩ => ⟨a, vs, h1, FzL.fix h2 e, h3, RDs.fix e h4⟩
theorem RDs.fix (e : ∀ a o, H a = some o → Fix o → H' a = some o) : ∀ {x : List D} {v : List V}, RDs K H x v → RDs K H' x v
  | [], _, h => h
  | _ :: _, _, ⟨v, r, h1, h2, h3⟩ => ⟨v, r, h1, RD.fix e h2, RDs.fix e h3⟩
end
theorem RDs.len : ∀ {xs : List D} {vs : List V}, RDs K H xs vs → vs.length = xs.length
  | [], _, h => by
    have e : _ = [] := h
    rw [e]
    rfl
  | _ :: _, _, ⟨v, r, h1, _, h3⟩ => by rw [h1, List.length_cons, RDs.len h3]; rfl
theorem RDs.get : ∀ {xs : List D} {vs : List V} {i : Nat} {x : D}, RDs K H xs vs → xs[i]? = some x → ∃ v, vs[i]? = some v ∧ RD K H x v
  | [], _, i, x, _, e => by simp at e
  | y :: ys, _, 0, x, ⟨v, r, h1, h2, _⟩, e => by
    simp at e
    subst e h1
    exact ⟨v, rfl, h2⟩
  | y :: ys, _, i + 1, x, ⟨v, r, h1, _, h3⟩, e => by
    subst h1
    obtain ⟨w, e1, e2⟩ := RDs.get (i := i) h3 (by simpa using e)
    exact ⟨w, by simpa using e1, e2⟩
theorem RDs.app : ∀ {xs ys : List D} {vs us : List V}, RDs K H xs vs → RDs K H ys us → RDs K H (xs ++ ys) (vs ++ us)
  | [], _, vs, _, h, h' => by
    have e : vs = [] := h
    subst e
    exact h'
  | _ :: _, _, _, _, ⟨v, r, h1, h2, h3⟩, h' => by
    subst h1
    exact ⟨v, _, rfl, h2, RDs.app h3 h'⟩
theorem RDs.nil : RDs K H [] [] := rfl
theorem RDs.one {x : D} {v : V} (h : RD K H x v) : RDs K H [x] [v] := ⟨v, [], rfl, h, rfl⟩
theorem RDs.take : ∀ {xs : List D} {vs : List V} (n : Nat), RDs K H xs vs → RDs K H (xs.take n) (vs.take n)
  | _, _, 0, _ => by simp; exact RDs.nil
  | [], vs, n + 1, h => by
    have e : vs = [] := h
    subst e
    exact RDs.nil
  | _ :: _, _, n + 1, ⟨v, r, h1, h2, h3⟩ => by
    subst h1
    exact ⟨v, _, rfl, h2, RDs.take n h3⟩
theorem RDs.drop : ∀ {xs : List D} {vs : List V} (n : Nat), RDs K H xs vs → RDs K H (xs.drop n) (vs.drop n)
  | _, _, 0, h => h
  | [], vs, n + 1, h => by
    have e : vs = [] := h
    subst e
    exact RDs.nil
  | _ :: _, _, n + 1, ⟨v, r, h1, h2, h3⟩ => by
    subst h1
    exact RDs.drop n h3
theorem RDs.rev : ∀ {xs : List D} {vs : List V}, RDs K H xs vs → RDs K H xs.reverse vs.reverse
  | [], vs, h => by
    have e : vs = [] := h
    subst e
    exact RDs.nil
  | _ :: _, _, ⟨v, r, h1, h2, h3⟩ => by
    subst h1
    rw [List.reverse_cons, List.reverse_cons]
    exact RDs.app (RDs.rev h3) (RDs.one h2)
theorem RDs.set : ∀ {xs : List D} {vs : List V} (i : Nat) {x : D} {v : V}, RDs K H xs vs → RD K H x v → RDs K H (xs.set i x) (vs.set i v)
  | [], vs, i, _, _, h, _ => by
    have e : vs = [] := h
    subst e
    exact RDs.nil
  | _ :: _, _, 0, x, v, ⟨w, r, h1, h2, h3⟩, h => by
    subst h1
    exact ⟨v, _, rfl, h, h3⟩
  | _ :: _, _, i + 1, x, v, ⟨w, r, h1, h2, h3⟩, h => by
    subst h1
    exact ⟨w, _, rfl, h2, RDs.set i h3 h⟩
theorem RDs.rep {xs : List D} {vs : List V} (h : RDs K H xs vs) : ∀ k : Nat, RDs K H (Ev.rep k xs) (List.replicate k vs).flatten
  | 0 => RDs.nil
  | k + 1 => by
    show RDs K H (xs ++ Ev.rep k xs) _
    rw [List.replicate_succ, List.flatten_cons]
    exact RDs.app h (RDs.rep h k)

/-! data that may be read: also a tracked list -/
def RW (K : PySem.W.Frag) (H : Hp) (x : D) (v : V) : Prop := RD K H x v ∨ ∃ xs a vs, x = .lst xs ∧ v = .ref a ∧ SqL K H a vs ∧ xs.length ≤ line ∧ RDs K H xs vs
mutual
theorem RD.dp : ∀ {x : D} {v : V}, RD K H x v → Dp K H v (toPy x)
  | .non, v, h => by
    have e : v = .non := h
    subst e
    exact .non
  | .bl b, v, h => by
    have e : v = .bl b := h
    subst e
    exact .bl b
  | .int b, v, h => by
    have e : v = .int b := h
    subst e
    exact .int b
  | .str b, v, h => by
    obtain ⟨e, _⟩ := h
    subst e
    exact .str _
  | .tup _, _, ⟨a, vs, h1, h2, h3, h4⟩ => by
    subst h1
    exact .tup h2 (RDs.dp h4)
  | .lst _, _, ⟨a, vs, h1, h2, h3, h4⟩ => by
    subst h1
    exact .lst h2.sq (RDs.dp h4)
theorem RDs.dp : ∀ {x : List D} {v : List V}, RDs K H x v → DpAll K H v (toPys x)
  | [], v, h => by
    have e : v = [] := h
    subst e
    exact .nil
  | _ :: _, _, ⟨v, r, h1, h2, h3⟩ => by
    subst h1
    exact .cons (RD.dp h2) (RDs.dp h3)
end
theorem RW.dp {x : D} {v : V} (h : RW K H x v) : Dp K H v (toPy x) := by
  rcases h with h | ⟨xs, a, vs, rfl, rfl, h1, _, h2⟩
  · exact h.dp
  · exact .lst h1 h2.dp
mutual
theorem RD.lay : ∀ {x : D} {v : V}, RD K H x v → (toPy x).canLay0 = true
  | .non, _, _ => rfl
  | .bl _, _, _ => rfl
  | .int _, _, _ => rfl
  | .str s, v, ⟨_, _, h⟩ => by
    show PyData.strOk ⟨s.toArray⟩ = true
    unfold PyData.strOk
    rw [Array.all_eq_true']
    intro c hc
    have h' := h c (by simpa using hc)
    exact decide_eq_true (by omega)
  | .tup _, _, ⟨a, vs, h1, h2, h3, h4⟩ => by
    show PyData.canLayAll0 _ = true
    exact RDs.lay h4
  | .lst _, _, ⟨a, vs, h1, h2, h3, h4⟩ => by
    show PyData.canLayAll0 _ = true
    exact RDs.lay h4
theorem RDs.lay : ∀ {x : List D} {v : List V}, RDs K H x v → PyData.canLayAll0 (toPys x) = true
  | [], _, _ => rfl
  | _ :: _, _, ⟨v, r, h1, h2, h3⟩ => by
    show (PyData.canLay0 _ && PyData.canLayAll0 _) = true
    rw [RD.lay h2, RDs.lay h3]
    rfl
end
theorem RW.lay {x : D} {v : V} (h : RW K H x v) : (toPy x).canLay0 = true := by
  rcases h with h | ⟨xs, a, vs, rfl, rfl, h1, _, h2⟩
  · exact h.lay
  · exact h2.lay
end
mutual
theorem toPy_depth : ∀ x : D, (toPy x).depth = x.depth
  | .non => rfl
  | .bl _ => rfl
  | .int _ => rfl
  | .str _ => rfl
  | .tup xs => by show PyData.depthAll (toPys xs) + 1 = D.depths xs + 1; rw [toPys_depth xs]
  | .lst xs => by show PyData.depthAll (toPys xs) + 1 = D.depths xs + 1; rw [toPys_depth xs]
theorem toPys_depth : ∀ xs : List D, PyData.depthAll (toPys xs) = D.depths xs
  | [] => rfl
  | x :: xs => by show max (PyData.depth (toPy x)) (PyData.depthAll (toPys xs)) = max x.depth (D.depths xs); rw [toPy_depth x, toPys_depth xs]
end
theorem str_beq (a b : List Nat) : ((⟨a.toArray⟩ : Str) == ⟨b.toArray⟩) = (a == b) := by
  by_cases h : a = b
  · subst h; simp
  · have h' : ¬ ((⟨a.toArray⟩ : Str) = ⟨b.toArray⟩) := fun e => h (by simpa using congrArg (fun z : Str => z.cps.toList) e)
    rw [beq_eq_false_iff_ne.mpr h, beq_eq_false_iff_ne.mpr h']
mutual
theorem toPy_eqv : ∀ x y : D, PyData.eqv (toPy x) (toPy y) = D.eqv x y
  | .tup xs, .tup ys => toPys_eqv xs ys
  | .lst xs, .lst ys => toPys_eqv xs ys
  | .str a, .str b => str_beq a b
  | .non, .non => rfl | .non, .bl _ => rfl | .non, .int _ => rfl | .non, .str _ => rfl | .non, .tup _ => rfl | .non, .lst _ => rfl
  | .bl _, .non => rfl | .bl _, .bl _ => rfl | .bl _, .int _ => rfl | .bl _, .str _ => rfl | .bl _, .tup _ => rfl | .bl _, .lst _ => rfl
  | .int _, .non => rfl | .int _, .bl _ => rfl | .int _, .int _ => rfl | .int _, .str _ => rfl | .int _, .tup _ => rfl | .int _, .lst _ => rfl
  | .str _, .non => rfl | .str _, .bl _ => rfl | .str _, .int _ => rfl | .str _, .tup _ => rfl | .str _, .lst _ => rfl
  | .tup _, .non => rfl | .tup _, .bl _ => rfl | .tup _, .int _ => rfl | .tup _, .str _ => rfl | .tup _, .lst _ => rfl
  | .lst _, .non => rfl | .lst _, .bl _ => rfl | .lst _, .int _ => rfl | .lst _, .str _ => rfl | .lst _, .tup _ => rfl
theorem toPys_eqv : ∀ xs ys : List D, PyData.eqvAll (toPys xs) (toPys ys) = D.eqvs xs ys
  | [], [] => rfl
  | [], _ :: _ => rfl
  | _ :: _, [] => rfl
  | x :: xs, y :: ys => by
    show (PyData.eqv (toPy x) (toPy y) && PyData.eqvAll (toPys xs) (toPys ys)) = (D.eqv x y && D.eqvs xs ys)
    rw [toPy_eqv x y, toPys_eqv xs ys]
end
end EvS

namespace EvS
open PySem PySem.Spec PyProof.Rows L2 Ev

/-- a lambda of the text: its parameters, body, names; the captured ones first -/
structure LamD where
  params : Arguments
  body : Expr
  scope : Scope
  caps : List Str
  N : List Str

/-- the law at hand: the text's written part, the defs' addresses, the lambdas, the code tables -/
structure Lw where
  P : Program
  w : World
  K : PySem.W.Frag
  mg : Str → Option Value
  base : Heap
  T : Tab
  fa : Nat → Addr
  ec : Nat → Addr
  lam : Nat → Option LamD
  tabs : List (Addr × Str)

/-! ### keys -/
mutual
def toK : D → PySem.NestedKey
  | .non => .none
  | .bl b => .num (if b then 1 else 0)
  | .int i => .num i
  | .str s => .text ⟨s.toArray⟩
  | .tup xs => .tup (toKs xs)
  | .lst xs => .tup (toKs xs)
def toKs : List D → List PySem.NestedKey
  | [] => []
  | x :: xs => toK x :: toKs xs
end

/-- a dict with tuple keys, as it is laid: each entry's key, the key's place, its value -/
def DicO (P : Program) (w : World) (d : Addr) (xs : List (PySem.NestedKey × Addr × Value)) : HO :=
  .ext fun h => (d == sysModules) = false ∧ ∃ o es ep, h.get? d = some o ∧ o.ExactDict ∧ o.data = .dict es ep ∧ es.toList = xs.map (entryOfKey (nestedKind P w)) ∧ (xs.map (·.1)).Nodup

/-- an object that stands as it is -/
def Still (H : Hp) (a : Addr) (o : Obj) : Prop := ∃ u, H a = some (.frz o u)

/-- a table of code objects: each one that it tells bears the name q -/
def TabF (H : Hp) (p : Addr × Str) : Prop := ∃ ps : Array Value, H p.1 = some (.tbl ps) ∧ TriplesOk ps.toList ∧ ∀ (pos : Pos) (cv : Value), codeAmong pos ps.toList = some cv →
  ∃ c oc vs t, cv = .ref c ∧ Still H c oc ∧ oc.data = .fields vs ∧ vs[1]? = some (.str p.2 t)

section
variable (L : Lw)
/-- the object o is the lambda l with the cells cl -/
def IsLam (H : Hp) (l : Nat) (o : Obj) (cl : List (Str × Addr)) : Prop := ∃ (d : LamD) (qual : Str) (pm ctv : Value) (c' : Addr) (oc : Obj) (vs : Array Value) (t : Tok),
  L.lam l = some d ∧ o = PySem.W.kla_obj "<lambda>" qual d.params d.body d.scope cl pm c' ctv ∧ Still H c' oc ∧ oc.data = .fields vs ∧ vs[1]? = some (.str qual t)
/-- the names of the lambda l's captured cells -/
def capNames (l : Nat) : List Str := match L.lam l with
  | some d => d.caps
  | none => []
abbrev Mu := List (Option Addr)
mutual
/-- the value v stands at u -/
def RV (H : Hp) (μ : Mu) : Vl → V → Prop
  | .d x, u => RD L.K H x u
  | .fn g, u => g < L.T.fns.length ∧ u = .ref (L.fa g)
  | .ref r, u => r < μ.length ∧ (∀ a : Addr, μ[r]? = some (some a) → u = .ref a) ∧ ∃ a : Addr, u = .ref a
  | .dct kvs, u => ∃ a o, u = .ref a ∧ H a = some (.frz o (.dK (kvs.map fun p => (Sum.inr ⟨p.1.toArray⟩, V.int p.2))))
  | .clo l cs, u => ∃ f o cl, u = .ref f ∧ Still H f o ∧ IsLam L H l o cl ∧ RCl H μ cs (capNames L l) cl
/-- the captured values stand in the cells -/
def RCl (H : Hp) (μ : Mu) : List Vl → List Str → List (Str × Addr) → Prop
  | [], ns, _ => ns = []
  | v :: vs, ns, cl => ∃ n r c oc val u, ns = n :: r ∧ cl.lookup n = some c ∧ Still H c oc ∧ oc.data = .cell (some val) ∧ RelV u val ∧ RV H μ v u ∧ RCl H μ vs r cl
end
def RVs (H : Hp) (μ : Mu) : List Vl → List V → Prop
  | [], us => us = []
  | v :: vs, us => ∃ u r, us = u :: r ∧ RV L H μ v u ∧ RVs H μ vs r

/-- the dict's pairs and its entries -/
def KVs (H : Hp) : List (D × D) → List (PySem.NestedKey × Addr × Value) → Prop
  | [], xs => xs = []
  | (k, v) :: r, xs => ∃ a val u xr, xs = (toK k, a, val) :: xr ∧ k.key = true ∧ RD L.K H k (.ref a) ∧ RelV u val ∧ RD L.K H v u ∧ KVs H r xr

/-- what stands in a cell of the store -/
def CellR (H : Hp) (μ : Mu) (r : Nat) : Cell → Prop
  | .dead => True
  | .lst xs => ∃ a vs, μ[r]? = some (some a) ∧ H a = some (.lst vs) ∧ xs.length ≤ line ∧ RDs L.K H xs vs
  | .dic kvs => ∃ a xs, μ[r]? = some (some a) ∧ H a = some (DicO L.P L.w a xs) ∧ kvs.length ≤ line ∧ KVs L H kvs xs
  | .ins _ _ => False
/-- the store stands in the heap -/
structure Sim (H : Hp) (μ : Mu) (st : Sto) : Prop where
  len : μ.length = st.length
  inj : ∀ (i j : Nat) (a : Addr), μ[i]? = some (some a) → μ[j]? = some (some a) → i = j
  cell : ∀ (r : Nat) (c : Cell), st[r]? = some c → CellR L H μ r c
  some_ : ∀ (r : Nat) (a : Addr), μ[r]? = some (some a) → ∃ o, H a = some o ∧ Mut (some o)
  tab : ∀ p ∈ L.tabs, TabF H p
end

/-- no table -/
def NoTbl : HO → Prop
  | .tbl _ => False
  | _ => True

/-- what a step may do: what is fixed stays; what no cell of ours stands at stays; cells may die, new ones come -/
structure Ext (H : Hp) (μ : Mu) (H' : Hp) (μ' : Mu) : Prop where
  im : ∀ a o, H a = some o → Fix o → H' a = some o
  fr : ∀ a o, H a = some o → NoTbl o → (∀ r : Nat, μ[r]? ≠ some (some a)) → H' a = some o
  ln : μ.length ≤ μ'.length
  al : ∀ (r : Nat) (a : Addr), r < μ.length → μ'[r]? = some (some a) → μ[r]? = some (some a)
  nw : ∀ (r : Nat) (a : Addr), μ'[r]? = some (some a) → (∃ r' : Nat, μ[r']? = some (some a)) ∨ H a = none
  tb : ∀ a ps, H a = some (.tbl ps) → ∃ ps', H' a = some (.tbl ps')

theorem Fix.noTbl {o : HO} (h : Fix o) : NoTbl o := by
  cases o <;> first | trivial | exact h.elim
section
variable {L : Lw} {H H1 H2 H' : Hp} {μ μ1 μ2 μ' : Mu}
theorem Ext.refl (H : Hp) (μ : Mu) : Ext H μ H μ := ⟨fun _ _ h _ => h, fun _ _ h _ _ => h, Nat.le_refl _, fun _ _ _ h => h, fun r _ h => .inl ⟨r, h⟩, fun _ ps h => ⟨ps, h⟩⟩
theorem Ext.trans (a : Ext H μ H1 μ1) (b : Ext H1 μ1 H2 μ2) : Ext H μ H2 μ2 where
  im := fun c o h f => b.im c o (a.im c o h f) f
  fr := fun c o h nt n => b.fr c o (a.fr c o h nt n) nt fun r e => by
    rcases a.nw r c e with ⟨r', e'⟩ | e'
    · exact n r' e'
    · rw [h] at e'
      cases e'
  ln := Nat.le_trans a.ln b.ln
  al := fun r c h e => a.al r c h (b.al r c (Nat.lt_of_lt_of_le h a.ln) e)
  nw := fun r c e => by
    rcases b.nw r c e with ⟨r', e'⟩ | e'
    · exact a.nw r' c e'
    · by_cases hm : ∃ r' : Nat, μ[r']? = some (some c)
      · exact .inl hm
      · cases q : H c with
        | none => exact .inr rfl
        | some o =>
          by_cases nt : NoTbl o
          · have z := a.fr c o q nt fun r' e2 => hm ⟨r', e2⟩
            rw [e'] at z
            cases z
          · cases o with
            | tbl ps =>
              obtain ⟨ps', z⟩ := a.tb c ps q
              rw [e'] at z
              cases z
            | _ => exact absurd trivial nt
  tb := fun c ps h => by
    obtain ⟨ps', h'⟩ := a.tb c ps h
    exact b.tb c ps' h'
theorem RD.ext {K : PySem.W.Frag} (e : Ext H μ H' μ') {x : D} {v : V} (h : RD K H x v) : RD K H' x v := h.fix e.im
theorem RDs.ext {K : PySem.W.Frag} (e : Ext H μ H' μ') {x : List D} {v : List V} (h : RDs K H x v) : RDs K H' x v := h.fix e.im
theorem Still.ext (e : Ext H μ H' μ') {a : Addr} {o : Obj} (h : Still H a o) : Still H' a o := by
  obtain ⟨u, h⟩ := h
  exact ⟨u, e.im _ _ h trivial⟩
theorem IsLam.ext (e : Ext H μ H' μ') {l : Nat} {o : Obj} {cl : List (Str × Addr)} (h : IsLam L H l o cl) : IsLam L H' l o cl := by
  obtain ⟨d, qual, pm, ctv, c', oc, vs, t, h1, h2, h3, h4⟩ := h
  exact ⟨d, qual, pm, ctv, c', oc, vs, t, h1, h2, h3.ext e, h4⟩
mutual
theorem RV.ext (e : Ext H μ H' μ') : ∀ {v : Vl} {u : V}, RV L H μ v u → RV L H' μ' v u
  | .d _, _, h => RD.ext e h
  | .fn _, _, h => h
  | .ref r, _, ⟨h1, h2, h3⟩ => ⟨Nat.lt_of_lt_of_le h1 e.ln, fun a q => h2 a (e.al r a h1 q), h3⟩
  | .dct _, _, ⟨a, o, h1, h2⟩ => ⟨a, o, h1, e.im _ _ h2 trivial⟩
  | .clo _ _, _, ⟨f, o, cl, h1, h2, h3, h4⟩ => ⟨f, o, cl, h1, h2.ext e, h3.ext e, RCl.ext e h4⟩
theorem RCl.ext (e : Ext H μ H' μ') : ∀ {vs : List Vl} {ns : List Str} {cl : List (Str × Addr)}, RCl L H μ vs ns cl → RCl L H' μ' vs ns cl
  | [], _, _, h => h
  | _ :: _, _, _, ⟨n, r, c, oc, val, u, h1, h2, h3, h4, h5, h6, h7⟩ => ⟨n, r, c, oc, val, u, h1, h2, h3.ext e, h4, h5, RV.ext e h6, RCl.ext e h7⟩
end
theorem RVs.ext (e : Ext H μ H' μ') : ∀ {vs : List Vl} {us : List V}, RVs L H μ vs us → RVs L H' μ' vs us
  | [], _, h => h
  | _ :: _, _, ⟨u, r, h1, h2, h3⟩ => ⟨u, r, h1, RV.ext e h2, RVs.ext e h3⟩
theorem KVs.ext (e : Ext H μ H' μ') : ∀ {kvs : List (D × D)} {xs : List (PySem.NestedKey × Addr × Value)}, KVs L H kvs xs → KVs L H' kvs xs
  | [], _, h => h
  | (_, _) :: _, _, ⟨a, val, u, xr, h1, h2, h3, h4, h5, h6⟩ => ⟨a, val, u, xr, h1, h2, h3.ext e, h4, h5.ext e, KVs.ext e h6⟩
end
end EvS

namespace EvS
open PySem PySem.Spec PyProof.Rows L2 Ev

section
variable (L : Lw)
/-- an exception of the class c with the fields fs -/
def ExR (H : Hp) (c : Nat) (fs : List D) (cls : Value) (d : Option Addr) : Prop := cls = .ref (L.ec c) ∧ fs = [] ∧ d = none

/-- what is wanted of a result -/
def RQ {α : Type} (H : Hp) (μ : Mu) (E : XK) (r : R α) (Q : α → Sto → Hp → Mu → Prop) : Prop := match r with
  | .ok a st => ∀ H' μ', Ext H μ H' μ' → Sim L H' μ' st → Q a st H' μ'
  | .ex c fs st => ∀ H' μ' cls d, Ext H μ H' μ' → Sim L H' μ' st → ExR L H' c fs cls d → E cls d H'
  | .no => False
/-- a value is handed on -/
abbrev QV (Q : VK) : Vl → Sto → Hp → Mu → Prop := fun v _ H' μ' => ∀ u, RV L H' μ' v u → Q u H'
/-- the names' values -/
def EnR (H : Hp) (μ : Mu) (ρ : En) (σ : L2.St) : Prop := ρ.length = σ.length ∧ ∀ (i : Nat) (v : Vl), ρ[i]? = some (some v) → ∃ u, σ[i]? = some (some u) ∧ RV L H μ v u
end

section
variable {L : Lw} {H H1 H' : Hp} {μ μ1 μ' : Mu} {E : XK}
theorem RQ.mono {α : Type} {r : R α} {Q Q' : α → Sto → Hp → Mu → Prop} (h : RQ L H μ E r Q) (hq : ∀ a st H' μ', Ext H μ H' μ' → Sim L H' μ' st → Q a st H' μ' → Q' a st H' μ') : RQ L H μ E r Q' := by
  cases r with
  | ok a st => exact fun H' μ' e s => hq a st H' μ' e s (h H' μ' e s)
  | ex c fs st => exact h
  | no => exact h
theorem RQ.ext {α : Type} {r : R α} {Q : α → Sto → Hp → Mu → Prop} (e : Ext H μ H1 μ1) (h : RQ L H μ E r Q) : RQ L H1 μ1 E r Q := by
  cases r with
  | ok a st => exact fun H' μ' e' s => h H' μ' (e.trans e') s
  | ex c fs st => exact fun H' μ' cls d e' s x => h H' μ' cls d (e.trans e') s x
  | no => exact h
theorem RQ.bind {α β : Type} {r : R α} {f : α → Sto → R β} {Q : β → Sto → Hp → Mu → Prop} (h : RQ L H μ E (r.bind f) Q) :
    RQ L H μ E r fun a st H' μ' => RQ L H' μ' E (f a st) Q := by
  cases r with
  | ok a st => exact fun H' μ' e _ => RQ.ext e h
  | ex c fs st => exact h
  | no => exact h
theorem RQ.ok {α : Type} {a : α} {st : Sto} {Q : α → Sto → Hp → Mu → Prop} (h : RQ L H μ E (.ok a st) Q) (s : Sim L H μ st) : Q a st H μ := h H μ (Ext.refl _ _) s
theorem EnR.ext {ρ : En} {σ : L2.St} (e : Ext H μ H' μ') (h : EnR L H μ ρ σ) : EnR L H' μ' ρ σ := ⟨h.1, fun i v hv => by
  obtain ⟨u, h1, h2⟩ := h.2 i v hv
  exact ⟨u, h1, h2.ext e⟩⟩
theorem En.get_some {ρ : En} {i : Nat} {v : Vl} (h : ρ.get i = some v) : ρ[i]? = some (some v) := by
  unfold En.get at h
  cases e : ρ[i]? with
  | none => rw [e] at h; cases h
  | some o =>
    rw [e] at h
    cases o with
    | none => cases h
    | some w => cases h; rfl

/-! ### new things -/
/-- a fixed thing is laid -/
theorem Ext.fix {p : Addr} {o : HO} (hp : H p = none) : Ext H μ (upd H p o) μ :=
  ⟨fun a u h _ => by rw [upd_ne (ne_of_none h hp)]; exact h, fun a u h _ _ => by rw [upd_ne (ne_of_none h hp)]; exact h, Nat.le_refl _, fun _ _ _ h => h, fun r _ h => .inl ⟨r, h⟩, fun a ps h => ⟨ps, by rw [upd_ne (ne_of_none h hp)]; exact h⟩⟩
theorem TabF.ext (e : ∀ a o, H a = some o → Fix o → H' a = some o) (t : ∀ a ps, H a = some (.tbl ps) → H' a = some (.tbl ps)) {p : Addr × Str} (h : TabF H p) : TabF H' p := by
  obtain ⟨ps, h1, h2, h3⟩ := h
  refine ⟨ps, t _ _ h1, h2, fun pos cv hc => ?_⟩
  obtain ⟨c, oc, vs, tk, e1, ⟨u, e2⟩, e3, e4⟩ := h3 pos cv hc
  exact ⟨c, oc, vs, tk, e1, ⟨u, e _ _ e2 trivial⟩, e3, e4⟩
theorem CellR.keep {r : Nat} {c : Cell} (e : Ext H μ H' μ') (hμ : ∀ a : Addr, μ[r]? = some (some a) → μ'[r]? = some (some a) ∧ ∀ o, H a = some o → H' a = some o) (h : CellR L H μ r c) : CellR L H' μ' r c := by
  cases c with
  | dead => trivial
  | lst xs =>
    obtain ⟨a, vs, h1, h2, h3, h4⟩ := h
    obtain ⟨h5, h6⟩ := hμ a h1
    exact ⟨a, vs, h5, h6 _ h2, h3, h4.ext e⟩
  | dic kvs =>
    obtain ⟨a, xs, h1, h2, h3, h4⟩ := h
    obtain ⟨h5, h6⟩ := hμ a h1
    exact ⟨a, xs, h5, h6 _ h2, h3, h4.ext e⟩
  | ins c fs => exact h.elim
theorem Sim.fix {p : Addr} {o : HO} {st : Sto} (hp : H p = none) (s : Sim L H μ st) : Sim L (upd H p o) μ st where
  len := s.len
  inj := s.inj
  cell := fun r c h => CellR.keep (Ext.fix hp) (fun a h => ⟨h, fun u q => by rw [upd_ne (ne_of_none q hp)]; exact q⟩) (s.cell r c h)
  some_ := fun r a h => by
    obtain ⟨u, h1, h2⟩ := s.some_ r a h
    exact ⟨u, by rw [upd_ne (ne_of_none h1 hp)]; exact h1, h2⟩
  tab := fun q hq => TabF.ext (fun a u h _ => by rw [upd_ne (ne_of_none h hp)]; exact h) (fun a ps h => by rw [upd_ne (ne_of_none h hp)]; exact h) (s.tab q hq)
/-- a new cell is laid -/
theorem Ext.new {p : Addr} {o : HO} (hp : H p = none) : Ext H μ (upd H p o) (μ ++ [some p]) :=
  ⟨fun a u h _ => by rw [upd_ne (ne_of_none h hp)]; exact h, fun a u h _ _ => by rw [upd_ne (ne_of_none h hp)]; exact h, by simp, fun r a h e => by rw [List.getElem?_append_left h] at e; exact e, fun r a h => by
    by_cases hr : r < μ.length
    · rw [List.getElem?_append_left hr] at h
      exact .inl ⟨r, h⟩
    · rw [List.getElem?_append_right (by omega)] at h
      have : r - μ.length = 0 := by
        cases q : r - μ.length with
        | zero => rfl
        | succ n => rw [q] at h; simp at h
      rw [this] at h
      simp at h
      subst h
      exact .inr hp, fun a ps h => ⟨ps, by rw [upd_ne (ne_of_none h hp)]; exact h⟩⟩
theorem Sim.new {p : Addr} {o : HO} {c : Cell} {st : Sto} (hp : H p = none) (hm : Mut (some o)) (s : Sim L H μ st) (hc : CellR L (upd H p o) (μ ++ [some p]) μ.length c) : Sim L (upd H p o) (μ ++ [some p]) (st ++ [c]) where
  len := by simp [s.len]
  inj := fun i j a h1 h2 => by
    have lt : ∀ {i : Nat}, (μ ++ [some p])[i]? = some (some a) → (i < μ.length ∧ μ[i]? = some (some a)) ∨ (i = μ.length ∧ a = p) := fun {i} h => by
      by_cases hr : i < μ.length
      · rw [List.getElem?_append_left hr] at h
        exact .inl ⟨hr, h⟩
      · rw [List.getElem?_append_right (by omega)] at h
        cases q : i - μ.length with
        | zero => rw [q] at h; simp at h; exact .inr ⟨by omega, h.symm⟩
        | succ n => rw [q] at h; simp at h
    have np : ∀ {i : Nat}, μ[i]? = some (some p) → False := fun {i} h => by
      obtain ⟨u, h1, _⟩ := s.some_ i p h
      rw [hp] at h1
      cases h1
    rcases lt h1 with ⟨l1, e1⟩ | ⟨l1, e1⟩ <;> rcases lt h2 with ⟨l2, e2⟩ | ⟨l2, e2⟩
    · exact s.inj i j a e1 e2
    · subst e2; exact (np e1).elim
    · subst e1; exact (np e2).elim
    · omega
  cell := fun r c' h => by
    by_cases hr : r < st.length
    · rw [List.getElem?_append_left hr] at h
      exact CellR.keep (Ext.new hp) (fun a h => ⟨by rw [List.getElem?_append_left (by rw [s.len]; exact hr)]; exact h, fun u q => by rw [upd_ne (ne_of_none q hp)]; exact q⟩) (s.cell r c' h)
    · rw [List.getElem?_append_right (by omega)] at h
      cases q : r - st.length with
      | zero =>
        rw [q] at h
        simp at h
        subst h
        have e : r = μ.length := by have := s.len; omega
        rw [e]
        exact hc
      | succ n => rw [q] at h; simp at h
  some_ := fun r a h => by
    by_cases hr : r < μ.length
    · rw [List.getElem?_append_left hr] at h
      obtain ⟨u, h1, h2⟩ := s.some_ r a h
      exact ⟨u, by rw [upd_ne (ne_of_none h1 hp)]; exact h1, h2⟩
    · rw [List.getElem?_append_right (by omega)] at h
      cases q : r - μ.length with
      | zero =>
        rw [q] at h
        simp at h
        subst h
        exact ⟨o, upd_same, hm⟩
      | succ n => rw [q] at h; simp at h
  tab := fun q hq => TabF.ext (fun a u h _ => by rw [upd_ne (ne_of_none h hp)]; exact h) (fun a ps h => by rw [upd_ne (ne_of_none h hp)]; exact h) (s.tab q hq)
/-- a cell is written -/
theorem mut_not_fix {o u : HO} {a : Addr} (h : H a = some o) (hm : Mut (some o)) (h' : H a = some u) : ¬ Fix u := by
  rw [h] at h'
  cases h'
  cases o <;> first | exact hm.elim | exact fun z => z
theorem mut_noTbl {o : HO} (hm : Mut (some o)) : NoTbl o := by
  cases o <;> first | trivial | exact hm.elim
theorem Ext.put {st : Sto} {r : Nat} {a : Addr} {o : HO} (s : Sim L H μ st) (hr : μ[r]? = some (some a)) : Ext H μ (upd H a o) μ := by
  obtain ⟨o0, h0, hm⟩ := s.some_ r a hr
  refine ⟨fun b u h f => ?_, fun b u h _ n => ?_, Nat.le_refl _, fun _ _ _ h => h, fun r _ h => .inl ⟨r, h⟩, fun b ps h => ⟨ps, ?_⟩⟩
  · rw [upd_ne]
    · exact h
    · rintro rfl
      exact mut_not_fix h0 hm h f
  · rw [upd_ne]
    · exact h
    · rintro rfl
      exact n r hr
  · rw [upd_ne]
    · exact h
    · rintro rfl
      rw [h0] at h
      cases h
      exact hm
theorem Sim.put {st : Sto} {r : Nat} {a : Addr} {o : HO} {c : Cell} (s : Sim L H μ st) (hr : μ[r]? = some (some a)) (hm : Mut (some o)) (hc : CellR L (upd H a o) μ r c) : Sim L (upd H a o) μ (st.set r c) := by
  obtain ⟨o0, h0, hm0⟩ := s.some_ r a hr
  have e : Ext H μ (upd H a o) μ := Ext.put s hr
  refine ⟨by simp [s.len], s.inj, fun r' c' h => ?_, fun r' b h => ?_, fun q hq => ?_⟩
  · by_cases hrr : r = r'
    · subst hrr
      by_cases hl : r < st.length
      · rw [List.getElem?_set_self hl] at h
        cases h
        exact hc
      · rw [List.getElem?_eq_none (by simpa using hl)] at h
        cases h
    · rw [List.getElem?_set_ne hrr] at h
      refine CellR.keep e (fun b hb => ⟨hb, fun u q => ?_⟩) (s.cell r' c' h)
      rw [upd_ne]
      · exact q
      · rintro rfl
        exact hrr (s.inj r r' _ hr hb)
  · by_cases hb : b = a
    · subst hb
      exact ⟨o, upd_same, hm⟩
    · obtain ⟨u, h1, h2⟩ := s.some_ r' b h
      exact ⟨u, by rw [upd_ne hb]; exact h1, h2⟩
  · refine TabF.ext (fun b u h f => e.im b u h f) (fun b ps h => ?_) (s.tab q hq)
    rw [upd_ne]
    · exact h
    · rintro rfl
      rw [h0] at h
      cases h
      exact hm0
/-- a cell is locked: it is dead as a cell, its list stands -/
theorem Ext.lock {st : Sto} {r : Nat} {a : Addr} {o : Obj} {u : HO} (s : Sim L H μ st) (hr : μ[r]? = some (some a)) (h0 : H a = some u) : Ext H μ (upd H a (.frz o u)) (μ.set r none) := by
  obtain ⟨o0, h0', hm⟩ := s.some_ r a hr
  have e : Ext H μ (upd H a (.frz o u)) μ := Ext.put s hr
  refine ⟨e.im, e.fr, by simp, fun r' b hl h => ?_, fun r' b h => ?_, e.tb⟩
  · by_cases hrr : r = r'
    · subst hrr
      rw [List.getElem?_set_self hl] at h
      cases h
    · rw [List.getElem?_set_ne hrr] at h
      exact h
  · by_cases hrr : r = r'
    · subst hrr
      by_cases hl : r < μ.length
      · rw [List.getElem?_set_self hl] at h
        cases h
      · rw [List.getElem?_eq_none (by simpa using hl)] at h
        cases h
    · rw [List.getElem?_set_ne hrr] at h
      exact .inl ⟨r', h⟩
theorem Sim.lock {st : Sto} {r : Nat} {a : Addr} {o : Obj} {u : HO} (s : Sim L H μ st) (hr : μ[r]? = some (some a)) (h0 : H a = some u) : Sim L (upd H a (.frz o u)) (μ.set r none) (st.set r .dead) := by
  obtain ⟨o0, h0', hm⟩ := s.some_ r a hr
  have e := Ext.lock (o := o) s hr h0
  refine ⟨by simp [s.len], fun i j b h1 h2 => ?_, fun r' c' h => ?_, fun r' b h => ?_, fun q hq => ?_⟩
  · have f : ∀ {i : Nat}, (μ.set r none)[i]? = some (some b) → μ[i]? = some (some b) := fun {i} h => by
      by_cases hrr : r = i
      · subst hrr
        by_cases hl : r < μ.length
        · rw [List.getElem?_set_self hl] at h
          cases h
        · rw [List.getElem?_eq_none (by simpa using hl)] at h
          cases h
      · rw [List.getElem?_set_ne hrr] at h
        exact h
    exact s.inj i j b (f h1) (f h2)
  · by_cases hrr : r = r'
    · subst hrr
      by_cases hl : r < st.length
      · rw [List.getElem?_set_self hl] at h
        cases h
        trivial
      · rw [List.getElem?_eq_none (by simpa using hl)] at h
        cases h
    · rw [List.getElem?_set_ne hrr] at h
      refine CellR.keep e (fun b hb => ⟨by rw [List.getElem?_set_ne hrr]; exact hb, fun u q => ?_⟩) (s.cell r' c' h)
      rw [upd_ne]
      · exact q
      · rintro rfl
        exact hrr (s.inj r r' _ hr hb)
  · have hrr : r ≠ r' := by
      rintro rfl
      by_cases hl : r < μ.length
      · rw [List.getElem?_set_self hl] at h
        cases h
      · rw [List.getElem?_eq_none (by simpa using hl)] at h
        cases h
    rw [List.getElem?_set_ne hrr] at h
    obtain ⟨v, h1, h2⟩ := s.some_ r' b h
    refine ⟨v, ?_, h2⟩
    rw [upd_ne]
    · exact h1
    · rintro rfl
      exact hrr (s.inj r r' _ hr h)
  · refine TabF.ext (fun b v h f => e.im b v h f) (fun b ps h => ?_) (s.tab q hq)
    rw [upd_ne]
    · exact h
    · rintro rfl
      rw [h0'] at h
      cases h
      exact hm
end
end EvS

namespace EvS
open PySem PySem.Spec PyProof.Rows L2 Ev

/-! ### a new list is locked -/
def QL (Q : VK) : VK := fun v H' => Q v H' ∨ ∃ p u, v = .ref p ∧ H' p = some u ∧ Mut (some u) ∧ ∀ od, Q v (upd H' p (.frz od u))
theorem _root_.L2.EP.lk {X : L2.Cx} {pins : List (Addr × Obj)} {σ : L2.St} {Q : VK} {u : Value} {s : Shared} (h : EP X pins σ (QL Q) u s) : EP X pins σ Q u s := by
  obtain ⟨v, H', I, r, q⟩ := h
  rcases q with q | ⟨p, w, e, h1, h2, q⟩
  · exact ⟨v, H', I, r, q⟩
  · obtain ⟨od, I'⟩ := I.lock h1 h2
    exact ⟨v, _, I', r, q od⟩
theorem EP_lkw {X : L2.Cx} {pins : List (Addr × Obj)} {σ : L2.St} {Q : VK} {A : Around} {M : Model} {t : Sem Value} {E : Value → Shared → Prop} {s : Shared} (h : wpAny M A t (EP X pins σ (QL Q)) E s) : wpAny M A t (EP X pins σ Q) E s := thn h fun _ _ h' => EP.lk h'
theorem _root_.L2.PE.lk {X : L2.Cx} {e : Expr} {t : TE} (h : PE X e t) : PE X e (fun σ H Q => t σ H (QL Q)) :=
  ⟨fun pins s σ H Q I hq => thn (h.run pins s σ H (QL Q) I hq) fun v s' h' => EP.lk h'⟩
theorem _root_.L2.PE.imp {X : L2.Cx} {e : Expr} {t t' : TE} (h : PE X e t) (ht : ∀ σ H Q, t' σ H Q → t σ H Q) : PE X e t' := ⟨fun pins s σ H Q I hq => h.run pins s σ H Q I (ht σ H Q hq)⟩
theorem _root_.L2.PT.imp {X : L2.Cx} {e : Expr} {t t' : TT} (h : PT X e t) (ht : ∀ σ H Q, t' σ H Q → t σ H Q) : PT X e t' := ⟨fun pins s σ H Q I hq => h.run pins s σ H Q I (ht σ H Q hq)⟩
theorem _root_.L2.PW.imp {X : L2.Cx} {e : Expr} {t t' : TT} (h : PW X e t) (ht : ∀ σ H Q, t' σ H Q → t σ H Q) : PW X e t' := ⟨fun wh pins s σ H Q I hq => h.run wh pins s σ H Q I (ht σ H Q hq)⟩
theorem _root_.L2.PA.imp {X : L2.Cx} {e : List Expr} {t t' : TA} (h : PA X e t) (ht : ∀ σ H Q, t' σ H Q → t σ H Q) : PA X e t' := ⟨fun pos pins s σ H Q I hq => h.run pos pins s σ H Q I (ht σ H Q hq)⟩
theorem _root_.L2.PS.imp {X : L2.Cx} {e : Stmt} {t t' : TS} (h : PS X e t) (ht : ∀ D σ H, t' D σ H → t D σ H) : PS X e t' := ⟨fun pins s σ H D I hq => h.run pins s σ H D I (ht D σ H hq)⟩
theorem _root_.L2.PSs.imp {X : L2.Cx} {e : List Stmt} {t t' : TS} (h : PSs X e t) (ht : ∀ D σ H, t' D σ H → t D σ H) : PSs X e t' := ⟨fun pins s σ H D I hq => h.run pins s σ H D I (ht D σ H hq)⟩
theorem _root_.L2.PG.imp {X : L2.Cx} {e : Expr} {t t' : TG} (h : PG X e t) (ht : ∀ v σ H Q, t' v σ H Q → t v σ H Q) : PG X e t' := ⟨fun pins s σ H v u Q I r hq => h.run pins s σ H v u Q I r (ht v σ H Q hq)⟩
theorem _root_.L2.PGs.imp {X : L2.Cx} {e : List Expr} {t t' : TGs} (h : PGs X e t) (ht : ∀ v σ H Q, t' v σ H Q → t v σ H Q) : PGs X e t' := ⟨fun pins s σ H v u Q I r hq => h.run pins s σ H v u Q I r (ht v σ H Q hq)⟩
theorem OpR.lk {X : L2.Cx} {f : Value → Value → Sem Value} {r : R2} (h : OpR X f r) : OpR X f (fun x y H Q => r x y H (QL Q)) :=
  fun pins s σ H x y v u Q I rx ry hq => thn (h pins s σ H x y v u (QL Q) I rx ry hq) fun v s' h' => EP.lk h'
theorem OpR.imp {X : L2.Cx} {f : Value → Value → Sem Value} {r r' : R2} (h : OpR X f r) (hr : ∀ x y H Q, r' x y H Q → r x y H Q) : OpR X f r' :=
  fun pins s σ H x y v u Q I rx ry hq => h pins s σ H x y v u Q I rx ry (hr _ _ _ _ hq)

/-- nothing new, or one fixed thing -/
def New1 (H H' : Hp) : Prop := H' = H ∨ ∃ p o, H p = none ∧ Fix o ∧ H' = upd H p o
/-- the data z is handed on -/
def GD (K : PySem.W.Frag) (H : Hp) (z : D) (Q : VK) : Prop := ∀ H' v, RD K H' z v → New1 H H' → Q v H'
section
variable {K : PySem.W.Frag} {H : Hp} {Q : VK}
theorem GD.val {z : D} {v : V} (h : GD K H z Q) (r : RD K H z v) : Q v H := h H v r (.inl rfl)
theorem New1.fix {H' : Hp} (n : New1 H H') : ∀ a o, H a = some o → H' a = some o := by
  rcases n with rfl | ⟨p, o, h1, h2, rfl⟩
  · exact fun _ _ h => h
  · exact fun a u h => by rw [upd_ne (ne_of_none h h1)]; exact h
theorem GD.tup {xs : List D} {vs : List V} (h : GD K H (.tup xs) Q) (hl : xs.length ≤ line) (r : RDs K H xs vs) {p : Addr} (hp : H p = none) : Q (.ref p) (upd H p (.tup vs)) := by
  refine h _ _ ⟨p, vs, rfl, SqT.of upd_same, hl, r.fix fun a o q _ => ?_⟩ (.inr ⟨p, .tup vs, hp, trivial, rfl⟩)
  rw [upd_ne (ne_of_none q hp)]
  exact q
theorem GD.lst {xs : List D} {vs : List V} (h : GD K H (.lst xs) Q) (hl : xs.length ≤ line) (r : RDs K H xs vs) {p : Addr} (hp : H p = none) : QL Q (.ref p) (upd H p (.lst vs)) := by
  refine .inr ⟨p, .lst vs, rfl, upd_same, trivial, fun od => ?_⟩
  rw [upd_upd]
  refine h _ _ ⟨p, vs, rfl, .inl ⟨od, upd_same⟩, hl, r.fix fun a o q _ => ?_⟩ (.inr ⟨p, .frz od (.lst vs), hp, trivial, rfl⟩)
  rw [upd_ne (ne_of_none q hp)]
  exact q
theorem New1.ext {L : Lw} {H' : Hp} {μ : Mu} {st : Sto} (n : New1 H H') (s : Sim L H μ st) : Ext H μ H' μ ∧ Sim L H' μ st := by
  rcases n with rfl | ⟨p, o, h1, h2, rfl⟩
  · exact ⟨Ext.refl _ _, s⟩
  · exact ⟨Ext.fix h1, s.fix h1⟩
end
theorem len_vs {K : PySem.W.Frag} {H : Hp} {xs : List D} {vs : List V} (r : RDs K H xs vs) (h : xs.length ≤ line) : vs.length ≤ sizeLine := by rw [r.len, ← line_eq]; exact h

/-! ### operators -/
def pyOp : Op → Operator
  | .add => .Add | .sub => .Sub | .mul => .Mult | .fdiv => .FloorDiv | .mod => .Mod | .pow => .Pow
section
variable {X : L2.Cx}
/-- list + list, both read -/
def rCatS (K : PySem.W.Frag) : R2 := fun x y H Q => ∃ l b xs zs, x = .ref l ∧ y = .ref b ∧ SqL K H l xs ∧ SqL K H b zs ∧ xs.length + zs.length ≤ sizeLine ∧ ∀ p, H p = none → Q (.ref p) (upd H p (.lst (xs ++ zs)))
theorem op_catS : OpR X (binaryOp .Add) (rCatS X.K) := by
  intro pins s σ H x y v u Q I rx ry h
  obtain ⟨l, b, xs, zs, rfl, rfl, hl, hb, hz, q⟩ := h
  cases rx
  cases ry
  obtain ⟨vs, r1, ⟨⟨c1, d1, t1, s1⟩, n1, e1, k1, _, a1⟩, z1⟩ := I.list hl
  obtain ⟨ws, r2, ⟨⟨c2, d2, t2, s2⟩, n2, e2, k2, _, a2⟩, z2⟩ := I.list hb
  simp only at k1 a1 k2 a2
  subst k1 a1 k2 a2
  have l1 := r1.length
  have l2 := r2.length
  have e : vs.toArray ++ ws.toArray = (vs ++ ws).toArray := by simp
  refine concat_meets ⟨_, e1, rfl⟩ ⟨_, e2, rfl⟩ noFill_list_add seq_list_add PySem.F.slot_list_add PySem.F.entry_list_add (PySem.F.args_list_add_2 _ _) (list_addW l b vs.toArray ws.toArray n1 n2 d1 d2 s1 s2 (by simp only [List.size_toArray]; omega)) ⟨e1, e2, ?_⟩
  rw [e]
  exact ⟨.ref _, _, I.lnew (t' := s.toks) (r1.append r2) (by rw [List.length_append]; omega), rfl, q _ I.fresh⟩
theorem foldl_app (a : Array Nat) : ∀ (k : Nat) (acc : Array Nat), (List.replicate k a).foldl (· ++ ·) acc = acc ++ (Ev.rep k a.toList).toArray
  | 0, acc => by simp [Ev.rep]
  | k + 1, acc => by
    rw [List.replicate_succ, List.foldl_cons, foldl_app a k]
    show _ = acc ++ (a.toList ++ Ev.rep k a.toList).toArray
    rw [Array.append_assoc]
    refine congrArg (acc ++ ·) (Array.ext' ?_)
    simp
theorem len_rep {α : Type} (xs : List α) : ∀ k : Nat, (Ev.rep k xs).length = xs.length * k
  | 0 => rfl
  | k + 1 => by
    show (xs ++ Ev.rep k xs).length = _
    rw [List.length_append, len_rep xs k, Nat.mul_succ]
    omega
theorem mem_rep {α : Type} {xs : List α} {x : α} : ∀ {k : Nat}, x ∈ Ev.rep k xs → x ∈ xs
  | 0, h => by simp [Ev.rep] at h
  | k + 1, h => by
    rcases List.mem_append.mp (show x ∈ xs ++ Ev.rep k xs from h) with h | h
    · exact h
    · exact mem_rep h
theorem txt_mul (a : List Nat) (b : Int) : Txt.mul ⟨a.toArray⟩ b = ⟨(Ev.rep b.toNat a).toArray⟩ := by
  unfold Txt.mul
  by_cases h : b < 1
  · rw [if_pos h]
    have e : b.toNat = 0 := by omega
    rw [e]
    rfl
  · rw [if_neg h]
    split
    · rename_i h2
      rw [Bool.or_eq_true] at h2
      rcases h2 with h2 | h2
      · have e : b = 1 := by simpa using h2
        subst e
        show _ = (⟨(a ++ []).toArray⟩ : Str)
        rw [List.append_nil]
      · have e : a = [] := by
          have e : a.length = 0 := by
            have := eq_of_beq h2
            simpa [Str.length] using this
          exact List.eq_nil_of_length_eq_zero e
        subst e
        have : Ev.rep b.toNat ([] : List Nat) = [] := by
          apply List.eq_nil_of_length_eq_zero
          rw [len_rep]
          simp
        rw [this]
    · have := foldl_app a.toArray b.toNat #[]
      rw [this]
      simp
/-- text * int -/
def rMulS : R2 := fun x y H Q => ∃ a k, x = .str ⟨a.toArray⟩ ∧ y = .int k ∧ k.natAbs < 1000000 ∧ a.length * k.toNat ≤ line ∧ Q (.str ⟨(Ev.rep k.toNat a).toArray⟩) H
theorem op_mulS : OpR X (binaryOp .Mult) rMulS := by
  intro pins s σ H x y v u Q I rx ry h
  obtain ⟨a, k, rfl, rfl, hk, hz, q⟩ := h
  obtain ⟨t, rfl⟩ := rx
  obtain ⟨t', rfl⟩ := ry
  have hz' : a.length * k.toNat ≤ 16777216 := hz
  refine SB.mul ⟨?_, fun h1 h2 => ?_, fun h1 h2 => ?_⟩ fun t2 k2 => ⟨.str (Txt.mul ⟨a.toArray⟩ k), H, I.tok _, ⟨t2, rfl⟩, ?_⟩
  · rw [Bool.or_eq_false_iff]
    exact ⟨decide_eq_false (by omega), decide_eq_false (by omega)⟩
  · show ¬ (((⟨a.toArray⟩ : Str).length : Int) > (2 ^ 63 - 1) / k)
    have e : (⟨a.toArray⟩ : Str).length = a.length := by simp [Str.length]
    rw [e]
    intro hgt
    have hk1 : 1 ≤ k := by omega
    have h3 : (a.length : Int) * k ≤ 16777216 := by
      have h4 : ((a.length * k.toNat : Nat) : Int) ≤ 16777216 := by omega
      have h5 : ((a.length * k.toNat : Nat) : Int) = (a.length : Int) * k := by
        rw [Int.natCast_mul, Int.toNat_of_nonneg (by omega)]
      omega
    have h6 : ((a.length : Int)) ≤ (2 ^ 63 - 1) / k := by
      rw [Int.le_ediv_iff_mul_le (by omega)]
      omega
    omega
  · show PySem.Builtin.Str.tooLong _ = false
    have e : (⟨a.toArray⟩ : Str).length = a.length := by simp [Str.length]
    rw [e]
    unfold PySem.Builtin.Str.tooLong
    exact decide_eq_false (by rw [sizeLine_eq]; omega)
  · rw [txt_mul]
    exact q
end
end EvS

namespace EvS
open PySem PySem.Spec PyProof.Rows L2 Ev
section
variable {K : PySem.W.Frag} {H : Hp} {x : V}
theorem RW.int {i : Int} (h : RW K H (.int i) x) : x = .int i := by
  rcases h with h | ⟨_, _, _, e, _⟩
  · exact h
  · cases e
theorem RW.bl {i : Bool} (h : RW K H (.bl i) x) : x = .bl i := by
  rcases h with h | ⟨_, _, _, e, _⟩
  · exact h
  · cases e
theorem RW.str {s : List Nat} (h : RW K H (.str s) x) : x = .str ⟨s.toArray⟩ ∧ s.length ≤ line ∧ ∀ c ∈ s, c < 128 := by
  rcases h with h | ⟨_, _, _, e, _⟩
  · exact h
  · cases e
theorem RW.tup {s : List D} (h : RW K H (.tup s) x) : ∃ a vs, x = .ref a ∧ SqT K H a vs ∧ s.length ≤ line ∧ RDs K H s vs := by
  rcases h with h | ⟨_, _, _, e, _⟩
  · exact h
  · cases e
theorem RW.lst {s : List D} (h : RW K H (.lst s) x) : ∃ a vs, x = .ref a ∧ SqL K H a vs ∧ s.length ≤ line ∧ RDs K H s vs := by
  rcases h with ⟨a, vs, h1, h2, h3, h4⟩ | ⟨_, a, vs, e, h1, h2, h3, h4⟩
  · exact ⟨a, vs, h1, h2.sq, h3, h4⟩
  · cases e
    exact ⟨a, vs, h1, h2, h3, h4⟩
theorem str_app (a b : List Nat) : ((⟨a.toArray⟩ : Str) ++ ⟨b.toArray⟩) = ⟨(a ++ b).toArray⟩ := by
  show (⟨a.toArray ++ b.toArray⟩ : Str) = _
  simp
theorem str_len (a : List Nat) : (⟨a.toArray⟩ : Str).length = a.length := by simp [Str.length]
end
section
variable {X : L2.Cx}
/-- the operation o over data -/
def rOpD (K : PySem.W.Frag) (o : Op) : R2 := fun x y H Q => ∃ a b z, RW K H a x ∧ RW K H b y ∧ opD o a b = some z ∧ GD K H z Q
theorem opR_D (o : Op) : OpR X (binaryOp (pyOp o)) (rOpD X.K o) := by
  intro pins s σ H x y v u Q I rx ry h
  obtain ⟨a, b, z, ha, hb, hz, q⟩ := h
  unfold opD at hz
  split at hz
  · cases hz
    rw [ha.int] at rx
    rw [hb.int] at ry
    exact op_add pins s σ H _ _ v u Q I rx ry ⟨_, _, rfl, rfl, q.val rfl⟩
  · cases hz
    rw [ha.bl] at rx
    rw [hb.int] at ry
    cases rx
    obtain ⟨t, rfl⟩ := ry
    exact PySem.IntBool.add_bool_int ⟨.int _, H, I.tok _, ⟨_, rfl⟩, q.val rfl⟩
  · cases hz
    rw [ha.int] at rx
    rw [hb.bl] at ry
    exact op_add_ib pins s σ H _ _ v u Q I rx ry ⟨_, _, rfl, rfl, q.val rfl⟩
  · rename_i a b
    split at hz
    · rename_i hl
      cases hz
      obtain ⟨e1, l1, c1⟩ := ha.str
      obtain ⟨e2, l2, c2⟩ := hb.str
      rw [e1] at rx
      rw [e2] at ry
      refine op_add_str pins s σ H _ _ v u Q I rx ry ⟨_, _, rfl, rfl, by rw [str_len, str_len, ← line_eq]; exact hl, ?_⟩
      rw [str_app]
      exact q.val ⟨rfl, by rw [List.length_append]; exact hl, fun c hc => (List.mem_append.mp hc).elim (c1 c) (c2 c)⟩
    · cases hz
  · rename_i a b
    split at hz
    · rename_i hl
      cases hz
      obtain ⟨p, vs, e1, h1, l1, r1⟩ := ha.tup
      obtain ⟨p2, vs2, e2, h2, l2, r2⟩ := hb.tup
      rw [e1] at rx
      rw [e2] at ry
      have ll : vs.length + vs2.length ≤ sizeLine := by rw [r1.len, r2.len, ← line_eq]; exact hl
      refine op_catA pins s σ H _ _ v u Q I rx ry ⟨p, p2, vs, vs2, rfl, rfl, h1, h2, ll, fun e => ?_, fun _ e => ?_, fun _ _ p3 hp => ?_⟩
      · have ea : a = [] := by
          have := r1.len
          rw [e] at this
          exact List.eq_nil_of_length_eq_zero this.symm
        subst ea
        exact q.val ⟨p2, vs2, rfl, h2, l2, r2⟩
      · have eb : b = [] := by
          have := r2.len
          rw [e] at this
          exact List.eq_nil_of_length_eq_zero this.symm
        subst eb
        refine q.val ⟨p, vs, rfl, h1, ?_, ?_⟩
        · rw [List.append_nil]; exact l1
        · rw [List.append_nil]; exact r1
      · exact q.tup (by rw [List.length_append]; exact hl) (r1.app r2) hp
    · cases hz
  · rename_i a b
    split at hz
    · rename_i hl
      cases hz
      obtain ⟨p, vs, e1, h1, l1, r1⟩ := ha.lst
      obtain ⟨p2, vs2, e2, h2, l2, r2⟩ := hb.lst
      rw [e1] at rx
      rw [e2] at ry
      have ll : vs.length + vs2.length ≤ sizeLine := by rw [r1.len, r2.len, ← line_eq]; exact hl
      exact EP_lkw (op_catS pins s σ H _ _ v u (QL Q) I rx ry ⟨p, p2, vs, vs2, rfl, rfl, h1, h2, ll, fun p3 hp => q.lst (by rw [List.length_append]; exact hl) (r1.app r2) hp⟩)
    · cases hz
  · cases hz
    rw [ha.int] at rx
    rw [hb.int] at ry
    exact op_sub pins s σ H _ _ v u Q I rx ry ⟨_, _, rfl, rfl, q.val rfl⟩
  · split at hz
    · rename_i hl
      cases hz
      rw [ha.int] at rx
      rw [hb.int] at ry
      refine op_mul pins s σ H _ _ v u Q I rx ry ⟨_, _, rfl, rfl, ?_, q.val rfl⟩
      rcases hl with hl | hl
      · exact .inl (by omega)
      · exact .inr (by omega)
    · cases hz
  · split at hz
    · rename_i hl
      cases hz
      obtain ⟨e1, l1, c1⟩ := ha.str
      rw [e1] at rx
      rw [hb.int] at ry
      refine op_mulS pins s σ H _ _ v u Q I rx ry ⟨_, _, rfl, rfl, hl.1, hl.2, q.val ⟨rfl, ?_, fun c hc => c1 c (mem_rep hc)⟩⟩
      rw [len_rep]
      exact hl.2
    · cases hz
  · rename_i a as b
    split at hz
    · rename_i hl
      cases hz
      obtain ⟨p, vs, e1, h1, l1, r1⟩ := ha.tup
      rw [e1] at rx
      rw [hb.int] at ry
      refine op_repT pins s σ H _ _ v u Q I rx ry ⟨p, _, vs, rfl, rfl, h1, ?_, hl.1, hl.2.1, by rw [r1.len]; exact hl.2.2, fun p3 hp => q.tup ?_ (RDs.rep r1 _) hp⟩
      · intro e
        have := r1.len
        rw [e] at this
        cases this
      · rw [len_rep]
        have h3 : (a :: as).length * b.toNat ≤ 1000 * 1000 := Nat.mul_le_mul hl.2.2 (by omega)
        exact Nat.le_trans h3 (by decide)
    · cases hz
  · split at hz
    · rename_i hl
      cases hz
      rw [ha.int] at rx
      rw [hb.int] at ry
      exact op_fdivN pins s σ H _ _ v u Q I rx ry ⟨_, _, rfl, rfl, hl, q.val rfl⟩
    · cases hz
  · split at hz
    · rename_i hl
      cases hz
      rw [ha.int] at rx
      rw [hb.int] at ry
      exact op_modN pins s σ H _ _ v u Q I rx ry ⟨_, _, rfl, rfl, hl, q.val rfl⟩
    · cases hz
  · split at hz
    · rename_i hl
      cases hz
      rw [ha.int] at rx
      rw [hb.int] at ry
      exact op_pow pins s σ H _ _ v u Q I rx ry ⟨_, _, rfl, rfl, ⟨hl.1, by omega, hl.2.2⟩, q.val rfl⟩
    · cases hz
  · cases hz
end
end EvS

namespace EvS
open PySem PySem.Spec PyProof.Rows L2 Ev
def pyCop : Cop → CmpOp
  | .lt => .Lt | .le => .LtE | .gt => .Gt | .ge => .GtE | .eq => .Eq | .ne => .NotEq | .isin => .In | .notin => .NotIn
theorem any_inD (x : D) : ∀ xs : List D, ((toPys xs).any fun y => PyData.eqv y (toPy x)) = inD x xs
  | [] => rfl
  | y :: ys => by
    show (PyData.eqv (toPy y) (toPy x) || (toPys ys).any _) = (D.eqv y x || inD x ys)
    rw [toPy_eqv, any_inD x ys]
section
variable {X : L2.Cx}
/-- the comparison o over data -/
def rCopD (K : PySem.W.Frag) (o : Cop) : R2 := fun x y H Q => ∃ a b k, RW K H a x ∧ RW K H b y ∧ copD o a b = some k ∧ Q (.bl k) H
theorem in_lst {pins : List (Addr × Obj)} {s : Shared} {σ : L2.St} {H : Hp} {x y : V} {v u : Value} {Q : VK} {a : D} {xs : List D} (hu : X.A.units + 70 < cLine) (I : L2.Inv X pins σ H s) (rx : RelV x v) (ry : RelV y u)
    (ha : RW X.K H a x) (hd : a.depth ≤ 64) :
    (RW X.K H (.lst xs) y → (Q (.bl (inD a xs)) H → wpAny (model X.prog X.w) X.A (compareOp .In v u) (EP X pins σ Q) X.xe s) ∧ (Q (.bl (!inD a xs)) H → wpAny (model X.prog X.w) X.A (compareOp .NotIn v u) (EP X pins σ Q) X.xe s)) ∧
    (RW X.K H (.tup xs) y → (Q (.bl (inD a xs)) H → wpAny (model X.prog X.w) X.A (compareOp .In v u) (EP X pins σ Q) X.xe s) ∧ (Q (.bl (!inD a xs)) H → wpAny (model X.prog X.w) X.A (compareOp .NotIn v u) (EP X pins σ Q) X.xe s)) := by
  obtain ⟨as, r1⟩ := Dp.reads I _ x v ha.dp rx
  have hr : X.A.units + 1 + min (PyData.depthAll (toPys xs)) (toPy a).depth < cLine := by
    have := Nat.min_le_right (PyData.depthAll (toPys xs)) (toPy a).depth
    rw [toPy_depth] at this ⊢
    omega
  refine ⟨fun hb => ?_, fun hb => ?_⟩
  · obtain ⟨bs, r2⟩ := Dp.reads I _ y u hb.dp ry
    have hl : PyData.canLayAll0 (toPys xs) = true := hb.lay
    exact ⟨fun q => SeqAt.in_list_reads (xs := toPys xs) r2 r1 hl ha.lay hr ⟨.bl _, H, I, rfl, by rw [any_inD]; exact q⟩,
      fun q => SeqAt.notIn_list_reads (xs := toPys xs) r2 r1 hl ha.lay hr ⟨.bl _, H, I, rfl, by rw [any_inD]; exact q⟩⟩
  · obtain ⟨bs, r2⟩ := Dp.reads I _ y u hb.dp ry
    have hl : PyData.canLayAll0 (toPys xs) = true := hb.lay
    exact ⟨fun q => SeqAt.in_tuple_reads (xs := toPys xs) r2 r1 hl ha.lay hr ⟨.bl _, H, I, rfl, by rw [any_inD]; exact q⟩,
      fun q => SeqAt.notIn_tuple_reads (xs := toPys xs) r2 r1 hl ha.lay hr ⟨.bl _, H, I, rfl, by rw [any_inD]; exact q⟩⟩
theorem inS_some {c s : List Nat} {k : Bool} (h : inS c s = some k) : ∃ x, c = [x] ∧ k = decide (x ∈ s) := by
  unfold inS at h
  split at h
  · rename_i x
    cases h
    exact ⟨x, rfl, by rw [Bool.eq_iff_iff]; simp⟩
  · cases h
theorem copR_D (o : Cop) (hu : X.A.units + 70 < cLine) : OpR X (compareOp (pyCop o)) (rCopD X.K o) := by
  intro pins s σ H x y v u Q I rx ry h
  obtain ⟨a, b, k, ha, hb, hz, q⟩ := h
  unfold copD at hz
  split at hz
  · cases hz
    rw [ha.int] at rx
    rw [hb.int] at ry
    exact op_lt pins s σ H _ _ v u Q I rx ry ⟨_, _, rfl, rfl, q⟩
  · cases hz
    rw [ha.int] at rx
    rw [hb.int] at ry
    exact op_le pins s σ H _ _ v u Q I rx ry ⟨_, _, rfl, rfl, q⟩
  · cases hz
    rw [ha.int] at rx
    rw [hb.int] at ry
    exact op_gt pins s σ H _ _ v u Q I rx ry ⟨_, _, rfl, rfl, q⟩
  · cases hz
    rw [ha.int] at rx
    rw [hb.int] at ry
    exact op_ge pins s σ H _ _ v u Q I rx ry ⟨_, _, rfl, rfl, q⟩
  · split at hz
    · rename_i hd
      cases hz
      obtain ⟨as, r1⟩ := Dp.reads I _ x v ha.dp rx
      obtain ⟨bs, r2⟩ := Dp.reads I _ y u hb.dp ry
      exact SeqAt.compareEq_reads r1 r2 ha.lay hb.lay (by rw [toPy_depth, toPy_depth]; omega) ⟨.bl _, H, I, rfl, by rw [toPy_eqv]; exact q⟩
    · cases hz
  · split at hz
    · rename_i hd
      cases hz
      obtain ⟨as, r1⟩ := Dp.reads I _ x v ha.dp rx
      obtain ⟨bs, r2⟩ := Dp.reads I _ y u hb.dp ry
      exact SeqAt.compareNe_reads r1 r2 ha.lay hb.lay (by rw [toPy_depth, toPy_depth]; omega) ⟨.bl _, H, I, rfl, by rw [toPy_eqv]; exact q⟩
    · cases hz
  · obtain ⟨c, rfl, rfl⟩ := inS_some hz
    obtain ⟨e1, _⟩ := ha.str
    obtain ⟨e2, _⟩ := hb.str
    rw [e1] at rx
    rw [e2] at ry
    exact op_in_sign pins s σ H _ _ v u Q I rx ry ⟨c, _, rfl, rfl, q⟩
  · split at hz
    · rename_i b' hb'
      cases hz
      obtain ⟨c, rfl, rfl⟩ := inS_some hb'
      obtain ⟨e1, _⟩ := ha.str
      obtain ⟨e2, _⟩ := hb.str
      rw [e1] at rx
      rw [e2] at ry
      exact op_notIn_sign pins s σ H _ _ v u Q I rx ry ⟨c, _, rfl, rfl, q⟩
    · cases hz
  · split at hz
    · rename_i hd
      cases hz
      exact ((in_lst hu I rx ry ha hd).2 hb).1 q
    · cases hz
  · split at hz
    · rename_i hd
      cases hz
      exact ((in_lst hu I rx ry ha hd).1 hb).1 q
    · cases hz
  · split at hz
    · rename_i hd
      cases hz
      exact ((in_lst hu I rx ry ha hd).2 hb).2 q
    · cases hz
  · split at hz
    · rename_i hd
      cases hz
      exact ((in_lst hu I rx ry ha hd).1 hb).2 q
    · cases hz
  · cases hz
end
end EvS

namespace EvS
open PySem PySem.Spec PyProof.Rows L2 Ev

/-! ### keys -/
theorem kf_mono : ∀ {n m : Nat} {x : D}, x.kf n = true → n ≤ m → x.kf m = true
  | 0, _, .tup _, h, _ => by simp [D.kf] at h
  | n + 1, m, .tup xs, h, hm => by
    obtain ⟨m', rfl⟩ : ∃ m', m = m' + 1 := ⟨m - 1, by omega⟩
    rw [show D.kf (n + 1) (.tup xs) = xs.all (D.kf n) by simp [D.kf]] at h
    rw [show D.kf (m' + 1) (.tup xs) = xs.all (D.kf m') by simp [D.kf], List.all_eq_true]
    intro y hy
    exact kf_mono (List.all_eq_true.mp h y hy) (by omega)
  | _, _, .lst _, h, _ => by simp [D.kf] at h
  | _, _, .non, _, _ => by simp [D.kf]
  | _, _, .bl _, _, _ => by simp [D.kf]
  | _, _, .int _, _, _ => by simp [D.kf]
  | _, _, .str _, _, _ => by simp [D.kf]
theorem key_kf {x : D} (h : x.key = true) : x.kf 8 = true := by
  cases x with
  | tup xs =>
    have h' : xs.all (D.kf 7) = true := h
    simp [D.kf] at h' ⊢
    exact h'
  | _ => simp [D.key] at h
mutual
theorem kf_depth : ∀ (x : D) (n : Nat), x.kf n = true → (toK x).depth ≤ n
  | .non, _, _ => Nat.zero_le _
  | .bl _, _, _ => Nat.zero_le _
  | .int _, _, _ => Nat.zero_le _
  | .str _, _, _ => Nat.zero_le _
  | .tup xs, 0, h => by simp [D.kf] at h
  | .tup xs, n + 1, h => by
    have h' : ∀ y ∈ xs, D.kf n y = true := by simpa [D.kf] using h
    show PySem.NestedKey.depthAll (toKs xs) + 1 ≤ n + 1
    exact Nat.succ_le_succ (kfs_depth xs n h')
  | .lst xs, _, h => by simp [D.kf] at h
theorem kfs_depth : ∀ (xs : List D) (n : Nat), (∀ y ∈ xs, y.kf n = true) → PySem.NestedKey.depthAll (toKs xs) ≤ n
  | [], _, _ => Nat.zero_le _
  | x :: xs, n, h => by
    show max (toK x).depth (PySem.NestedKey.depthAll (toKs xs)) ≤ n
    exact Nat.max_le.mpr ⟨kf_depth x n (h x List.mem_cons_self), kfs_depth xs n fun y hy => h y (List.mem_cons_of_mem _ hy)⟩
end
theorem str_dec (a b : List Nat) : (a == b) = decide ((⟨a.toArray⟩ : Str) = ⟨b.toArray⟩) := by
  rw [← str_beq, Bool.beq_eq_decide_eq]
mutual
theorem eqv_beq : ∀ (x y : D) (n m : Nat), x.kf n = true → y.kf m = true → D.eqv x y = PySem.NestedKey.beq (toK x) (toK y)
  | .tup xs, .tup ys, 0, _, h, _ => by simp [D.kf] at h
  | .tup xs, .tup ys, _ + 1, 0, _, h => by simp [D.kf] at h
  | .tup xs, .tup ys, n + 1, m + 1, h, h' => by
    show D.eqvs xs ys = PySem.NestedKey.beqAll (toKs xs) (toKs ys)
    exact eqvs_beq xs ys n m (by simpa [D.kf] using h) (by simpa [D.kf] using h')
  | .lst _, _, _, _, h, _ => by simp [D.kf] at h
  | _, .lst _, _, _, _, h => by simp [D.kf] at h
  | .str a, .str b, _, _, _, _ => str_dec a b
  | .int a, .int b, _, _, _, _ => by show (a == b) = decide (a = b); rw [Bool.beq_eq_decide_eq]
  | .bl a, .int b, _, _, _, _ => by show ((if a then 1 else 0) == b) = decide ((if a then 1 else 0) = b); rw [Bool.beq_eq_decide_eq]
  | .int a, .bl b, _, _, _, _ => by show (a == (if b then 1 else 0)) = decide (a = (if b then 1 else 0)); rw [Bool.beq_eq_decide_eq]
  | .bl a, .bl b, _, _, _, _ => by cases a <;> cases b <;> rfl
  | .non, .non, _, _, _, _ => rfl | .non, .bl _, _, _, _, _ => rfl | .non, .int _, _, _, _, _ => rfl | .non, .str _, _, _, _, _ => rfl | .non, .tup _, _, _, _, _ => rfl
  | .bl _, .non, _, _, _, _ => rfl | .bl _, .str _, _, _, _, _ => rfl | .bl _, .tup _, _, _, _, _ => rfl
  | .int _, .non, _, _, _, _ => rfl | .int _, .str _, _, _, _, _ => rfl | .int _, .tup _, _, _, _, _ => rfl
  | .str _, .non, _, _, _, _ => rfl | .str _, .bl _, _, _, _, _ => rfl | .str _, .int _, _, _, _, _ => rfl | .str _, .tup _, _, _, _, _ => rfl
  | .tup _, .non, _, _, _, _ => rfl | .tup _, .bl _, _, _, _, _ => rfl | .tup _, .int _, _, _, _, _ => rfl | .tup _, .str _, _, _, _, _ => rfl
theorem eqvs_beq : ∀ (xs ys : List D) (n m : Nat), (∀ x ∈ xs, x.kf n = true) → (∀ y ∈ ys, y.kf m = true) → D.eqvs xs ys = PySem.NestedKey.beqAll (toKs xs) (toKs ys)
  | [], [], _, _, _, _ => rfl
  | [], _ :: _, _, _, _, _ => rfl
  | _ :: _, [], _, _, _, _ => rfl
  | x :: xs, y :: ys, n, m, h, h' => by
    show (D.eqv x y && D.eqvs xs ys) = (PySem.NestedKey.beq (toK x) (toK y) && PySem.NestedKey.beqAll (toKs xs) (toKs ys))
    rw [eqv_beq x y n m (h x List.mem_cons_self) (h' y List.mem_cons_self), eqvs_beq xs ys n m (fun z hz => h z (List.mem_cons_of_mem _ hz)) fun z hz => h' z (List.mem_cons_of_mem _ hz)]
end
theorem eqv_key {x y : D} (hx : x.key = true) (hy : y.key = true) : D.eqv x y = decide (toK x = toK y) := by
  rw [PySem.NestedKey.decide_eq]
  exact eqv_beq x y 8 8 (key_kf hx) (key_kf hy)

/-! ### the dict's entries -/
section
variable {L : Lw} {H : Hp}
theorem KVs.get {k : D} (hk : k.key = true) : ∀ {kvs : List (D × D)} {xs : List (PySem.NestedKey × Addr × Value)}, KVs L H kvs xs →
    (getD k kvs = none ∧ atKey xs (toK k) = none) ∨ ∃ v p u, getD k kvs = some v ∧ atKey xs (toK k) = some p ∧ RelV u p.2 ∧ RD L.K H v u
  | [], xs, h => by
    have e : xs = [] := h
    subst e
    exact .inl ⟨rfl, rfl⟩
  | (k', v') :: r, xs, ⟨a, val, u, xr, h1, h2, h3, h4, h5, h6⟩ => by
    subst h1
    have e := eqv_key h2 hk
    by_cases c : toK k' = toK k
    · rw [decide_eq_true c] at e
      refine .inr ⟨v', (a, val), u, ?_, ?_, h4, h5⟩
      · show (if D.eqv k' k then some v' else _) = _
        rw [e]
        rfl
      · unfold atKey
        rw [List.find?_cons_of_pos (by simpa using c)]
        rfl
    · rw [decide_eq_false c] at e
      have e1 : getD k ((k', v') :: r) = getD k r := by
        show (if D.eqv k' k then some v' else getD k r) = _
        rw [e]
        rfl
      have e2 : atKey ((toK k', a, val) :: xr) (toK k) = atKey xr (toK k) := by
        unfold atKey
        rw [List.find?_cons_of_neg (by simpa using c)]
      rw [e1, e2]
      exact KVs.get hk h6
theorem KVs.len : ∀ {kvs : List (D × D)} {xs : List (PySem.NestedKey × Addr × Value)}, KVs L H kvs xs → xs.length = kvs.length
  | [], xs, h => by
    have e : xs = [] := h
    subst e
    rfl
  | (k', v') :: r, xs, ⟨a, val, u, xr, h1, h2, h3, h4, h5, h6⟩ => by
    subst h1
    rw [List.length_cons, List.length_cons, KVs.len h6]
theorem putD_len (k v : D) : ∀ kvs : List (D × D), (putD k v kvs).length ≤ kvs.length + 1
  | [] => Nat.le_refl _
  | (k', v') :: r => by
    show (if D.eqv k' k then (k', v) :: r else (k', v') :: putD k v r).length ≤ _
    split
    · simp
    · have := putD_len k v r
      simp only [List.length_cons]
      omega
theorem KVs.putNo {k v : D} (hk : k.key = true) {ka : Addr} {val : Value} {u : V} (h1 : RD L.K H k (.ref ka)) (h2 : RelV u val) (h3 : RD L.K H v u) : ∀ {kvs : List (D × D)} {xs : List (PySem.NestedKey × Addr × Value)}, KVs L H kvs xs →
    atKey xs (toK k) = none → KVs L H (putD k v kvs) (xs ++ [(toK k, ka, val)])
  | [], xs, h, _ => by
    have e : xs = [] := h
    subst e
    exact ⟨ka, val, u, [], rfl, hk, h1, h2, h3, rfl⟩
  | (k', v') :: r, xs, ⟨a, val', u', xr, g1, g2, g3, g4, g5, g6⟩, hn => by
    subst g1
    have c : ¬ toK k' = toK k := fun c => by
      unfold atKey at hn
      rw [List.find?_cons_of_pos (by simpa using c)] at hn
      cases hn
    have e2 : atKey ((toK k', a, val') :: xr) (toK k) = atKey xr (toK k) := by
      unfold atKey
      rw [List.find?_cons_of_neg (by simpa using c)]
    have e : putD k v ((k', v') :: r) = (k', v') :: putD k v r := by
      show (if D.eqv k' k then _ else _) = _
      rw [eqv_key g2 hk, decide_eq_false c]
      rfl
    rw [e]
    rw [e2] at hn
    exact ⟨a, val', u', xr ++ [(toK k, ka, val)], rfl, g2, g3, g4, g5, KVs.putNo hk h1 h2 h3 g6 hn⟩
theorem KVs.putYes {k v : D} (hk : k.key = true) {val : Value} {u : V} (h2 : RelV u val) (h3 : RD L.K H v u) : ∀ {kvs : List (D × D)} {xs : List (PySem.NestedKey × Addr × Value)}, KVs L H kvs xs → (xs.map (·.1)).Nodup →
    (atKey xs (toK k)).isSome = true → KVs L H (putD k v kvs) (xs.map (putAt (toK k) val))
  | [], xs, h, _, hs => by
    have e : xs = [] := h
    subst e
    cases hs
  | (k', v') :: r, xs, ⟨a, val', u', xr, g1, g2, g3, g4, g5, g6⟩, hn, hs => by
    subst g1
    have hn' := List.nodup_cons.mp hn
    by_cases c : toK k' = toK k
    · have e : putD k v ((k', v') :: r) = (k', v) :: r := by
        show (if D.eqv k' k then _ else _) = _
        rw [eqv_key g2 hk, decide_eq_true c]
        rfl
      rw [e]
      have same : xr.map (putAt (toK k) val) = xr := by
        conv => rhs; rw [← List.map_id xr]
        refine List.map_congr_left fun x hx => ?_
        have : ¬ x.1 = toK k := fun q => hn'.1 (by
          show toK k' ∈ xr.map (·.1)
          rw [c, ← q]
          exact List.mem_map.mpr ⟨x, hx, rfl⟩)
        show (if x.1 = toK k then _ else x) = x
        rw [if_neg this]
      rw [List.map_cons, same]
      refine ⟨a, val, u, xr, ?_, g2, g3, h2, h3, g6⟩
      show (if toK k' = toK k then _ else _) :: xr = _
      rw [if_pos c]
    · have e : putD k v ((k', v') :: r) = (k', v') :: putD k v r := by
        show (if D.eqv k' k then _ else _) = _
        rw [eqv_key g2 hk, decide_eq_false c]
        rfl
      have e2 : atKey ((toK k', a, val') :: xr) (toK k) = atKey xr (toK k) := by
        unfold atKey
        rw [List.find?_cons_of_neg (by simpa using c)]
      rw [e, List.map_cons]
      rw [e2] at hs
      refine ⟨a, val', u', xr.map (putAt (toK k) val), ?_, g2, g3, g4, g5, KVs.putYes hk h2 h3 g6 hn'.2 hs⟩
      show (if toK k' = toK k then _ else _) :: _ = _
      rw [if_neg c]
end

/-! ### keys in the heap -/
section
variable {X : L2.Cx} {pins : List (Addr × Obj)} {σ : L2.St} {H : Hp} {s : Shared}
mutual
theorem RD.nested (I : L2.Inv X pins σ H s) : ∀ (x : D) (n : Nat) (v : V) (u : Value), x.kf n = true → RD X.K H x v → RelV v u → PySem.NestedIs s.heap (toK x) u
  | .non, _, v, u, _, h, r => by
    have e : v = .non := h
    subst e
    cases r
    exact .none
  | .bl b, _, v, u, _, h, r => by
    have e : v = .bl b := h
    subst e
    cases r
    exact .bool rfl
  | .int i, _, v, u, _, h, r => by
    have e : v = .int i := h
    subst e
    obtain ⟨t, rfl⟩ := r
    exact .int i t
  | .str z, _, v, u, _, h, r => by
    obtain ⟨e, _⟩ := h
    subst e
    obtain ⟨t, rfl⟩ := r
    exact .text _ t
  | .tup xs, 0, _, _, hk, _, _ => by simp [D.kf] at hk
  | .tup xs, n + 1, v, u, hk, ⟨a, vs, e, h1, h2, h3⟩, r => by
    subst e
    cases r
    obtain ⟨its, rv, ⟨o, ho, hc, m, hd⟩, _⟩ := I.tuple h1
    exact .tup ho hc hd (by simpa using RDs.nested I xs n vs its (by simpa [D.kf] using hk) h3 rv)
  | .lst _, _, _, _, hk, _, _ => by simp [D.kf] at hk
theorem RDs.nested (I : L2.Inv X pins σ H s) : ∀ (xs : List D) (n : Nat) (vs : List V) (us : List Value), (∀ x ∈ xs, x.kf n = true) → RDs X.K H xs vs → Vals vs us → PySem.NestedAll s.heap (toKs xs) us
  | [], _, vs, us, _, h, r => by
    have e : vs = [] := h
    subst e
    cases r
    exact .nil
  | x :: xs, n, vs, us, hk, ⟨v, vr, e, h1, h2⟩, r => by
    subst e
    cases r with
    | cons r rr => exact .cons (RD.nested I x n v _ (hk x List.mem_cons_self) h1 r) (RDs.nested I xs n vr _ (fun y hy => hk y (List.mem_cons_of_mem _ hy)) h2 rr)
end
theorem key_is (I : L2.Inv X pins σ H s) {k : D} {a : Addr} (hk : k.key = true) (h : RD X.K H k (.ref a)) : (nestedKind X.prog X.w).is s.heap (toK k) a :=
  ⟨RD.nested I k 8 _ _ (key_kf hk) h rfl, kf_depth k 8 (key_kf hk)⟩
theorem key_ref {K : PySem.W.Frag} {k : D} {v : V} (hk : k.key = true) (h : RD K H k v) : ∃ a, v = .ref a := by
  cases k with
  | tup xs =>
    obtain ⟨a, vs, e, _⟩ := h
    exact ⟨a, e⟩
  | _ => simp [D.key] at hk
theorem keys_are {L : Lw} (hK : X.K = L.K) (hP : X.prog = L.P) (hw : X.w = L.w) (I : L2.Inv X pins σ H s) : ∀ {kvs : List (D × D)} {xs : List (PySem.NestedKey × Addr × Value)}, KVs L H kvs xs → ∀ x ∈ xs, (nestedKind X.prog X.w).is s.heap x.1 x.2.1
  | [], xs, h, x, hx => by
    have e : xs = [] := h
    subst e
    cases hx
  | (k', v') :: r, xs, ⟨a, val, u, xr, h1, h2, h3, h4, h5, h6⟩, x, hx => by
    subst h1
    rcases List.mem_cons.mp hx with rfl | hx
    · rw [← hK] at h3
      exact key_is I h2 h3
    · exact keys_are hK hP hw I h6 x hx
/-- the dict as the library has it -/
theorem dict_of {L : Lw} (hK : X.K = L.K) (hP : X.prog = L.P) (hw : X.w = L.w) (I : L2.Inv X pins σ H s) {d : Addr} {kvs : List (D × D)} {xs : List (PySem.NestedKey × Addr × Value)} (hd : H d = some (DicO L.P L.w d xs)) (h : KVs L H kvs xs) :
    (d == sysModules) = false ∧ s.heap.DictOfH (nestedKind X.prog X.w) d xs := by
  obtain ⟨⟨h1, o, es, ep, h2, h3, h4, h5, h6⟩, _, _⟩ := I.hok d _ hd
  refine ⟨h1, o, es, ep, h2, h3, h4, ?_, keys_are hK hP hw I h, h6⟩
  rw [hP, hw]
  exact h5
end
end EvS

namespace EvS
open PySem PySem.Spec PyProof.Rows L2 Ev

/-- a context of the law at hand, with room for k calls nested -/
structure Gd (L : Lw) (k : Nat) (X : L2.Cx) : Prop where
  K : X.K = L.K
  P : X.prog = L.P
  w : X.w = L.w
  mg : X.mg = L.mg
  base : X.base = L.base
  calm : X.calm = true
  room : Room k X.A
  nd : X.N.Nodup
  nb : ∀ x ∈ X.N, (x == ("__debug__" : Str)) = false ∧ (x == ("__classdict__" : Str)) = false
  up : X.env.scope.kind = .function

section
variable {L : Lw} {X : L2.Cx} {pins : List (Addr × Obj)} {σ : L2.St} {H : Hp} {μ : Mu} {s : Shared} {st : Sto} {E : XK} {k : Nat}
theorem Gd.u70 (g : Gd L k X) : X.A.units + 70 < cLine := by have := g.room.un; omega

theorem rawV_rw {v : Vl} {u : V} {x : D} (S : Sim L H μ st) (h : RV L H μ v u) (e : rawV st v = some x) : RW L.K H x u := by
  unfold rawV at e
  split at e
  · cases e
    exact .inl h
  · rename_i r
    split at e
    · rename_i xs hr
      cases e
      obtain ⟨a, vs, h1, h2, h3, h4⟩ := S.cell r _ hr
      exact .inr ⟨xs, a, vs, rfl, h.2.1 a h1, SqL.of h2, h3, h4⟩
    · cases e
  · cases e
/-- data is handed on, the store is as it was -/
theorem gd_of {z : D} {Q : VK} (S : Sim L H μ st) (h : RQ L H μ E (.ok (.d z) st) (QV (L := L) Q)) : GD L.K H z Q := fun H' v r n => by
  obtain ⟨e, S'⟩ := n.ext S
  exact h H' μ e S' v r
theorem bl_of {b : Bool} {Q : VK} (S : Sim L H μ st) (h : RQ L H μ E (.ok (.d (.bl b)) st) (QV (L := L) Q)) : Q (.bl b) H := (gd_of S h).val rfl

theorem dic_cell (S : Sim L H μ st) {r : Nat} {u : V} {kvs : List (D × D)} (h : RV L H μ (.ref r) u) (hr : st[r]? = some (.dic kvs)) :
    ∃ a xs, u = .ref a ∧ μ[r]? = some (some a) ∧ H a = some (DicO L.P L.w a xs) ∧ kvs.length ≤ line ∧ KVs L H kvs xs := by
  obtain ⟨a, xs, h1, h2, h3, h4⟩ := S.cell r _ hr
  exact ⟨a, xs, h.2.1 a h1, h1, h2, h3, h4⟩
theorem lst_cell (S : Sim L H μ st) {r : Nat} {u : V} {xs : List D} (h : RV L H μ (.ref r) u) (hr : st[r]? = some (.lst xs)) :
    ∃ a vs, u = .ref a ∧ μ[r]? = some (some a) ∧ H a = some (.lst vs) ∧ xs.length ≤ line ∧ RDs L.K H xs vs := by
  obtain ⟨a, vs, h1, h2, h3, h4⟩ := S.cell r _ hr
  exact ⟨a, vs, h.2.1 a h1, h1, h2, h3, h4⟩
theorem room_key (g : Gd L k X) : (nestedKind X.prog X.w).room X.A.in1 := by
  have := g.room.un
  show X.A.units + 1 + 8 < cLine
  omega

/-- the text dict -/
theorem valV_getT (c : List Nat) : ∀ kvs : List (List Nat × Int), valV (kvs.map fun p => ((Sum.inr ⟨p.1.toArray⟩ : Key), V.int p.2)) (Sum.inr ⟨c.toArray⟩) = (getT c kvs).map V.int
  | [] => rfl
  | (a, i) :: r => by
    have ih := valV_getT c r
    rw [List.map_cons]
    by_cases h : a = c
    · subst h
      show _ = (if a == a then some i else getT a r).map V.int
      simp [valV]
    · have h' : ¬ ((Sum.inr (⟨a.toArray⟩ : Str) : Key) = Sum.inr ⟨c.toArray⟩) := fun e => h (by
        have := Sum.inr.inj e
        simpa using congrArg (fun z : Str => z.cps.toList) this)
      show _ = (if a == c then some i else getT c r).map V.int
      rw [beq_eq_false_iff_ne.mpr h]
      rw [← show (getT c r).map V.int = (if false = true then some i else getT c r).map V.int from rfl, ← ih]
      unfold valV at *
      rw [List.find?_cons_of_neg (by simpa using h')]
end
end EvS

namespace EvS
open PySem PySem.Spec PyProof.Rows L2 Ev
section
variable {L : Lw} {X : L2.Cx} {pins : List (Addr × Obj)} {σ : L2.St} {H : Hp} {μ : Mu} {s : Shared} {st : Sto} {E : XK} {k : Nat} {Q : VK}
theorem Gd.u1 (g : Gd L k X) : X.A.units + 1 < cLine := by have := g.room.un; omega
theorem cmp_data (g : Gd L k X) (o : Cop) {u v : Vl} {x y : V} {a b : Value} (I : L2.Inv X pins σ H s) (S : Sim L H μ st) (hx : RV L H μ u x) (hy : RV L H μ v y) (rx : RelV x a) (ry : RelV y b)
    (h : RQ L H μ E (match rawV st u, rawV st v with
      | some x, some y => ofB (copD o x y) st
      | _, _ => .no) (QV (L := L) Q)) : wpAny (model X.prog X.w) X.A (compareOp (pyCop o) a b) (EP X pins σ Q) X.xe s := by
  cases e1 : rawV st u with
  | none => rw [e1] at h; exact h.elim
  | some c =>
    cases e2 : rawV st v with
    | none => rw [e1, e2] at h; exact h.elim
    | some d =>
      rw [e1, e2] at h
      have h : RQ L H μ E (ofB (copD o c d) st) (QV (L := L) Q) := h
      cases e3 : copD o c d with
      | none => rw [e3] at h; exact h.elim
      | some t =>
        rw [e3] at h
        have r1 := rawV_rw S hx e1
        have r2 := rawV_rw S hy e2
        rw [← g.K] at r1 r2
        exact copR_D o g.u70 pins s σ H x y a b Q I rx ry ⟨c, d, t, r1, r2, e3, bl_of S h⟩
/-- a comparison by values -/
theorem cmp_ok (g : Gd L k X) (o : Cop) {u v : Vl} {x y : V} {a b : Value} (I : L2.Inv X pins σ H s) (S : Sim L H μ st) (hx : RV L H μ u x) (hy : RV L H μ v y) (rx : RelV x a) (ry : RelV y b)
    (h : RQ L H μ E (cmpV o u v st) (QV (L := L) Q)) : wpAny (model X.prog X.w) X.A (compareOp (pyCop o) a b) (EP X pins σ Q) X.xe s := by
  unfold cmpV at h
  split at h
  · rename_i kvs
    split at h
    · rename_i c
      obtain ⟨p, o', rfl, hp⟩ := hy
      obtain ⟨rfl, _⟩ := hx
      cases ry
      have gt : DGet H p (.str ⟨c.toArray⟩) (valV (kvs.map fun p => ((Sum.inr ⟨p.1.toArray⟩ : Key), V.int p.2)) (Sum.inr ⟨c.toArray⟩)) := .inl ⟨_, Sum.inr ⟨c.toArray⟩, .inr ⟨o', hp⟩, rfl, rfl⟩
      refine d_in g.u1 I gt rx fun s' I' => ⟨.bl _, H, I', rfl, ?_⟩
      rw [valV_getT, Option.isSome_map]
      exact bl_of S h
    · exact h.elim
  · rename_i r
    split at h
    · rename_i kvs hr
      split at h
      · rename_i c
        split at h
        · rename_i hk
          obtain ⟨p, xs, rfl, h1, h2, h3, h4⟩ := dic_cell S hy hr
          have hc : RD L.K H c x := hx
          obtain ⟨q, rfl⟩ := key_ref hk hc
          cases ry
          cases rx
          obtain ⟨d1, d2⟩ := dict_of g.K g.P g.w I h2 h4
          rw [← g.K] at hc
          refine wpAny_in_heap (room_key g) (key_is I hk hc) d1 d2 ⟨.bl _, H, I.tok _, rfl, ?_⟩
          have z := bl_of S h
          rcases KVs.get hk h4 with ⟨e1, e2⟩ | ⟨v, p2, u2, e1, e2, _⟩
          · rw [e2]; rw [e1] at z; exact z
          · rw [e2]; rw [e1] at z; exact z
        · exact h.elim
      · exact h.elim
    · rename_i xs hr
      split at h
      · rename_i c
        refine cmp_data (E := E) (u := .d c) (v := .ref r) g .isin I S hx hy rx ry ?_
        show RQ L H μ E (match some c, rawV st (.ref r) with
          | some x, some y => ofB (copD .isin x y) st
          | _, _ => .no) (QV (L := L) Q)
        have e : rawV st (.ref r) = some (.lst xs) := by
          show (match st[r]? with
            | some (.lst xs) => some (D.lst xs)
            | _ => none) = _
          rw [hr]
        rw [e]
        exact h
      · exact h.elim
    · exact h.elim
  · rename_i r
    split at h
    · rename_i kvs hr
      split at h
      · rename_i c
        split at h
        · rename_i hk
          obtain ⟨p, xs, rfl, h1, h2, h3, h4⟩ := dic_cell S hy hr
          have hc : RD L.K H c x := hx
          obtain ⟨q, rfl⟩ := key_ref hk hc
          cases ry
          cases rx
          obtain ⟨d1, d2⟩ := dict_of g.K g.P g.w I h2 h4
          rw [← g.K] at hc
          have z := bl_of S h
          refine notIn_keyed (kvs := pairsH xs) (room_key g) (key_is I hk hc) d1 ⟨xs, d2, rfl⟩ ⟨.bl _, H, I.tok _, rfl, ?_⟩
          rw [valueAt_pairsH, Option.isSome_map]
          rcases KVs.get hk h4 with ⟨e1, e2⟩ | ⟨v, p2, u2, e1, e2, _⟩
          · rw [e2]; rw [e1] at z; exact z
          · rw [e2]; rw [e1] at z; exact z
        · exact h.elim
      · exact h.elim
    · rename_i xs hr
      split at h
      · rename_i c
        refine cmp_data (E := E) (u := .d c) (v := .ref r) g .notin I S hx hy rx ry ?_
        show RQ L H μ E (match some c, rawV st (.ref r) with
          | some x, some y => ofB (copD .notin x y) st
          | _, _ => .no) (QV (L := L) Q)
        have e : rawV st (.ref r) = some (.lst xs) := by
          show (match st[r]? with
            | some (.lst xs) => some (D.lst xs)
            | _ => none) = _
          rw [hr]
        rw [e]
        exact h
      · exact h.elim
    · exact h.elim
  · exact cmp_data g o I S hx hy rx ry h

/-! ### items -/
theorem ixN_same (n : Nat) (i : Int) : Ev.ixN n i = L2.ixN n i := rfl
theorem atI_of {xs : List D} {vs : List V} {K : PySem.W.Frag} {i : Int} {j : Nat} {z : D} (r : RDs K H xs vs) (h1 : Ev.ixN xs.length i = some j) (h2 : xs[j]? = some z) : ∃ v, atI vs i = some v ∧ RD K H z v := by
  obtain ⟨v, e, rv⟩ := r.get h2
  refine ⟨v, ?_, rv⟩
  unfold atI
  rw [r.len, ← ixN_same, h1]
  exact e
theorem RD.str1 {K : PySem.W.Frag} {c : Nat} {s : List Nat} (hc : c ∈ s) (h : ∀ c ∈ s, c < 128) : RD K H (.str [c]) (.str ⟨#[c]⟩) := ⟨rfl, by show 1 ≤ 16777216; decide, fun d hd => by
  have e : d = c := by simpa using hd
  rw [e]
  exact h c hc⟩
/-- an item by values -/
def rIxV (L : Lw) (E : XK) : R2 := fun x y H Q => ∃ (u v : Vl) (μ : Mu) (st : Sto), Sim L H μ st ∧ RV L H μ u x ∧ RV L H μ v y ∧ RQ L H μ E (idxV u v st) (QV (L := L) Q)
theorem ix_data (g : Gd L k X) {value slice : Expr} {a d : D} {x y : V} {u v : Value} (I : L2.Inv X pins σ H s) (S : Sim L H μ st) (ha : RW L.K H a x) (hd : RD L.K H d y) (rx : RelV x u) (ry : RelV y v)
    (hs : subscripted slice false u v = operate [u, v] (getItem u v)) (h : RQ L H μ E (ofO (idxD a d) st) (QV (L := L) Q)) : wpAny (model X.prog X.w) X.A (subscriptTail value slice u v) (EP X pins σ Q) X.xe s := by
  cases e : idxD a d with
  | none => rw [e] at h; exact h.elim
  | some z =>
    rw [e] at h
    have q := gd_of S h
    rw [← g.K] at ha hd q
    unfold idxD at e
    split at e
    · split at e
      · rename_i j hj
        obtain ⟨p, vs, rfl, h1, h2, h3⟩ := ha.tup
        obtain rfl : y = .int _ := hd
        obtain ⟨w, h4, h5⟩ := atI_of h3 hj e
        exact ix_tup value slice pins s σ H _ _ u v Q I rx ry ⟨p, vs, _, w, rfl, rfl, h1, h4, q.val h5⟩ hs
      · cases e
    · split at e
      · rename_i j hj
        obtain ⟨p, vs, rfl, h1, h2, h3⟩ := ha.lst
        obtain rfl : y = .int _ := hd
        obtain ⟨w, h4, h5⟩ := atI_of h3 hj e
        exact ix_list value slice pins s σ H _ _ u v Q I rx ry ⟨p, vs, _, w, rfl, rfl, h1, h4, q.val h5⟩ hs
      · cases e
    · rename_i t i
      split at e
      · rename_i j hj
        split at e
        · rename_i c hc
          cases e
          obtain ⟨rfl, h1, h2⟩ := ha.str
          obtain rfl : y = .int _ := hd
          refine ix_str value slice pins s σ H _ _ u v Q I rx ry ⟨_, _, c, rfl, rfl, by rw [str_len, ← line_eq]; exact h1, ?_, q.val (RD.str1 (List.mem_of_getElem? hc) h2)⟩ hs
          show (L2.ixN t.toArray.toList.length i).bind _ = _
          rw [show t.toArray.toList = t from rfl, ← ixN_same, hj]
          exact hc
        · cases e
      · cases e
    · cases e
theorem ix_ok (g : Gd L k X) : IxR X (rIxV L E) := by
  intro value slice pins s σ H x y v u Q I rx ry h hs
  obtain ⟨a, b, μ, st, S, hx, hy, h⟩ := h
  unfold idxV at h
  split at h
  · rename_i r
    split at h
    · rename_i kvs hr
      split at h
      · rename_i c
        split at h
        · rename_i hk
          obtain ⟨p, xs, rfl, h1, h2, h3, h4⟩ := dic_cell S hx hr
          have hc : RD L.K H c y := hy
          obtain ⟨q, rfl⟩ := key_ref hk hc
          cases ry
          cases rx
          obtain ⟨d1, d2⟩ := dict_of g.K g.P g.w I h2 h4
          rw [← g.K] at hc
          rcases KVs.get hk h4 with ⟨e1, e2⟩ | ⟨v, p2, u2, e1, e2, e3, e4⟩
          · rw [e1] at h; exact h.elim
          · rw [e1] at h
            exact tail_any d2.typeIs PySem.F.slot_dict_getitem.lookup (wpAny_getItem_heap (room_key g) (key_is I hk hc) d2 e2 ⟨u2, H, I.tok _, e3, (gd_of S h).val e4⟩) hs
        · exact h.elim
      · exact h.elim
    · rename_i xs hr
      split at h
      · rename_i d
        obtain ⟨p, vs, rfl, h1, h2, h3, h4⟩ := lst_cell S hx hr
        exact ix_data g I S (.inr ⟨xs, p, vs, rfl, rfl, SqL.of h2, h3, h4⟩) hy rx ry hs h
      · exact h.elim
    · exact h.elim
  · split at h
    · exact ix_data g I S (.inl hx) hy rx ry hs h
    · exact h.elim
  · rename_i kvs
    split at h
    · rename_i c
      split at h
      · rename_i i hi
        obtain ⟨p, o', rfl, hp⟩ := hx
        obtain ⟨rfl, _⟩ := hy
        cases rx
        have gt : DGet H p (.str ⟨c.toArray⟩) (some (.int i)) := .inl ⟨_, Sum.inr ⟨c.toArray⟩, .inr ⟨o', hp⟩, rfl, by rw [valV_getT, hi]; rfl⟩
        exact tail_any (dict_typeIs I gt) PySem.F.slot_dict_getitem.lookup (d_getItem g.u1 I gt ry fun w' s' I' rw' => ⟨.int i, H, I', rw', (gd_of (z := .int i) S h).val rfl⟩) hs
      · exact h.elim
    · exact h.elim
  · exact h.elim
end
end EvS

namespace EvS
open PySem PySem.Spec PyProof.Rows L2 Ev
theorem dicO_ok {P : Program} {w : World} {H : Hp} {h : Heap} {d : Addr} {xs : List (PySem.NestedKey × Addr × Value)} (hd : (d == sysModules) = false) (x : h.DictOfH (nestedKind P w) d xs) : ObjOk P w H h d (DicO P w d xs) := by
  obtain ⟨o, es, ep, h1, h2, h3, h4, _, h6⟩ := x
  refine ⟨⟨hd, o, es, ep, h1, h2, h3, h4, h6⟩, ⟨o, h1⟩, fun g1 g2 ⟨a, o', es', ep', b1, b2, b3, b4, b5⟩ st => ⟨a, o', es', ep', st _ b1, b2, b3, b4, b5⟩⟩
section
variable {L : Lw} {X : L2.Cx} {pins : List (Addr × Obj)} {σ : L2.St} {H : Hp} {μ : Mu} {s : Shared} {st : Sto} {E : XK} {k : Nat} {Q : VK}
/-- a store by values -/
def tSetV (L : Lw) : TSet := fun o i v H Q => ∃ (uo ui uv : Vl) (μ : Mu) (st st' : Sto), Sim L H μ st ∧ RV L H μ uo o ∧ RV L H μ ui i ∧ RV L H μ uv v ∧ setV uo ui uv st = some st' ∧ ∀ H' μ', Ext H μ H' μ' → Sim L H' μ' st' → Q H'
theorem set_ok (g : Gd L k X) : PSet X (tSetV L) := by
  intro pins s σ H o i v ov iv u Q I ro ri rv h
  obtain ⟨uo, ui, uv, μ, st, st', S, ho, hi, hv, e, q⟩ := h
  unfold setV at e
  split at e
  · rename_i r c x
    split at e
    · rename_i kvs hr
      split at e
      · rename_i hk
        rw [Bool.and_eq_true] at hk
        cases e
        obtain ⟨p, xs, rfl, h1, h2, h3, h4⟩ := dic_cell S ho hr
        have hc : RD L.K H c i := hi
        obtain ⟨ka, rfl⟩ := key_ref hk.1 hc
        cases ro
        cases ri
        obtain ⟨d1, d2⟩ := dict_of g.K g.P g.w I h2 h4
        have hc' := hc
        rw [← g.K] at hc'
        have hlen : xs.length ≤ sizeLine := by rw [h4.len, ← line_eq]; exact h3
        refine wpAny_setItem_heap (hsz := hlen) (room_key g) (key_is I hk.1 hc') d2 fun h' dd sb => ?_
        have nd : (xs.map (·.1)).Nodup := by
          obtain ⟨_, _, _, _, _, _, _, _, z⟩ := d2
          exact z
        obtain ⟨od, hod⟩ : ∃ u, h'.get? p = some u := by
          obtain ⟨o, _, _, z, _⟩ := dd
          exact ⟨o, z⟩
        have ok := dicO_ok (P := X.prog) (w := X.w) (H := upd H p (DicO L.P L.w p (storedH xs (toK c) ka u))) d1 dd
        rw [g.P, g.w] at ok
        have I' := I.write (t' := s.toks + (nestedKind X.prog X.w).draws (toK c)) (x := p) (e := p) (o := DicO L.P L.w p (storedH xs (toK c) ka u)) (by rw [h2]; trivial) (.inl rfl) (fun b w hb z => (sb.2 b hb).trans z) ⟨od, hod⟩ (by rw [g.P, g.w]; exact ok)
        refine ⟨_, I', q _ μ (Ext.put S h1) (Sim.put S h1 trivial ?_)⟩
        have ex : Ext H μ (upd H p (DicO L.P L.w p (storedH xs (toK c) ka u))) μ := Ext.put S h1
        refine ⟨p, storedH xs (toK c) ka u, h1, upd_same, ?_, ?_⟩
        · have := putD_len c x kvs
          have h5 : kvs.length < 1000000 := of_decide_eq_true hk.2
          show _ ≤ 16777216
          omega
        · refine KVs.ext ex ?_
          unfold storedH
          cases hs : (atKey xs (toK c)).isSome with
          | true =>
            rw [if_pos rfl]
            exact KVs.putYes hk.1 rv hv h4 nd hs
          | false =>
            rw [if_neg Bool.false_ne_true]
            exact KVs.putNo hk.1 hc rv hv h4 (by simpa using hs)
      · cases e
    · rename_i xs hr
      split at e
      · rename_i n
        split at e
        · rename_i j hj
          cases e
          obtain ⟨p, vs, rfl, h1, h2, h3, h4⟩ := lst_cell S ho hr
          obtain rfl : i = .int n := hi
          refine set_list pins s σ H _ _ v ov iv u Q I ro ri rv ⟨p, vs, n, j, rfl, rfl, h2, by rw [h4.len, ← ixN_same]; exact hj, ?_⟩
          refine q _ μ (Ext.put S h1) (Sim.put S h1 trivial ⟨p, _, h1, upd_same, by rw [List.length_set]; exact h3, ?_⟩)
          have ex : Ext H μ (upd H p (.lst (vs.set j v))) μ := Ext.put S h1
          exact (h4.set j hv).ext ex
        · cases e
      · cases e
    · cases e
  · cases e

/-! ### methods by values -/
/-- the method m of a list -/
def rMtV (L : Lw) (E : XK) (m : Mf) : V → List V → Hp → VK → Prop := fun x xs H Q => ∃ (u : Vl) (vs : List Vl) (μ : Mu) (st : Sto), Sim L H μ st ∧ RV L H μ u x ∧ RVs L H μ vs xs ∧ RQ L H μ E (mthD m u vs st) (QV (L := L) Q)
theorem append_ok (g : Gd L k X) : MtR X "list.append" (rMtV L E .append) := by
  intro pins s σ H x xs v us Q I rx rs h
  obtain ⟨u, vs, μ, st, S, hu, hv, h⟩ := h
  have h : RQ L H μ E (mAppend u vs st) (QV (L := L) Q) := h
  unfold mAppend at h
  split at h
  · rename_i r d
    split at h
    · rename_i ys hr
      split at h
      · rename_i hl
        obtain ⟨p, zs, rfl, h1, h2, h3, h4⟩ := lst_cell S hu hr
        obtain ⟨w, rr, rfl, hw, e⟩ := hv
        obtain rfl : rr = [] := e
        refine mt_append pins s σ H _ _ v us Q I rx rs ⟨p, zs, w, rfl, rfl, h2, by rw [h4.len, ← line_eq]; exact hl, ?_⟩
        have ex : Ext H μ (upd H p (.lst (zs ++ [w]))) μ := Ext.put S h1
        refine h _ μ ex (Sim.put S h1 trivial ⟨p, _, h1, upd_same, ?_, RDs.ext ex (RDs.app h4 (RDs.one hw))⟩) _ rfl
        rw [List.length_append]
        exact hl
      · exact h.elim
    · exact h.elim
  · exact h.elim
theorem RDs.dropLast {K : PySem.W.Frag} : ∀ {xs : List D} {vs : List V}, RDs K H xs vs → RDs K H xs.dropLast vs.dropLast
  | [], vs, h => by
    have e : vs = [] := h
    subst e
    exact RDs.nil
  | [x], vs, ⟨v, r, e, h1, h2⟩ => by
    obtain rfl : r = [] := h2
    subst e
    exact RDs.nil
  | x :: y :: xs, vs, ⟨v, r, e, h1, h2⟩ => by
    obtain ⟨w, r', e', h3, h4⟩ := id h2
    subst e'
    subst e
    exact ⟨v, _, rfl, h1, RDs.dropLast (xs := y :: xs) h2⟩
theorem pop_ok (g : Gd L k X) : MtR X "list.pop" (rMtV L E .pop) := by
  intro pins s σ H x xs v us Q I rx rs h
  obtain ⟨u, vs, μ, st, S, hu, hv, h⟩ := h
  have h : RQ L H μ E (mPop u vs st) (QV (L := L) Q) := h
  unfold mPop at h
  split at h
  · rename_i r
    split at h
    · rename_i ys hr
      split at h
      · rename_i d hd
        obtain ⟨p, zs, rfl, h1, h2, h3, h4⟩ := lst_cell S hu hr
        obtain rfl : xs = [] := hv
        obtain ⟨w, e1, hw⟩ := h4.get hd
        have ex : Ext H μ (upd H p (.lst zs.dropLast)) μ := Ext.put S h1
        refine mt_pop pins s σ H _ _ v us Q I rx rs ⟨p, zs, w, rfl, rfl, h2, by rw [h4.len]; exact e1, ?_⟩
        refine h _ μ ex (Sim.put S h1 trivial ⟨p, _, h1, upd_same, ?_, RDs.ext ex (RDs.dropLast h4)⟩) _ (RD.ext ex hw)
        have := List.length_dropLast (xs := ys)
        omega
      · exact h.elim
    · exact h.elim
  · exact h.elim
theorem get2_ok (g : Gd L k X) : MtR X "dict.get" (rMtV L E .get2) := by
  intro pins s σ H x xs v us Q I rx rs h
  obtain ⟨u, vs, μ, st, S, hu, hv, h⟩ := h
  have h : RQ L H μ E (mGet2 u vs st) (QV (L := L) Q) := h
  unfold mGet2 at h
  split at h
  · rename_i r c z _
    split at h
    · rename_i kvs hr
      split at h
      · rename_i hk
        obtain ⟨p, ys, rfl, h1, h2, h3, h4⟩ := dic_cell S hu hr
        obtain ⟨w, rr, rfl, hc, z1, rr2, e, hz, e2⟩ := hv
        obtain rfl : rr2 = [] := e2
        subst e
        have hc : RD L.K H c w := hc
        obtain ⟨ka, rfl⟩ := key_ref hk hc
        cases rx
        cases rs with
        | cons r1 rs =>
          cases rs with
          | cons r2 rs =>
            cases rs
            cases r1
            obtain ⟨d1, d2⟩ := dict_of g.K g.P g.w I h2 h4
            rw [← g.K] at hc
            refine getOr_keyed (kvs := pairsH ys) (room_key g) (key_is I hk hc) d1 ⟨ys, d2, rfl⟩ ?_
            rw [valueAt_pairsH]
            rcases KVs.get hk h4 with ⟨e1, e2⟩ | ⟨v', p2, u2, e1, e2, e3, e4⟩
            · rw [e1] at h
              rw [e2]
              exact ⟨z1, H, I.tok _, r2, (gd_of S h).val hz⟩
            · rw [e1] at h
              rw [e2]
              exact ⟨u2, H, I.tok _, e3, (gd_of S h).val e4⟩
      · exact h.elim
    · exact h.elim
  · exact h.elim
end
end EvS

namespace EvS
open PySem PySem.Spec PyProof.Rows L2 Ev
/-! ### built-in functions -/
def tyN : D → String
  | .non => "NoneType" | .bl _ => "bool" | .int _ => "int" | .str _ => "str" | .tup _ => "tuple" | .lst _ => "list"
def tyS : Ty → String
  | .int => "int" | .bool => "bool" | .str => "str" | .tuple => "tuple" | .list => "list"
theorem kit_NoneType_int : kitB "NoneType" "int" = some false := by decide +kernel
theorem kit_bool_int : kitB "bool" "int" = some true := by decide +kernel
theorem kit_int_int : kitB "int" "int" = some true := by decide +kernel
theorem kit_str_int : kitB "str" "int" = some false := by decide +kernel
theorem kit_tuple_int : kitB "tuple" "int" = some false := by decide +kernel
theorem kit_list_int : kitB "list" "int" = some false := by decide +kernel
theorem kit_NoneType_bool : kitB "NoneType" "bool" = some false := by decide +kernel
theorem kit_bool_bool : kitB "bool" "bool" = some true := by decide +kernel
theorem kit_int_bool : kitB "int" "bool" = some false := by decide +kernel
theorem kit_str_bool : kitB "str" "bool" = some false := by decide +kernel
theorem kit_tuple_bool : kitB "tuple" "bool" = some false := by decide +kernel
theorem kit_list_bool : kitB "list" "bool" = some false := by decide +kernel
theorem kit_NoneType_str : kitB "NoneType" "str" = some false := by decide +kernel
theorem kit_bool_str : kitB "bool" "str" = some false := by decide +kernel
theorem kit_int_str : kitB "int" "str" = some false := by decide +kernel
theorem kit_str_str : kitB "str" "str" = some true := by decide +kernel
theorem kit_tuple_str : kitB "tuple" "str" = some false := by decide +kernel
theorem kit_list_str : kitB "list" "str" = some false := by decide +kernel
theorem kit_NoneType_tuple : kitB "NoneType" "tuple" = some false := by decide +kernel
theorem kit_bool_tuple : kitB "bool" "tuple" = some false := by decide +kernel
theorem kit_int_tuple : kitB "int" "tuple" = some false := by decide +kernel
theorem kit_str_tuple : kitB "str" "tuple" = some false := by decide +kernel
theorem kit_tuple_tuple : kitB "tuple" "tuple" = some true := by decide +kernel
theorem kit_list_tuple : kitB "list" "tuple" = some false := by decide +kernel
theorem kit_NoneType_list : kitB "NoneType" "list" = some false := by decide +kernel
theorem kit_bool_list : kitB "bool" "list" = some false := by decide +kernel
theorem kit_int_list : kitB "int" "list" = some false := by decide +kernel
theorem kit_str_list : kitB "str" "list" = some false := by decide +kernel
theorem kit_tuple_list : kitB "tuple" "list" = some false := by decide +kernel
theorem kit_list_list : kitB "list" "list" = some true := by decide +kernel
theorem kit_isi : ∀ (t : Ty) (x : D), kitB (tyN x) (tyS t) = some (isiD t x)
  | .int, .non => kit_NoneType_int
  | .int, .bl _ => kit_bool_int
  | .int, .int _ => kit_int_int
  | .int, .str _ => kit_str_int
  | .int, .tup _ => kit_tuple_int
  | .int, .lst _ => kit_list_int
  | .bool, .non => kit_NoneType_bool
  | .bool, .bl _ => kit_bool_bool
  | .bool, .int _ => kit_int_bool
  | .bool, .str _ => kit_str_bool
  | .bool, .tup _ => kit_tuple_bool
  | .bool, .lst _ => kit_list_bool
  | .str, .non => kit_NoneType_str
  | .str, .bl _ => kit_bool_str
  | .str, .int _ => kit_int_str
  | .str, .str _ => kit_str_str
  | .str, .tup _ => kit_tuple_str
  | .str, .lst _ => kit_list_str
  | .tuple, .non => kit_NoneType_tuple
  | .tuple, .bl _ => kit_bool_tuple
  | .tuple, .int _ => kit_int_tuple
  | .tuple, .str _ => kit_str_tuple
  | .tuple, .tup _ => kit_tuple_tuple
  | .tuple, .lst _ => kit_list_tuple
  | .list, .non => kit_NoneType_list
  | .list, .bl _ => kit_bool_list
  | .list, .int _ => kit_int_list
  | .list, .str _ => kit_str_list
  | .list, .tup _ => kit_tuple_list
  | .list, .lst _ => kit_list_list
theorem RW.ty {K : PySem.W.Frag} {H : Hp} {x : D} {v : V} (h : RW K H x v) : TyX K H v (.type (tyN x)) := by
  cases x with
  | non =>
    rcases h with h | ⟨_, _, _, e, _⟩
    · obtain rfl : v = .non := h
      exact .base .non
    · cases e
  | bl b => rw [h.bl]; exact .base (.bl b)
  | int i => rw [h.int]; exact .base (.int i)
  | str s => rw [h.str.1]; exact .base (.str _)
  | tup xs =>
    obtain ⟨a, vs, rfl, h1, _, _⟩ := h.tup
    rcases h1 with (h1 | ⟨o, h1⟩) | ⟨o, its, n, h1, h2, _⟩
    · exact .base (.tup h1)
    · exact .fTuple h1
    · exact .kTuple h1 h2
  | lst xs =>
    obtain ⟨a, vs, rfl, h1, _, _⟩ := h.lst
    rcases h1 with (h1 | ⟨o, h1⟩) | ⟨o, its, n, h1, h2, _⟩
    · exact .base (.lst h1)
    · exact .base (.frz h1)
    · exact .kList h1 h2
theorem boolsD_vs {K : PySem.W.Frag} {H : Hp} : ∀ {xs : List D} {vs : List V} {bs : List Bool}, RDs K H xs vs → boolsD xs = some bs → vs = bs.map V.bl
  | [], vs, bs, r, e => by
    obtain rfl : vs = [] := r
    cases e
    rfl
  | .bl b :: xs, vs, bs, ⟨v, vr, e1, h1, h2⟩, e => by
    subst e1
    unfold boolsD at e
    split at e
    · rename_i cs hcs
      cases e
      obtain rfl : v = .bl b := h1
      rw [boolsD_vs h2 hcs]
      rfl
    · cases e
  | .non :: _, _, _, _, e => by cases e
  | .int _ :: _, _, _, _, e => by cases e
  | .str _ :: _, _, _, _, e => by cases e
  | .tup _ :: _, _, _, _, e => by cases e
  | .lst _ :: _, _, _, _, e => by cases e
theorem intsD_vs {K : PySem.W.Frag} {H : Hp} : ∀ {xs : List D} {vs : List V} {bs : List Int}, RDs K H xs vs → intsD xs = some bs → vs = bs.map V.int
  | [], vs, bs, r, e => by
    obtain rfl : vs = [] := r
    cases e
    rfl
  | .int b :: xs, vs, bs, ⟨v, vr, e1, h1, h2⟩, e => by
    subst e1
    unfold intsD at e
    split at e
    · rename_i cs hcs
      cases e
      obtain rfl : v = .int b := h1
      rw [intsD_vs h2 hcs]
      rfl
    · cases e
  | .non :: _, _, _, _, e => by cases e
  | .bl _ :: _, _, _, _, e => by cases e
  | .str _ :: _, _, _, _, e => by cases e
  | .tup _ :: _, _, _, _, e => by cases e
  | .lst _ :: _, _, _, _, e => by cases e
theorem foldl_min : ∀ (xs : List Int) (x : Int), (xs.foldl (fun a b => if b < a then b else a) x) ∈ x :: xs ∧ ∀ y ∈ x :: xs, xs.foldl (fun a b => if b < a then b else a) x ≤ y
  | [], x => ⟨by simp, fun y hy => by simp at hy; subst hy; exact Int.le_refl _⟩
  | z :: xs, x => by
    obtain ⟨h1, h2⟩ := foldl_min xs (if z < x then z else x)
    rw [List.foldl_cons]
    have hm : (if z < x then z else x) = z ∨ (if z < x then z else x) = x := by split <;> simp
    have hl : (if z < x then z else x) ≤ z ∧ (if z < x then z else x) ≤ x := by split <;> omega
    refine ⟨?_, fun y hy => ?_⟩
    · rcases List.mem_cons.mp h1 with e | e
      · rw [e]
        rcases hm with q | q <;> rw [q] <;> simp
      · simp [e]
    · have h3 := h2 _ List.mem_cons_self
      rcases List.mem_cons.mp hy with e | e
      · subst e; omega
      · rcases List.mem_cons.mp e with e | e
        · subst e; omega
        · exact h2 y (List.mem_cons_of_mem _ e)
section
variable {L : Lw} {X : L2.Cx} {pins : List (Addr × Obj)} {σ : L2.St} {H : Hp} {μ : Mu} {s : Shared} {st : Sto} {E : XK} {k : Nat} {Q : VK}
theorem rawVs_rw (S : Sim L H μ st) : ∀ {us : List Vl} {vs : List V} {xs : List D}, RVs L H μ us vs → rawVs st us = some xs → xs.length = us.length ∧ ∀ (i : Nat) (x : D), xs[i]? = some x → ∃ v, vs[i]? = some v ∧ RW L.K H x v
  | [], vs, xs, _, e => by cases e; exact ⟨rfl, fun i x h => by simp at h⟩
  | u :: us, vs, xs, ⟨v, r, e1, h1, h2⟩, e => by
    subst e1
    unfold rawVs at e
    split at e
    · cases e
    · rename_i x hx
      split at e
      · cases e
      · rename_i ys hys
        cases e
        obtain ⟨g1, g2⟩ := rawVs_rw S h2 hys
        refine ⟨by simp [g1], fun i z hz => ?_⟩
        cases i with
        | zero =>
          simp at hz
          subst hz
          exact ⟨v, rfl, rawV_rw S h1 hx⟩
        | succ i => exact g2 i z (by simpa using hz)
theorem RVs.len : ∀ {us : List Vl} {vs : List V}, RVs L H μ us vs → vs.length = us.length
  | [], vs, h => by
    obtain rfl : vs = [] := h
    rfl
  | _ :: _, _, ⟨v, r, e, _, h⟩ => by rw [e, List.length_cons, RVs.len h]; rfl
theorem raw1 (S : Sim L H μ st) {us : List Vl} {vs : List V} {x : D} (h : RVs L H μ us vs) (e : rawVs st us = some [x]) : ∃ v, vs = [v] ∧ RW L.K H x v := by
  obtain ⟨h1, h2⟩ := rawVs_rw S h e
  obtain ⟨v, e1, r⟩ := h2 0 x rfl
  have hl := h.len
  rw [← h1] at hl
  match vs, hl with
  | [w], _ =>
    simp at e1
    subst e1
    exact ⟨w, rfl, r⟩
theorem raw2 (S : Sim L H μ st) {us : List Vl} {vs : List V} {x y : D} (h : RVs L H μ us vs) (e : rawVs st us = some [x, y]) : ∃ v w, vs = [v, w] ∧ RW L.K H x v ∧ RW L.K H y w := by
  obtain ⟨h1, h2⟩ := rawVs_rw S h e
  obtain ⟨v, e1, r⟩ := h2 0 x rfl
  obtain ⟨w, e2, r'⟩ := h2 1 y rfl
  have hl := h.len
  rw [← h1] at hl
  match vs, hl with
  | [a, b], _ =>
    simp at e1 e2
    subst e1 e2
    exact ⟨a, b, rfl, r, r'⟩
/-- the built-in b by values -/
def rBltV (L : Lw) (E : XK) (b : Bf) : List V → Hp → VK → Prop := fun vs H Q => ∃ (us : List Vl) (μ : Mu) (st : Sto), Sim L H μ st ∧ RVs L H μ us vs ∧ RQ L H μ E (onD (rawVs st us) fun xs => ofO (bltD b xs) st) (QV (L := L) Q)
/-- .. of one argument, of two -/
theorem blt_cases {b : Bf} {vs : List V} (h : rBltV L E b vs H Q) : (∃ x v z, vs = [v] ∧ RW L.K H x v ∧ blt1 b x = some z ∧ GD L.K H z Q) ∨
    ∃ x y v w z, vs = [v, w] ∧ RW L.K H x v ∧ RW L.K H y w ∧ blt2 b x y = some z ∧ GD L.K H z Q := by
  obtain ⟨us, μ, st, S, hv, h⟩ := h
  cases e : rawVs st us with
  | none => rw [e] at h; exact h.elim
  | some xs =>
    rw [e] at h
    have h : RQ L H μ E (ofO (bltD b xs) st) (QV (L := L) Q) := h
    match xs, e, h with
    | [x], e, h =>
      have h : RQ L H μ E (ofO (blt1 b x) st) (QV (L := L) Q) := h
      cases e2 : blt1 b x with
      | none => rw [e2] at h; exact h.elim
      | some z =>
        rw [e2] at h
        obtain ⟨v, rfl, r⟩ := raw1 S hv e
        exact .inl ⟨x, v, z, rfl, r, e2, gd_of S h⟩
    | [x, y], e, h =>
      have h : RQ L H μ E (ofO (blt2 b x y) st) (QV (L := L) Q) := h
      cases e2 : blt2 b x y with
      | none => rw [e2] at h; exact h.elim
      | some z =>
        rw [e2] at h
        obtain ⟨v, w, rfl, r, r'⟩ := raw2 S hv e
        exact .inr ⟨x, y, v, w, z, rfl, r, r', e2, gd_of S h⟩
    | [], _, h => exact h.elim
    | _ :: _ :: _ :: _, _, h => exact h.elim
theorem len_ok (g : Gd L k X) : CallR X (.builtin "len") (rBltV L E .len) := by
  intro pins s σ H vs us Q I rv h
  rcases blt_cases h with ⟨x, v, z, rfl, r, e, q⟩ | ⟨x, y, v, w, z, rfl, _, _, e, _⟩
  · have e : bLen x = some z := e
    unfold bLen at e
    split at e
    · cases e
      obtain ⟨a, ws, rfl, h1, h2, h3⟩ := r.tup
      rw [← g.K] at h1
      refine call_len_seq pins s σ H _ us Q I rv ⟨a, ws, rfl, .inr h1, ?_⟩
      rw [h3.len]
      exact q.val rfl
    · cases e
      obtain ⟨a, ws, rfl, h1, h2, h3⟩ := r.lst
      rw [← g.K] at h1
      refine call_len_seq pins s σ H _ us Q I rv ⟨a, ws, rfl, .inl h1, ?_⟩
      rw [h3.len]
      exact q.val rfl
    · cases e
      obtain ⟨rfl, h1, h2⟩ := r.str
      refine call_len_str pins s σ H _ us Q I rv ⟨_, rfl, by rw [str_len, ← line_eq]; exact h1, ?_⟩
      rw [str_len]
      exact q.val rfl
    · cases e
  · cases e
theorem all_ok (g : Gd L k X) : CallR X (.builtin "all") (rBltV L E .all) := by
  intro pins s σ H vs us Q I rv h
  rcases blt_cases h with ⟨x, v, z, rfl, r, e, q⟩ | ⟨x, y, v, w, z, rfl, _, _, e, _⟩
  · have e : bAll x = some z := e
    unfold bAll at e
    split at e
    · split at e
      · rename_i bs hb
        cases e
        obtain ⟨a, ws, rfl, h1, h2, h3⟩ := r.lst
        rw [← g.K] at h1
        rw [boolsD_vs h3 hb] at h1
        exact cr_all g.calm pins s σ H _ us Q I rv ⟨a, bs, rfl, h1, q.val rfl⟩
      · cases e
    · cases e
  · cases e
theorem any_ok (g : Gd L k X) : CallR X (.builtin "any") (rBltV L E .any) := by
  intro pins s σ H vs us Q I rv h
  rcases blt_cases h with ⟨x, v, z, rfl, r, e, q⟩ | ⟨x, y, v, w, z, rfl, _, _, e, _⟩
  · have e : bAny x = some z := e
    unfold bAny at e
    split at e
    · split at e
      · rename_i bs hb
        cases e
        obtain ⟨a, ws, rfl, h1, h2, h3⟩ := r.lst
        rw [← g.K] at h1
        rw [boolsD_vs h3 hb] at h1
        exact cr_any g.calm pins s σ H _ us Q I rv ⟨a, bs, rfl, h1, q.val rfl⟩
      · cases e
    · cases e
  · cases e
theorem tuple_ok (g : Gd L k X) : CallR X (.type "tuple") (rBltV L E .tuple) := by
  intro pins s σ H vs us Q I rv h
  rcases blt_cases h with ⟨x, v, z, rfl, r, e, q⟩ | ⟨x, y, v, w, z, rfl, _, _, e, _⟩
  · have e : bTuple x = some z := e
    unfold bTuple at e
    split at e
    · cases e
      obtain ⟨a, ws, rfl, h1, h2, h3⟩ := r.lst
      rw [← g.K] at h1
      exact call_tuple_of pins s σ H _ us Q I rv ⟨a, ws, rfl, .inl ⟨h1, fun p hp => q.tup h2 h3 hp⟩⟩
    · cases e
      obtain ⟨a, ws, rfl, h1, h2, h3⟩ := r.tup
      have h1' := h1
      rw [← g.K] at h1'
      exact call_tuple_of pins s σ H _ us Q I rv ⟨a, ws, rfl, .inr ⟨h1', q.val ⟨a, ws, rfl, h1, h2, h3⟩⟩⟩
    · cases e
  · cases e
theorem list_ok (g : Gd L k X) : CallR X (.type "list") (rBltV L E .list) := by
  intro pins s σ H vs us Q I rv h
  rcases blt_cases h with ⟨x, v, z, rfl, r, e, q⟩ | ⟨x, y, v, w, z, rfl, _, _, e, _⟩
  · have e : bList x = some z := e
    unfold bList at e
    split at e
    · cases e
      obtain ⟨a, ws, rfl, h1, h2, h3⟩ := r.lst
      rw [← g.K] at h1
      exact EP_lkw (call_list_of pins s σ H _ us (QL Q) I rv ⟨a, ws, rfl, .inl h1, fun p hp => q.lst h2 h3 hp⟩)
    · cases e
      obtain ⟨a, ws, rfl, h1, h2, h3⟩ := r.tup
      rw [← g.K] at h1
      exact EP_lkw (call_list_of pins s σ H _ us (QL Q) I rv ⟨a, ws, rfl, .inr h1, fun p hp => q.lst h2 h3 hp⟩)
    · cases e
  · cases e
theorem int_ok (g : Gd L k X) : CallR X (.type "int") (rBltV L E .int) := by
  intro pins s σ H vs us Q I rv h
  rcases blt_cases h with ⟨x, v, z, rfl, r, e, q⟩ | ⟨x, y, v, w, z, rfl, _, _, e, _⟩
  · have e : bInt x = some z := e
    unfold bInt at e
    split at e
    · cases e
      rw [r.int] at rv
      exact call_int1 pins s σ H _ us Q I rv (.inl ⟨_, rfl, q.val rfl⟩)
    · cases e
      rw [r.bl] at rv
      exact call_int1 pins s σ H _ us Q I rv (.inr ⟨_, rfl, q.val rfl⟩)
    · cases e
  · cases e
theorem bool_ok (g : Gd L k X) : CallR X (.type "bool") (rBltV L E .bool) := by
  intro pins s σ H vs us Q I rv h
  rcases blt_cases h with ⟨x, v, z, rfl, r, e, q⟩ | ⟨x, y, v, w, z, rfl, _, _, e, _⟩
  · have e : bBool x = some z := e
    unfold bBool at e
    split at e
    · cases e
      rw [r.bl] at rv
      exact call_bool1 pins s σ H _ us Q I rv (.inr ⟨_, rfl, q.val rfl⟩)
    · cases e
  · cases e
theorem abs_ok (g : Gd L k X) : CallR X (.builtin "abs") (rBltV L E .abs) := by
  intro pins s σ H vs us Q I rv h
  rcases blt_cases h with ⟨x, v, z, rfl, r, e, q⟩ | ⟨x, y, v, w, z, rfl, _, _, e, _⟩
  · have e : bAbs x = some z := e
    unfold bAbs at e
    split at e
    · cases e
      rw [r.int] at rv
      exact call_abs pins s σ H _ us Q I rv ⟨_, rfl, q.val rfl⟩
    · cases e
  · cases e
theorem min_ok (g : Gd L k X) : CallR X (.builtin "min") (rBltV L E .min) := by
  intro pins s σ H vs us Q I rv h
  rcases blt_cases h with ⟨x, v, z, rfl, r, e, q⟩ | ⟨x, y, v, w, z, rfl, r, r', e, q⟩
  · have e : bMin x = some z := e
    unfold bMin at e
    split at e
    · split at e
      · rename_i is hi
        split at e
        · rename_i m hm
          cases e
          obtain ⟨a, ws, rfl, h1, h2, h3⟩ := r.lst
          rw [← g.K] at h1
          rw [intsD_vs h3 hi] at h1
          cases is with
          | nil => cases hm
          | cons i is =>
            cases hm
            obtain ⟨f1, f2⟩ := foldl_min is i
            refine cr_min g.calm pins s σ H _ us Q I rv ⟨a, i :: is, rfl, h1, Nat.succ_pos _, fun m' hm1 hm2 => ?_⟩
            have e1 := hm2 _ f1
            have e2 := f2 m' hm1
            have e3 : m' = is.foldl (fun a b => if b < a then b else a) i := by omega
            rw [e3]
            exact q.val rfl
        · cases e
      · cases e
    · cases e
  · have e : bMin2 x y = some z := e
    unfold bMin2 at e
    split at e
    · cases e
      rw [r.int, r'.int] at rv
      exact call_min2 g.calm pins s σ H _ us Q I rv ⟨_, _, rfl, q.val rfl⟩
    · cases e
theorem max_ok (g : Gd L k X) : CallR X (.builtin "max") (rBltV L E .max) := by
  intro pins s σ H vs us Q I rv h
  rcases blt_cases h with ⟨x, v, z, rfl, r, e, q⟩ | ⟨x, y, v, w, z, rfl, r, r', e, q⟩
  · cases e
  · have e : bMax2 x y = some z := e
    unfold bMax2 at e
    split at e
    · cases e
      rw [r.int, r'.int] at rv
      exact call_max2 g.calm pins s σ H _ us Q I rv ⟨_, _, rfl, q.val rfl⟩
    · cases e
/-- isinstance(x, T) -/
def rIsiV (L : Lw) (E : XK) (t : Ty) : List V → Hp → VK → Prop := fun vs H Q => ∃ v, vs = [v, .ty (tyS t)] ∧ rBltV L E (.isi t) [v] H Q
theorem isi_ok (g : Gd L k X) (t : Ty) : CallR X (.builtin "isinstance") (rIsiV L E t) := by
  intro pins s σ H vs us Q I rv h
  obtain ⟨v0, rfl, h⟩ := h
  rcases blt_cases h with ⟨x, v, z, e0, r, e, q⟩ | ⟨x, y, v, w, z, e0, r, r', e, q⟩
  · cases e0
    have e : some (D.bl (isiD t x)) = some z := e
    cases e
    have ht := r.ty
    rw [← g.K] at ht
    exact call_isi pins s σ H _ us Q I rv ⟨v0, .ty (tyS t), .type (tyN x), .type (tyS t), isiD t x, rfl, .ty _, ht, kit_ty (kit_isi t x), q.val rfl⟩
  · cases e0
end
end EvS

namespace EvS
open PySem PySem.Spec PyProof.Rows L2 Ev

/-! ### does a piece of the text match an own tree? -/
/-- the names of the defs, of the module's constants -/
structure Nm where
  fns : List Str
  cons : List Str
def nmB (l : List Str) (i : Nat) (x : Str) : Bool := match l[i]? with
  | some y => decide (y = x)
  | none => false
def visB (sc : Scope) (x : Str) : Bool := match sc.names.lookup x with
  | some .local => true
  | some .cell => true
  | some .free => true
  | _ => false
def locB (sc : Scope) (x : Str) : Bool := match sc.names.lookup x with
  | some .local => true
  | some .cell => true
  | _ => false
def lclB (sc : Scope) (x : Str) : Bool := match sc.names.lookup x with
  | some .local => true
  | _ => false
def glB (sc : Scope) (x : Str) : Bool := match sc.names.lookup x with
  | some .globalImplicit => true
  | _ => false
def conB : D → PySem.Const → Bool
  | .non, .none => true
  | .bl a, .bool b => a == b
  | .int a, .int b => a == b
  | .str s, .str z => decide ((⟨s.toArray⟩ : Str) = z) && decide (s.length ≤ line) && s.all (fun c => decide (c < 128))
  | _, _ => false
def opB : Op → Operator → Bool
  | .add, .Add => true | .sub, .Sub => true | .mul, .Mult => true | .fdiv, .FloorDiv => true | .mod, .Mod => true | .pow, .Pow => true
  | _, _ => false
def copB : Cop → CmpOp → Bool
  | .lt, .Lt => true | .le, .LtE => true | .gt, .Gt => true | .ge, .GtE => true | .eq, .Eq => true | .ne, .NotEq => true | .isin, .In => true | .notin, .NotIn => true
  | _, _ => false
def bltN : Bf → String
  | .isi _ => "isinstance" | .len => "len" | .all => "all" | .any => "any" | .sorted => "sorted" | .tuple => "tuple" | .list => "list" | .int => "int" | .bool => "bool" | .str => "str"
  | .abs => "abs" | .min => "min" | .max => "max"
def bltOk : Bf → Bool
  | .sorted => false
  | .str => false
  | .isi _ => false
  | _ => true
/-- the built-in names that a text may call -/
def bnames : List Str := ["isinstance", "len", "all", "any", "sorted", "set", "tuple", "list", "int", "bool", "str", "abs", "min", "max", "range", "zip", "enumerate"]
def isB (sc : Scope) (n : String) (x : Str) : Bool := decide (x = (Str.ofString n)) && glB sc x
def mthN : Mf → String
  | .append => "append" | .pop => "pop" | .get2 => "get" | .index => "index" | .join => "join" | .split => "split" | .lstrip => "lstrip" | .repl2 => "replace" | .repl3 => "replace"
/-- how many arguments; what is not covered: no such list -/
def mthA : Mf → Nat
  | .append => 1 | .pop => 0 | .get2 => 2 | _ => 1000000
def mthC : Mf → Bool
  | .append => true | .pop => true | .get2 => true | _ => false
def nameP : Expr → Bool
  | .Name _ _ => true
  | _ => false
def tupP : Expr → Bool
  | .Tuple _ _ _ => true
  | _ => false
/-- the scope that runs in a comprehension -/
abbrev inner (scope sc : Scope) : Scope := relS scope sc
mutual
def tstB : E → Bool
  | .ife _ _ _ => false
  | .and a es => tstB a && tstBs es
  | .or a es => tstB a && tstBs es
  | .not a => tstB a
  | _ => true
def tstBs : Es → Bool
  | .nil => true
  | .cons e es => tstB e && tstBs es
end
mutual
def chkT (N : List Str) (l : Bool) : Tg → Scope → Expr → Bool
  | .nm i, sc, pe => match pe with
    | .Name x _ => nmB N i x && (if l then lclB sc x else locB sc x)
    | _ => false
  | .tp ts, sc, pe => match pe with
    | .Tuple es _ _ => chkTs N l ts sc es
    | _ => false
def chkTs (N : List Str) (l : Bool) : Tgs → Scope → List Expr → Bool
  | .nil, _, es => match es with
    | [] => true
    | _ => false
  | .cons t ts, sc, es => match es with
    | [] => false
    | p :: r => chkT N l t sc p && chkTs N l ts sc r
end
/-- the own names of a comprehension by their slots -/
def ownOf (N : List Str) : List Nat → Option (List (Str × Nat))
  | [] => some []
  | i :: is => match N[i]?, ownOf N is with
    | some x, some r => some ((x, i) :: r)
    | _, _ => none
def own1 (N : List Str) (is : List Nat) : List (Str × Nat) := (ownOf N is).getD []
variable (M : Nm) (N : List Str)
mutual
def chkE : E → Scope → Expr → Bool
  | .cst d, _, pe => match pe with
    | .Constant c _ _ => conB d c
    | _ => false
  | .var i, sc, pe => match pe with
    | .Name x _ => nmB N i x && visB sc x
    | _ => false
  | .frz i, sc, pe => match pe with
    | .Name x _ => nmB N i x && visB sc x
    | _ => false
  | .glo k, sc, pe => match pe with
    | .Name x _ => nmB M.cons k x && glB sc x
    | _ => false
  | .tup es, sc, pe => match pe with
    | .Tuple l _ _ => chkEs es sc l && decide (l.length ≤ 1000)
    | _ => false
  | .lst es, sc, pe => match pe with
    | .List l _ => chkEs es sc l && decide (l.length ≤ 1000)
    | _ => false
  | .new es, sc, pe => match pe with
    | .List l _ => chkEs es sc l && decide (l.length ≤ 1000)
    | _ => false
  | .dic _ _, _, _ => false
  | .tdic _, _, _ => false
  | .bin o a b, sc, pe => match pe with
    | .BinOp pa po pb _ => opB o po && chkE a sc pa && chkE b sc pb
    | _ => false
  | .neg a, sc, pe => match pe with
    | .UnaryOp .USub pa _ => chkE a sc pa
    | _ => false
  | .cmp o a b, sc, pe => match pe with
    | .Compare pa [po] [pb] _ => copB o po && chkE a sc pa && chkE b sc pb
    | _ => false
  | .chain o o' a b c, sc, pe => match pe with
    | .Compare pa [po, po'] [pb, pc] _ => copB o po && copB o' po' && chkE a sc pa && chkE b sc pb && chkE c sc pc
    | _ => false
  | .isN a, sc, pe => match pe with
    | .Compare pa [.Is] [.Constant .none _ _] _ => chkE a sc pa
    | _ => false
  | .notN a, sc, pe => match pe with
    | .Compare pa [.IsNot] [.Constant .none _ _] _ => chkE a sc pa
    | _ => false
  | .and a es, sc, pe => match pe with
    | .BoolOp .And (pa :: pb :: l) _ => chkE a sc pa && chkEs es sc (pb :: l)
    | _ => false
  | .or a es, sc, pe => match pe with
    | .BoolOp .Or (pa :: pb :: l) _ => chkE a sc pa && chkEs es sc (pb :: l)
    | _ => false
  | .not a, sc, pe => match pe with
    | .UnaryOp .Not pa _ => chkE a sc pa
    | _ => false
  | .ife c a b, sc, pe => match pe with
    | .IfExp pc pa pb _ => tstB c && chkE c sc pc && chkE a sc pa && chkE b sc pb
    | _ => false
  | .idx a i, sc, pe => match pe with
    | .Subscript pa pi _ => chkE a sc pa && chkE i sc pi
    | _ => false
  | .slc a lo hi, sc, pe => match pe with
    | .Subscript pa (.Slice pl ph none _) _ => chkE a sc pa && chkPo lo sc pl && chkPo hi sc ph
    | _ => false
  | .rev a, sc, pe => match pe with
    | .Subscript pa (.Slice none none (some (.UnaryOp .USub (.Constant (.int 1) _ _) _)) _) _ => chkE a sc pa
    | _ => false
  | .call g es, sc, pe => match pe with
    | .Call (.Name x _) l [] _ => nmB M.fns g x && glB sc x && chkEs es sc l
    | _ => false
  | .callv _ _, _, _ => false
  | .blt b es, sc, pe => match b with
    | .isi t => match pe with
      | .Call (.Name x _) [pa, .Name y _] [] _ => isB sc "isinstance" x && isB sc (tyS t) y && chkEs es sc [pa]
      | _ => false
    | b => match pe with
      | .Call (.Name x _) (pa :: l) [] _ => bltOk b && isB sc (bltN b) x && chkEs es sc (pa :: l)
      | _ => false
  | .sset a, sc, pe => match pe with
    | .Call (.Name x _) [.Call (.Name y _) [pa] [] _] [] _ => isB sc "sorted" x && isB sc "set" y && chkE a sc pa
    | _ => false
  | .lset _, _, _ => false
  | .mth m o es, sc, pe => match pe with
    | .Call (.Attribute po nm apos) l [] cpos => mthC m && decide (nm = Str.ofString (mthN m)) && nameP po && chkE o sc po && chkEs es sc l && (apos.endLine == cpos.line) && decide (l.length = mthA m)
    | _ => false
  | .lc elt t it c own, sc, pe => match pe with
    | .ListComp pelt [⟨ptg, pit, pifs, isa⟩] scope _ => decide (isa = 0) && chkIt it sc ptg pit && (ownOf N own).isSome && blkC N sc scope (own1 N own) && t.slots.all (fun i => own.contains i) && chkT N true t (inner scope sc) ptg &&
        chkPoB c (inner scope sc) pifs && chkE elt (inner scope sc) pelt
    | _ => false
  | .lam _ _, _, _ => false
def chkEs : Es → Scope → List Expr → Bool
  | .nil, _, l => match l with
    | [] => true
    | _ => false
  | .cons e es, sc, l => match l with
    | [] => false
    | p :: r => chkE e sc p && chkEs es sc r
def chkPo : Po → Scope → Option Expr → Bool
  | .no, _, o => match o with
    | none => true
    | _ => false
  | .e a, sc, o => match o with
    | some p => chkE a sc p
    | none => false
def chkPoB : Po → Scope → List Expr → Bool
  | .no, _, l => match l with
    | [] => true
    | _ => false
  | .e a, sc, l => match l with
    | [p] => tstB a && chkE a sc p
    | _ => false
def chkIt : Ev.It → Scope → Expr → Expr → Bool
  | .val a, sc, _, pe => chkE a sc pe
  | .rng1 a, sc, _, pe => match pe with
    | .Call (.Name x _) [pa] [] _ => isB sc "range" x && chkE a sc pa
    | _ => false
  | .rng2 a b, sc, _, pe => match pe with
    | .Call (.Name x _) [pa, pb] [] _ => isB sc "range" x && chkE a sc pa && chkE b sc pb
    | _ => false
  | .enum _, _, _, _ => false
  | .zip a b, sc, tg, pe => match pe with
    | .Call (.Name x _) [pa, pb] [] _ => tupP tg && isB sc "zip" x && chkE a sc pa && chkE b sc pb
    | _ => false
  | .keys _, _, _, _ => false
end
/-- a comprehension that is stored as it is made -/
def swB (sc : Scope) (x : Str) (px : Pos) : Expr → Bool
  | .ListComp _ _ s p => lclB sc x && (px.line == p.line) && !(s.names.any fun (n, k) => n == x && (k == .local || k == .cell))
  | _ => false
def compP : Expr → Bool
  | .ListComp _ _ _ _ => true
  | .SetComp _ _ _ _ => true
  | .DictComp _ _ _ _ _ => true
  | _ => false
/-- the stores of a, b = x, y that the machine turns round -/
def parOk (ts vs : List Expr) : Bool := !(vs.all (foldedForSure 8)) && !(vs.all (constantsAlone 8))
mutual
def chkS : S → Scope → Stmt → Bool
  | .set i e, sc, ps => match ps with
    | .Assign [.Name x px] pe _ => nmB N i x && locB sc x && chkE M N e sc pe && (swB sc x px pe || !(compP pe && lclB sc x))
    | _ => false
  | .unp ts e, sc, ps => match ps with
    | .Assign [.Tuple l k pt] pe _ => chkTs N false ts sc l && chkE M N e sc pe && (match pe with
      | .Tuple vs _ _ => vs.all (foldedForSure 8)
      | _ => true)
    | _ => false
  | .par2 i j a b, sc, ps => match ps with
    | .Assign [.Tuple [.Name x px, .Name y py] _ _] (.Tuple [pa, pb] _ _) _ => nmB N i x && nmB N j y && lclB sc x && lclB sc y && decide (i ≠ j) && decide (x ≠ y) && (py.line == px.line) && chkE M N a sc pa && chkE M N b sc pb && parOk [.Name x px, .Name y py] [pa, pb]
    | _ => false
  | .par3 i j k a b c, sc, ps => match ps with
    | .Assign [.Tuple [.Name x px, .Name y py, .Name z pz] _ _] (.Tuple [pa, pb, pc] _ _) _ => nmB N i x && nmB N j y && nmB N k z && lclB sc x && lclB sc y && lclB sc z && decide (i ≠ j) && decide (i ≠ k) && decide (j ≠ k) && decide (x ≠ y) && decide (x ≠ z) && decide (y ≠ z) &&
        (py.line == px.line) && (pz.line == px.line) && chkE M N a sc pa && chkE M N b sc pb && chkE M N c sc pc && parOk [.Name x px, .Name y py, .Name z pz] [pa, pb, pc]
    | _ => false
  | .idx o i e, sc, ps => match ps with
    | .Assign [.Subscript po pi _] pe _ => chkE M N o sc po && chkE M N i sc pi && chkE M N e sc pe
    | _ => false
  | .exp e, sc, ps => match ps with
    | .Expr pe _ => chkE M N e sc pe && !compP pe
    | _ => false
  | .ite c a b, sc, ps => match ps with
    | .If pc pa pb _ => tstB c && chkE M N c sc pc && chkSs a sc pa && chkSs b sc pb
    | _ => false
  | .for_ t it b, sc, ps => match ps with
    | .For ptg pit pb [] _ => chkT N false t sc ptg && chkIt M N it sc ptg pit && chkSs b sc pb
    | _ => false
  | .whl c b, sc, ps => match ps with
    | .While pc pb [] _ => tstB c && chkE M N c sc pc && chkSs b sc pb
    | _ => false
  | .ret e, sc, ps => match ps with
    | .Return (some pe) _ => chkE M N e sc pe
    | _ => false
  | .retN, _, ps => match ps with
    | .Return none _ => true
    | _ => false
  | .brk, _, ps => match ps with
    | .Break _ => true
    | _ => false
  | .cnt, _, ps => match ps with
    | .Continue _ => true
    | _ => false
  | .pas, _, ps => match ps with
    | .Pass _ => true
    | _ => false
  | .rse _, _, _ => false
  | .nev, _, _ => true
def chkSs : Ss → Scope → List Stmt → Bool
  | .nil, _, l => match l with
    | [] => true
    | _ => false
  | .cons s r, sc, l => match l with
    | [] => false
    | p :: q => chkS s sc p && chkSs r sc q
end
end EvS

namespace EvS
open PySem PySem.Spec PyProof.Rows L2 Ev

/-! ### what a tree's reading is -/
section
variable (L : Lw) (W : WX) (C : Ev.Ctx)
def tE (e : E) : TE := fun σ H Q => ∃ ρ μ st, Sim L H μ st ∧ EnR L H μ ρ σ ∧ RQ L H μ (WE W σ) (evE C e ρ st) (QV (L := L) Q)
abbrev QB (Q : Bool → Hp → Prop) : Vl → Sto → Hp → Mu → Prop := fun v _ H' _ => ∃ b, v = .d (.bl b) ∧ Q b H'
def tT (e : E) : TT := fun σ H Q => ∃ ρ μ st, Sim L H μ st ∧ EnR L H μ ρ σ ∧ RQ L H μ (WE W σ) (evE C e ρ st) (QB Q)
abbrev QA (Q : List V → Hp → Prop) : List Vl → Sto → Hp → Mu → Prop := fun vs _ H' μ' => ∀ us, RVs L H' μ' vs us → Q us H'
def tA (es : Es) : TA := fun σ H Q => ∃ ρ μ st, Sim L H μ st ∧ EnR L H μ ρ σ ∧ RQ L H μ (WE W σ) (evEs C es ρ st) (QA L Q)
def tPo (o : Po) : L2.TO := fun σ H Q => ∃ ρ μ st, Sim L H μ st ∧ EnR L H μ ρ σ ∧ RQ L H μ (WE W σ) (evPo C o ρ st) (fun o _ H' _ => Q o H')
def tPB (o : Po) : TT := fun σ H Q => ∃ ρ μ st, Sim L H μ st ∧ EnR L H μ ρ σ ∧ RQ L H μ (WE W σ) (evPoB C o ρ st) (fun o _ H' _ => Q o H')
def tAnds (es : Es) : TE := fun σ H Q => ∃ ρ μ st, Sim L H μ st ∧ EnR L H μ ρ σ ∧ RQ L H μ (WE W σ) (evAnd C es ρ st) (QV (L := L) Q)
def tOrs (es : Es) : TE := fun σ H Q => ∃ ρ μ st, Sim L H μ st ∧ EnR L H μ ρ σ ∧ RQ L H μ (WE W σ) (evOr C es ρ st) (QV (L := L) Q)
def tAndsT (es : Es) : TT := fun σ H Q => ∃ ρ μ st, Sim L H μ st ∧ EnR L H μ ρ σ ∧ RQ L H μ (WE W σ) (evAnd C es ρ st) (QB Q)
def tOrsT (es : Es) : TT := fun σ H Q => ∃ ρ μ st, Sim L H μ st ∧ EnR L H μ ρ σ ∧ RQ L H μ (WE W σ) (evOr C es ρ st) (QB Q)
/-- what is walked yields the data xs -/
def WalkD (J : L2.It) (xs : List D) (H0 : Hp) : Prop := xs.length ≤ line ∧ ∃ (G : Hp → Prop) (Y : Nat → Hp → V → Hp → Prop), Walk J xs.length G Y ∧ (∀ H', (∀ a o, H0 a = some o → Fix o → H' a = some o) → G H') ∧
  ∀ i H x H', i < xs.length → (∀ a o, H0 a = some o → Fix o → H a = some o) → Y i H x H' → New1 H H' ∧ ∃ d, xs[i]? = some d ∧ RD L.K H' d x
def tI (it : Ev.It) : TI := fun σ H R => ∃ ρ μ st, Sim L H μ st ∧ EnR L H μ ρ σ ∧ RQ L H μ (WE W σ) (evIt C it ρ st) (fun xs _ H' _ => ∀ J, WalkD L J xs H' → R J H')
end

section
variable {L : Lw} {W : WX} {C : Ev.Ctx} {ρ : En} {σ : L2.St} {H : Hp} {μ : Mu} {st : Sto}
/-- one after the other -/
theorem tE_bind {α : Type} {f : Vl → Sto → R α} {Q' : α → Sto → Hp → Mu → Prop} {Q1 : VK} {e : E} (S : Sim L H μ st) (n : EnR L H μ ρ σ) (h : RQ L H μ (WE W σ) ((evE C e ρ st).bind f) Q')
    (k : ∀ u x st' H' μ', Ext H μ H' μ' → Sim L H' μ' st' → EnR L H' μ' ρ σ → RV L H' μ' u x → RQ L H' μ' (WE W σ) (f u st') Q' → Q1 x H') : tE L W C e σ H Q1 :=
  ⟨ρ, μ, st, S, n, h.bind.mono fun a st' H' μ' e s q u r => k a u st' H' μ' e s (n.ext e) r q⟩
theorem tA_bind {α : Type} {f : List Vl → Sto → R α} {Q' : α → Sto → Hp → Mu → Prop} {Q1 : List V → Hp → Prop} {e : Es} (S : Sim L H μ st) (n : EnR L H μ ρ σ) (h : RQ L H μ (WE W σ) ((evEs C e ρ st).bind f) Q')
    (k : ∀ u x st' H' μ', Ext H μ H' μ' → Sim L H' μ' st' → EnR L H' μ' ρ σ → RVs L H' μ' u x → RQ L H' μ' (WE W σ) (f u st') Q' → Q1 x H') : tA L W C e σ H Q1 :=
  ⟨ρ, μ, st, S, n, h.bind.mono fun a st' H' μ' e s q u r => k a u st' H' μ' e s (n.ext e) r q⟩
theorem tPo_bind {α : Type} {f : Option Int → Sto → R α} {Q' : α → Sto → Hp → Mu → Prop} {Q1 : Option Int → Hp → Prop} {e : Po} (S : Sim L H μ st) (n : EnR L H μ ρ σ) (h : RQ L H μ (WE W σ) ((evPo C e ρ st).bind f) Q')
    (k : ∀ u st' H' μ', Ext H μ H' μ' → Sim L H' μ' st' → EnR L H' μ' ρ σ → RQ L H' μ' (WE W σ) (f u st') Q' → Q1 u H') : tPo L W C e σ H Q1 :=
  ⟨ρ, μ, st, S, n, h.bind.mono fun a st' H' μ' e s q => k a st' H' μ' e s (n.ext e) q⟩
theorem onB_cases {α : Type} {E : XK} {v : Vl} {t f : R α} {Q : α → Sto → Hp → Mu → Prop} (h : RQ L H μ E (onB v t f) Q) : ∃ b, v = .d (.bl b) ∧ RQ L H μ E (if b = true then t else f) Q := by
  unfold onB at h
  split at h
  · exact ⟨true, rfl, h⟩
  · exact ⟨false, rfl, h⟩
  · exact h.elim
theorem onD_cases {α : Type} {E : XK} {o : Option α} {f : α → R Vl} {Q : Vl → Sto → Hp → Mu → Prop} (h : RQ L H μ E (onD o f) Q) : ∃ x, o = some x ∧ RQ L H μ E (f x) Q := by
  unfold onD at h
  split at h
  · exact ⟨_, rfl, h⟩
  · exact h.elim
theorem ofO_cases {E : XK} {o : Option D} {Q : Vl → Sto → Hp → Mu → Prop} (h : RQ L H μ E (ofO o st) Q) : ∃ x, o = some x ∧ RQ L H μ E (.ok (.d x) st) Q := by
  unfold ofO at h
  split at h
  · exact ⟨_, rfl, h⟩
  · exact h.elim
/-- a test: the value is a truth -/
theorem tT_bind {α : Type} {t f : Sto → R α} {Q' : α → Sto → Hp → Mu → Prop} {Q1 : Bool → Hp → Prop} {e : E} (S : Sim L H μ st) (n : EnR L H μ ρ σ) (h : RQ L H μ (WE W σ) ((evE C e ρ st).bind fun v st => onB v (t st) (f st)) Q')
    (k : ∀ b st' H' μ', Ext H μ H' μ' → Sim L H' μ' st' → EnR L H' μ' ρ σ → RQ L H' μ' (WE W σ) (if b = true then t st' else f st') Q' → Q1 b H') : tT L W C e σ H Q1 :=
  ⟨ρ, μ, st, S, n, h.bind.mono fun a st' H' μ' e s q => by
    obtain ⟨b, eb, q2⟩ := onB_cases q
    exact ⟨b, eb, k b st' H' μ' e s (n.ext e) q2⟩⟩
theorem tE_tB {e : E} {Q : Bool → Hp → Prop} (h : tT L W C e σ H Q) : tE L W C e σ H fun x H1 => ∃ c, x = .bl c ∧ Q c H1 := by
  obtain ⟨ρ, μ, st, S, n, h⟩ := h
  refine ⟨ρ, μ, st, S, n, h.mono fun a st' H' μ' e s q u r => ?_⟩
  obtain ⟨b, rfl, q⟩ := q
  exact ⟨b, r, q⟩

/-! ### data alone -/
theorem RVs.dats : ∀ {vs : List Vl} {us : List V} {xs : List D}, RVs L H μ vs us → datVs vs = some xs → RDs L.K H xs us
  | [], us, xs, h, e => by
    cases e
    exact h
  | .d x :: vs, us, xs, ⟨u, r, h1, h2, h3⟩, e => by
    unfold datVs at e
    cases q : datVs vs with
    | none => rw [q] at e; cases e
    | some ys =>
      rw [q] at e
      cases e
      exact ⟨u, r, h1, h2, h3.dats q⟩
  | .fn _ :: _, _, _, _, e => by cases e
  | .clo _ _ :: _, _, _, _, e => by cases e
  | .ref _ :: _, _, _, _, e => by cases e
  | .dct _ :: _, _, _, _, e => by cases e
theorem datVs_len : ∀ {vs : List Vl} {xs : List D}, datVs vs = some xs → xs.length = vs.length
  | [], xs, e => by cases e; rfl
  | .d x :: vs, xs, e => by
    unfold datVs at e
    cases q : datVs vs with
    | none => rw [q] at e; cases e
    | some ys =>
      rw [q] at e
      cases e
      rw [List.length_cons, List.length_cons, datVs_len q]
  | .fn _ :: _, _, e => by cases e
  | .clo _ _ :: _, _, e => by cases e
  | .ref _ :: _, _, e => by cases e
  | .dct _ :: _, _, e => by cases e
def _root_.Ev.Es.len : Es → Nat
  | .nil => 0
  | .cons _ es => es.len + 1
theorem evEs_len : ∀ {es : Es} {st st' : Sto} {vs : List Vl}, evEs C es ρ st = .ok vs st' → vs.length = es.len
  | .nil, st, st', vs, h => by
    unfold evEs at h
    cases h
    rfl
  | .cons e es, st, st', vs, h => by
    unfold evEs at h
    cases q : evE C e ρ st with
    | ok v s1 =>
      rw [q] at h
      have h : (evEs C es ρ s1).bind (fun vs st => .ok (v :: vs) st) = .ok vs st' := h
      cases q2 : evEs C es ρ s1 with
      | ok us s2 =>
        rw [q2] at h
        have h : R.ok (v :: us) s2 = .ok vs st' := h
        cases h
        rw [List.length_cons, evEs_len q2]
        rfl
      | ex c fs s2 => rw [q2] at h; cases h
      | no => rw [q2] at h; cases h
    | ex c fs s1 => rw [q] at h; cases h
    | no => rw [q] at h; cases h
theorem RQ.monoE {α : Type} {E : XK} {r : R α} {Q Q' : α → Sto → Hp → Mu → Prop} (h : RQ L H μ E r Q) (hq : ∀ a st H' μ', r = .ok a st → Ext H μ H' μ' → Sim L H' μ' st → Q a st H' μ' → Q' a st H' μ') : RQ L H μ E r Q' := by
  cases r with
  | ok a st => exact fun H' μ' e s => hq a st H' μ' rfl e s (h H' μ' e s)
  | ex c fs st => exact h
  | no => exact h
theorem tA_bindL {α : Type} {f : List Vl → Sto → R α} {Q' : α → Sto → Hp → Mu → Prop} {Q1 : List V → Hp → Prop} {e : Es} (S : Sim L H μ st) (n : EnR L H μ ρ σ) (h : RQ L H μ (WE W σ) ((evEs C e ρ st).bind f) Q')
    (k : ∀ u x st' H' μ', u.length = e.len → Ext H μ H' μ' → Sim L H' μ' st' → EnR L H' μ' ρ σ → RVs L H' μ' u x → RQ L H' μ' (WE W σ) (f u st') Q' → Q1 x H') : tA L W C e σ H Q1 :=
  ⟨ρ, μ, st, S, n, h.bind.monoE fun a st' H' μ' q e s z u r => k a u st' H' μ' (evEs_len q) e s (n.ext e) r z⟩
end
end EvS

namespace EvS
open PySem PySem.Spec PyProof.Rows L2 Ev

/-! ### shapes that no tree has -/
section
variable {M : Nm} {N : List Str} {sc : Scope}
theorem no_star (e : E) (a : Expr) (p : Pos) : chkE M N e sc (.Starred a p) = false := by
  cases e with
  | blt b es => cases b <;> rfl
  | _ => rfl
theorem no_set (e : E) (a : List Expr) (k : Nat) (p : Pos) : chkE M N e sc (.Set a k p) = false := by
  cases e with
  | blt b es => cases b <;> rfl
  | _ => rfl
theorem no_slice (e : E) (a b c : Option Expr) (p : Pos) : chkE M N e sc (.Slice a b c p) = false := by
  cases e with
  | blt b es => cases b <;> rfl
  | _ => rfl
theorem chk_star {e : E} {pe : Expr} {es : List Expr} {env : Env} (h : chkE M N e sc pe = true) : starEach (pe :: es) env = (false, eval pe env) :: starEach es env := by
  cases pe with
  | Starred a p => rw [no_star] at h; cases h
  | _ => rfl
theorem chk_plain {pos : Pos} {env : Env} : ∀ {es : Es} {pes : List Expr}, chkEs M N es sc pes = true → (backTo pos (starEach pes env)).any (·.1) = false
  | .nil, pes, h => by
    cases pes with
    | nil => rfl
    | cons p r => cases h
  | .cons e es, pes, h => by
    cases pes with
    | nil => cases h
    | cons p r =>
      have h : (chkE M N e sc p && chkEs M N es sc r) = true := h
      rw [Bool.and_eq_true] at h
      rw [chk_star h.1]
      exact chk_plain (es := es) h.2
theorem chk_all {pos : Pos} {env : Env} : ∀ {es : Es} {pes : List Expr}, chkEs M N es sc pes = true → (backTo pos (starEach pes env)).all (fun x => !x.1) = true
  | .nil, pes, h => by
    cases pes with
    | nil => rfl
    | cons p r => cases h
  | .cons e es, pes, h => by
    cases pes with
    | nil => cases h
    | cons p r =>
      have h : (chkE M N e sc p && chkEs M N es sc r) = true := h
      rw [Bool.and_eq_true] at h
      rw [chk_star h.1]
      exact chk_all (es := es) h.2
theorem chk_len : ∀ {es : Es} {pes : List Expr}, chkEs M N es sc pes = true → pes.length = es.len
  | .nil, pes, h => by
    cases pes with
    | nil => rfl
    | cons p r => cases h
  | .cons e es, pes, h => by
    cases pes with
    | nil => cases h
    | cons p r =>
      have h : (chkE M N e sc p && chkEs M N es sc r) = true := h
      rw [Bool.and_eq_true] at h
      rw [List.length_cons, chk_len (es := es) h.2]
      rfl
theorem chk_mark {e : E} {pe : Expr} (op : CmpOp) (h : chkE M N e sc pe = true) : behindInMarks op pe = false := by
  cases pe with
  | Set a k p => rw [no_set] at h; cases h
  | _ => rfl
theorem chk_marks {e : E} {pe pb : Expr} (op op' : CmpOp) (h : chkE M N e sc pe = true) : lastMarks [op, op'] [pb, pe] = false := chk_mark op' h
theorem chk_ix {e : E} {pe : Expr} (h : chkE M N e sc pe = true) : PlainIx pe := by
  cases pe with
  | Slice a b c p => rw [no_slice] at h; cases h
  | _ => exact fun _ _ => rfl
theorem chk_fold {e : E} {pe : Expr} {env : Env} (h : chkE M N e sc pe = true) (x : Value) : foldedSetIterable pe env x = pure x := by
  cases pe with
  | Set a k p => rw [no_set] at h; cases h
  | _ => rfl
theorem chk_comp {pe : Expr} {t : Option Expr} {l : Nat} {env : Env} (h : compP pe = false) : swapsWith pe t l env = pure false := by
  cases pe with
  | ListComp _ _ _ _ => cases h
  | SetComp _ _ _ _ => cases h
  | DictComp _ _ _ _ _ => cases h
  | _ => rfl
end

section
variable {X : L2.Cx}
/-! ### what is walked, by its value -/
def iAny (K : PySem.W.Frag) (te : TE) : TI := fun σ H R => te σ H fun x H1 => (∃ a xs, x = .ref a ∧ SqL K H1 a xs ∧ R (Itl K a) H1) ∨ (∃ a xs, x = .ref a ∧ SqT K H1 a xs ∧ R (Itt K a) H1) ∨ ∃ z, x = .str z ∧ R (Its z) H1
theorem pi_any {l tg : Expr} {tl : TE} (hl : PE X l tl) : PI X tg l (iAny X.K tl) := by
  refine ⟨fun pins s σ H R I h => ?_⟩
  refine thn (hl.run pins s σ H _ I h) fun v s1 ⟨x, H1, I1, r1, q1⟩ => ?_
  rcases q1 with ⟨a, xs, e, hq, q⟩ | ⟨a, xs, e, hq, q⟩ | ⟨z, e, q⟩
  · subst e
    cases r1
    obtain ⟨its, rv, p, hz⟩ := I1.list hq
    exact wpAny_pyIter_list p.isList (pi_one (tk := s1.toks) I1 _ (turn_list a _) ⟨_, Heap.get?_push_size _ rfl, rfl, rfl⟩ q)
  · subst e
    cases r1
    obtain ⟨its, rv, p, hz⟩ := I1.tuple hq
    exact wpAny_pyIter_tuple (show s1.heap.IsTuple a its.toArray from p) (pi_one (tk := s1.toks) I1 _ (turn_tuple a _) ⟨_, Heap.get?_push_size _ rfl, rfl, rfl⟩ q)
  · subst e
    obtain ⟨t, rfl⟩ := r1
    cases ha : z.cps.all (· < 128)
    · exact wpAny_pyIter_wide ha (pi_one (tk := s1.toks) I1 _ (turn_str _ z t "str_iterator" (.inr rfl)) ⟨_, Heap.get?_push_size _ rfl, rfl, rfl⟩ q)
    · exact wpAny_pyIter_ascii ha (pi_one (tk := s1.toks) I1 _ (turn_str _ z t "str_ascii_iterator" (.inl rfl)) ⟨_, Heap.get?_push_size _ rfl, rfl, rfl⟩ q)

/-! ### s[::-1] of a text -/
def tRevA (K : PySem.W.Frag) (te : TE) : TE := fun σ H Q => te σ H fun x H1 => (∃ z : List Nat, x = .str ⟨z.toArray⟩ ∧ z.length ≤ sizeLine ∧ Q (.str ⟨z.reverse.toArray⟩) H1) ∨ ∃ a xs, x = .ref a ∧ SqL K H1 a xs ∧ ∀ p, H1 p = none → Q (.ref p) (upd H1 p (.lst xs.reverse))
theorem rev_ix (z : List Nat) : ((Builtin.Str.strSliceIndices none none (-1) z.length).filterMap ((z.toArray)[·]?)) = z.reverse := by
  have e : Builtin.Str.strSliceIndices none none (-1) z.length = sliceRange ((z.length : Int) - 1) (-1) (-1) := by
    unfold Builtin.Str.strSliceIndices
    simp
  rw [e, PySem.W.krv_sliceRange, PySem.W.krv_range, List.filterMap_reverse]
  have := PySem.W.krv_all z.toArray
  simp only [List.size_toArray] at this
  rw [this]
theorem rev_len (n : Nat) : (Builtin.Str.strSliceIndices none none (-1) n).length = n := by
  have e : Builtin.Str.strSliceIndices none none (-1) n = sliceRange ((n : Int) - 1) (-1) (-1) := by
    unfold Builtin.Str.strSliceIndices
    simp
  rw [e, PySem.W.krv_sliceRange, List.length_map, List.length_range]
theorem pe_revA {e : Expr} {te : TE} {k : Nat} {p1 p2 p3 pos : Pos} (he : PE X e te) : PE X (.Subscript e (.Slice none none (some (.UnaryOp .USub (.Constant (.int 1) k p1) p2)) p3) pos) (tRevA X.K te) := by
  refine ⟨fun pins s σ H Q I h => ?_⟩
  refine Subscript_ (thn (he.run pins s σ H _ I h) fun v s1 ⟨x, H1, I1, r1, q1⟩ => ?_)
  have hst : PO X (some (.UnaryOp .USub (.Constant (.int 1) k p1) p2)) (tPart (tUn (rU fun i => .int (-i)) (tC (.int 1)))) := po_some (pe_un un_neg pe_int)
  refine wpAny_Slice (thn (po_none.run pins s1 σ H1 (fun o H2 => o = none ∧ H2 = H1) I1 ⟨rfl, rfl⟩) fun vl s2 ⟨l, H2, I2, pl, el, e2⟩ => ?_)
  subst el e2
  refine thn (po_none.run pins s2 σ H2 (fun o H3 => o = none ∧ H3 = H2) I2 ⟨rfl, rfl⟩) fun vu s3 ⟨u, H3, I3, pu, eu, e3⟩ => ?_
  subst eu e3
  refine thn (hst.run pins s3 σ H3 (fun o H4 => o = some (-1) ∧ H4 = H3) I3 ⟨1, rfl, -1, rfl, rfl, rfl⟩) fun vs s4 ⟨o, H4, I4, ps, eo, e4⟩ => ?_
  subst eo e4
  have I5 : Inv X pins σ H4 { s4 with heap := s4.heap.push { cls := .type "slice", data := .fields #[vl, vu, vs] } } := I4.kept (t' := s4.toks) fun b ob q => Heap.get?_push_of_some _ q
  show wpAny (model X.prog X.w) X.A (subscriptTail e (.Slice none none (some (.UnaryOp .USub (.Constant (.int 1) k p1) p2)) p3) v (.ref s4.heap.objs.size)) (EP X pins σ Q) X.xe { s4 with heap := s4.heap.push { cls := .type "slice", data := .fields #[vl, vu, vs] } }
  rcases q1 with ⟨z, ex, hz, q⟩ | ⟨a, xs, ex, hx, q⟩
  · subst ex
    obtain ⟨t, rfl⟩ := r1
    cases pl
    cases pu
    cases ps with
    | int _ t1 =>
    refine tail_any (ops := [.str ⟨z.toArray⟩ t, .ref s4.heap.objs.size]) (typeIs_str _ _ _) F.slot_str_getitem.lookup ?_ (by with_unfolding_all rfl)
    refine wpAny_getItem_str_slice (l := none) (u := none) (st := some (-1, t1)) ⟨_, Heap.get?_push_size _ rfl, rfl, rfl⟩ rfl ?_
    have hl : (⟨z.toArray⟩ : Str).length = z.length := by simp [Str.length]
    show Made.post (if ((-1 : Int) == 1 && _) = true then Made.val (.str _ t)
      else Made.str ⟨((Builtin.Str.strSliceIndices none none (-1) (⟨z.toArray⟩ : Str).length).filterMap ((z.toArray)[·]?)).toArray⟩) (EP X pins σ Q) _
    rw [if_neg (by simp), hl, rev_ix]
    refine ⟨?_, .str _, H4, I5.tok _, ⟨_, rfl⟩, q⟩
    show z.reverse.toArray.size ≤ sizeLine
    simpa using hz
  · subst ex
    cases r1
    obtain ⟨its, r, ht, hz⟩ := I5.list hx
    have hlen := r.length
    refine tail_any (ops := [.ref a, .ref s4.heap.objs.size]) ht.isList.typeIs (PySem.slot_list_getitem.lookup) ?_ (by with_unfolding_all rfl)
    refine wpAny_getItem_list_slice ht.isList (Heap.IsSliceOf.new _ vl vu vs) pl pu ps (by decide) ?_ (by rw [List.size_toArray]; omega)
    rw [PySem.W.krv_pick]
    refine ⟨.ref _, _, I5.laid (t' := s4.toks) (o := .lst xs.reverse) (fun b ob q => Heap.get?_push_of_some _ q) (Nat.le_refl _) ?_, rfl, q _ (I5.hok.fresh (Nat.le_refl _))⟩
    exact ⟨by rw [List.length_reverse]; exact hz, _, 0, r.reverse, Heap.get?_push_size _ rfl⟩

/-! ### o.m(..) by values: the type is told by P -/
def TyBy (X : L2.Cx) (T : String) (P : V → Hp → Prop) : Prop := ∀ (pins : List (Addr × Obj)) (σ : L2.St) (H : Hp) (s : Shared) (x : V) (v : Value), Inv X pins σ H s → RelV x v → P x H → s.TypeIs v T ∧ ∀ a, v = .ref a → ∃ ob, s.heap.get? a = some ob ∧ ob.dict = none
def tMB (P : V → Hp → Prop) (r : V → List V → Hp → VK → Prop) (to : TE) (t : TA) : TE := fun σ H Q => to σ H fun x H1 => P x H1 ∧ t σ H1 fun xs H2 => r x xs H2 Q
variable {o e : Expr} {es : List Expr} {to : TE} {t : TA} {name : Str} {apos cpos : Pos} {T id : String} {r : V → List V → Hp → VK → Prop} {P : V → Hp → Prop}
theorem pe_mb0 (ty : TyBy X T P) (pa : PlainAttrs T) (slot : Slot T name id) (hty : typeOf (.builtin id) = pure (.type "method_descriptor")) (hm : MtR X id r) (ho : PE X o to)
    (hbase : attributeBase o name X.env (eval o X.env) = eval o X.env) (hline : (apos.endLine == cpos.line) = true) : PE X (.Call (.Attribute o name apos) [] [] cpos) (tMB P r to tNil) := by
  refine ⟨fun pins s σ H Q I h => ?_⟩
  refine wpAny_Call_method0_late hbase hline (thn (ho.run pins s σ H _ I h) fun v s1 ⟨x, H1, I1, r1, tq, q1⟩ => ?_)
  obtain ⟨h1, h2⟩ := ty _ _ _ _ _ _ I1 r1 tq
  exact ⟨T, id, pa, slot, hty, h1, h2, Calls.callWith_builtin rfl (PySem.evalArgs_none (hm pins s1 σ H1 x [] v [] Q I1 r1 .nil q1))⟩
theorem pe_mb (ty : TyBy X T P) (pa : PlainAttrs T) (slot : Slot T name id) (hty : typeOf (.builtin id) = pure (.type "method_descriptor")) (hm : MtR X id r) (ho : PE X o to) (ha : PA X (e :: es) t)
    (hbase : attributeBase o name X.env (eval o X.env) = eval o X.env)
    (hfew : ((backTo cpos (starEach (e :: es) X.env)).all (fun x => !x.1) && (backToKw cpos (keywordEach [] X.env)).all (fun x => x.1.isSome)
      && decide ((e :: es).length + ([] : List Keyword).length + (if ([] : List Keyword).isEmpty then 0 else 1) < 30)) = true)
    (hline : (apos.endLine == cpos.line) = true) (hs : starEach (e :: es) X.env = (false, eval e X.env) :: starEach es X.env) (hplain : (backTo cpos (starEach es X.env)).any (·.1) = false) :
    PE X (.Call (.Attribute o name apos) (e :: es) [] cpos) (tMB P r to t) := by
  refine ⟨fun pins s σ H Q I h => ?_⟩
  refine wpAny_Call_method_late hbase hfew hline rfl (thn (ho.run pins s σ H _ I h) fun v s1 ⟨x, H1, I1, r1, tq, q1⟩ => ?_)
  obtain ⟨h1, h2⟩ := ty _ _ _ _ _ _ I1 r1 tq
  refine ⟨T, id, pa, slot, hty, h1, h2, ?_⟩
  have hA := ha.run cpos pins s1 σ H1 _ I1 q1
  rw [hs] at hA ⊢
  refine Calls.callWith_builtin (by show (false || (backTo cpos (starEach es X.env)).any (·.1)) = false; rw [hplain] <;> rfl) (Calls.evalArgs_plain ?_)
  exact thn hA fun us s2 ⟨vs, H2, I2, r2, q2⟩ => hm pins s2 σ H2 x vs v us Q I2 r1 r2 q2
theorem ty_list : TyBy X "list" (fun x H => ∃ a xs, x = .ref a ∧ H a = some (.lst xs)) := by
  intro pins σ H s x v I rx h
  obtain ⟨a, xs, rfl, h⟩ := h
  exact tyV_is I rx (.inl ⟨rfl, xs, SqL.of h⟩)
theorem ty_dict : TyBy X "dict" (fun x H => ∃ a P w xs, x = .ref a ∧ H a = some (DicO P w a xs)) := by
  intro pins σ H s x v I rx h
  obtain ⟨a, P, w, xs, rfl, h⟩ := h
  cases rx
  obtain ⟨⟨_, o, es, ep, e, ex, _⟩, _⟩ := I.hok a _ h
  refine ⟨⟨o, e, ex.1⟩, fun b e2 => ?_⟩
  cases e2
  exact ⟨o, e, ex.2.1⟩

/-! ### f() -/
theorem pe_callS0 {CX : CXT} {k : Nat} {f : Addr} {fd : FuncData} {ps : List Str} {sp : Sp} {E : L2.St → XK} {x : Str} {p pos : Pos} (F : FnOk X.prog X.w X.K X.mg X.base CX k f fd ps sp) (hr : Room k X.A) (hg : Gl X x) (hm : X.mg x = some (.ref f)) (hk : PySem.W.keepIn X.K (.ref f) = true) (hb : Binds X.K fd ps []) (hx : ∀ σ, PassesAt CX X σ (E σ))
    (hdb : (x == ("__debug__" : Str)) = false) : PE X (.Call (.Name x p) [] [] pos) (tCallS sp E tNil) := by
  refine ⟨fun pins s σ H Q I h => ?_⟩
  refine wpAny_Call_Name_kw (ld_glob I hg hm ?_ hdb)
  exact PySem.W.callWith_K0 I.kIn hk (run_fnS (us := []) F hr hb (hx σ) I .nil h)
theorem takesN {X : L2.Cx} : Takes X (fun _ _ _ _ => False) := fun _ _ x => by
  obtain ⟨_, _, _, _, _, _, _, _, _, _, _, _, _, _, _, _, z⟩ := x
  exact z.elim
end
end EvS

namespace EvS
open PySem PySem.Spec PyProof.Rows L2 Ev

/-- what a def of the table promises -/
def spF (L : Lw) (C : Ev.Ctx) (g : Nat) : Sp := fun vs H Q E => ∃ us μ st, Sim L H μ st ∧ RVs L H μ us vs ∧ RQ L H μ E (C.call g us st) (QV (L := L) Q)
/-- what stands around a text at the level k -/
structure CxOk (L : Lw) (M : Nm) (k : Nat) (C : Ev.Ctx) : Prop where
  con : ∀ i v x, C.con i = some v → M.cons[i]? = some x → (x == ("__debug__" : Str)) = false ∧ ∃ u val, L.mg x = some val ∧ RelV u val ∧ ∀ H μ, RV L H μ v u
  fn : ∀ g x, M.fns[g]? = some x → (x == ("__debug__" : Str)) = false ∧ ∃ fd ps, FnOk L.P L.w L.K L.mg L.base (CX L.P L.w) k (L.fa g) fd ps (spF L C g) ∧ L.mg x = some (.ref (L.fa g)) ∧ PySem.W.keepIn L.K (.ref (L.fa g)) = true ∧ Binds L.K fd ps []
  blt : ∀ n ∈ bnames, L.mg n = none

variable (L : Lw) (M : Nm) (k : Nat) (C : Ev.Ctx)
abbrev GE (e : E) : Prop := ∀ (X : L2.Cx) (W : WX) (pe : Expr), Gd L k X → Takes X W → chkE M X.N e X.env.scope pe = true → PE X pe (tE L W C e) ∧ (tstB e = true → PT X pe (tT L W C e))
abbrev GEs (es : Es) : Prop := ∀ (X : L2.Cx) (W : WX) (pes : List Expr), Gd L k X → Takes X W → chkEs M X.N es X.env.scope pes = true →
  PA X pes (tA L W C es) ∧ (pes ≠ [] → ∀ pos, PE X (.BoolOp .And pes pos) (tAnds L W C es) ∧ PE X (.BoolOp .Or pes pos) (tOrs L W C es) ∧ (tstBs es = true → PW X (.BoolOp .And pes pos) (tAndsT L W C es) ∧ PW X (.BoolOp .Or pes pos) (tOrsT L W C es)))
abbrev GPo (o : Po) : Prop := ∀ (X : L2.Cx) (W : WX), Gd L k X → Takes X W → (∀ pe, chkPo M X.N o X.env.scope pe = true → PO X pe (tPo L W C o)) ∧ ∀ ps, chkPoB M X.N o X.env.scope ps = true → PTs X ps (tPB L W C o)
abbrev GI (i : Ev.It) : Prop := ∀ (X : L2.Cx) (W : WX) (tg pe : Expr), Gd L k X → Takes X W → chkIt M X.N i X.env.scope tg pe = true → PI X tg pe (tI L W C i) ∧ ∀ x, foldedSetIterable pe X.env x = pure x

variable {L M k C}
section
variable {X : L2.Cx} {W : WX} {pe : Expr}
theorem pt_plain {e : E} (h : PE X pe (tE L W C e)) (hi : ∀ whole, isTrue pe X.env whole = (do let v ← whole; standAt pe.pos; holding [v] (truthy v))) : PT X pe (tT L W C e) :=
  (pt_val h hi).imp fun σ H Q q => tE_tB q
theorem nm_of {N : List Str} {i : Nat} {x : Str} (h : nmB N i x = true) : N[i]? = some x := by
  unfold nmB at h
  split at h
  · rename_i y hy
    rw [hy, of_decide_eq_true h]
  · cases h
theorem vis_of {sc : Scope} {x : Str} (h : visB sc x = true) : Vis sc x := by
  unfold visB at h
  unfold Vis
  split at h <;> first | (rename_i e; exact .inl e) | (rename_i e; exact .inr (.inl e)) | (rename_i e; exact .inr (.inr e)) | cases h
theorem loc_of {sc : Scope} {x : Str} (h : locB sc x = true) : L2.Loc sc x := by
  unfold locB at h
  unfold L2.Loc
  split at h <;> first | (rename_i e; exact .inl e) | (rename_i e; exact .inr e) | cases h
theorem lcl_of {sc : Scope} {x : Str} (h : lclB sc x = true) : sc.names.lookup x = some .local := by
  unfold lclB at h
  split at h <;> first | assumption | cases h
theorem gl_of {x : Str} (h : glB X.env.scope x = true) : Gl X x := by
  unfold glB at h
  split at h <;> first | assumption | cases h
theorem isB_of {n : String} {x : Str} (h : isB X.env.scope n x = true) : x = Str.ofString n ∧ Gl X x := by
  unfold isB at h
  rw [Bool.and_eq_true] at h
  exact ⟨of_decide_eq_true h.1, gl_of h.2⟩
theorem Gd.var (g : Gd L k X) {i : Nat} {x : Str} (h : nmB X.N i x = true) : X.N[i]? = some x ∧ (x == ("__debug__" : Str)) = false ∧ (x == ("__classdict__" : Str)) = false :=
  ⟨nm_of h, g.nb x (List.mem_of_getElem? (nm_of h))⟩

theorem ge_cst (d : D) : GE L M k C (.cst d) := by
  intro X W pe g tk h
  cases pe with
  | Constant c j pos =>
    have h : conB d c = true := h
    have key : ∀ v : V, (∀ H, RD L.K H d v) → PE X (.Constant c j pos) (tC v) → PE X (.Constant c j pos) (tE L W C (.cst d)) := fun v r p => p.imp fun σ H Q q => by
      obtain ⟨ρ, μ, st, S, n, q⟩ := q
      exact (gd_of S q).val (r H)
    have main : PE X (.Constant c j pos) (tE L W C (.cst d)) := by
      unfold conB at h
      split at h
      · exact key .non (fun _ => rfl) pe_non
      · rename_i a b
        have e := eq_of_beq h
        subst e
        exact key (.bl _) (fun _ => rfl) pe_bl
      · rename_i a b
        have e := eq_of_beq h
        subst e
        exact key (.int _) (fun _ => rfl) pe_int
      · rename_i b z
        rw [Bool.and_eq_true, Bool.and_eq_true] at h
        have e := of_decide_eq_true h.1.1
        subst e
        exact key (.str _) (fun _ => ⟨rfl, of_decide_eq_true h.1.2, fun c hc => of_decide_eq_true (List.all_eq_true.mp h.2 c hc)⟩) pe_str
      · cases h
    exact ⟨main, fun _ => pt_plain main (by intro _; rfl)⟩
  | _ => cases h
theorem ge_var (i : Nat) : GE L M k C (.var i) := by
  intro X W pe g tk h
  cases pe with
  | Name x pos =>
    have h : (nmB X.N i x && visB X.env.scope x) = true := h
    rw [Bool.and_eq_true] at h
    obtain ⟨h1, h2, h3⟩ := g.var h.1
    have main : PE X (.Name x pos) (tE L W C (.var i)) := (pe_var h1 (vis_of h.2) h2 h3).imp fun σ H Q q => by
      obtain ⟨ρ, μ, st, S, n, q⟩ := q
      unfold evE at q
      split at q
      · rename_i v hv
        obtain ⟨u, hu, r⟩ := n.2 i v (En.get_some hv)
        exact ⟨u, hu, q.ok S u r⟩
      · exact q.elim
    exact ⟨main, fun _ => pt_plain main (by intro _; rfl)⟩
  | _ => cases h
theorem ge_frz (i : Nat) : GE L M k C (.frz i) := by
  intro X W pe g tk h
  cases pe with
  | Name x pos =>
    have h : (nmB X.N i x && visB X.env.scope x) = true := h
    rw [Bool.and_eq_true] at h
    obtain ⟨h1, h2, h3⟩ := g.var h.1
    have main : PE X (.Name x pos) (tE L W C (.frz i)) := (PE.lk (pe_var h1 (vis_of h.2) h2 h3)).imp fun σ H Q q => by
      obtain ⟨ρ, μ, st, S, n, q⟩ := q
      unfold evE at q
      split at q
      · rename_i r hv
        split at q
        · rename_i xs hr
          obtain ⟨u, hu, rv⟩ := n.2 i _ (En.get_some hv)
          obtain ⟨a, vs, rfl, e1, e2, e3, e4⟩ := lst_cell S rv hr
          refine ⟨_, hu, .inr ⟨a, _, rfl, e2, trivial, fun od => ?_⟩⟩
          have ex := Ext.lock (o := od) S e1 e2
          exact q _ _ ex (S.lock e1 e2) _ ⟨a, vs, rfl, .inl ⟨od, upd_same⟩, e3, e4.ext ex⟩
        · exact q.elim
      · exact q.elim
    exact ⟨main, fun _ => pt_plain main (by intro _; rfl)⟩
  | _ => cases h
theorem ge_glo (hC : CxOk L M k C) (i : Nat) : GE L M k C (.glo i) := by
  intro X W pe g tk h
  cases pe with
  | Name x pos =>
    have h : (nmB M.cons i x && glB X.env.scope x) = true := h
    rw [Bool.and_eq_true] at h
    have main : PE X (.Name x pos) (tE L W C (.glo i)) := by
      cases q : C.con i with
      | none =>
        refine ⟨fun pins s σ H Q I z => ?_⟩
        obtain ⟨ρ, μ, st, S, n, z⟩ := z
        unfold evE at z
        rw [q] at z
        exact z.elim
      | some v =>
        obtain ⟨hd, u, val, e1, e2, e3⟩ := hC.con i v x q (nm_of h.1)
        refine (pe_glob (gl_of h.2) (by rw [g.mg]; exact e1) e2 hd).imp fun σ H Q z => ?_
        obtain ⟨ρ, μ, st, S, n, z⟩ := z
        unfold evE at z
        rw [q] at z
        exact z.ok S u (e3 _ _)
    exact ⟨main, fun _ => pt_plain main (by intro _; rfl)⟩
  | _ => cases h
theorem ge_tup {es : Es} (ih : GEs L M k C es) : GE L M k C (.tup es) := by
  intro X W pe g tk h
  cases pe with
  | Tuple l x1 pos =>
    have h : (chkEs M X.N es X.env.scope l && decide (l.length ≤ 1000)) = true := h
    rw [Bool.and_eq_true] at h
    have main : PE X (.Tuple l x1 pos) (tE L W C (.tup es)) := (pe_tup (ih X W l g tk h.1).1).imp fun σ H Q z => by
      obtain ⟨ρ, μ, st, S, n, z⟩ := z
      refine tA_bindL S n z fun u x st' H' μ' hl e S' n' r z => ?_
      obtain ⟨xs, e1, z⟩ := onD_cases z
      have rd := r.dats e1
      have ll : xs.length ≤ line := by
        rw [datVs_len e1, hl, ← chk_len h.1]
        exact Nat.le_trans (of_decide_eq_true h.2) (by decide)
      exact ⟨len_vs rd ll, fun p hp => (gd_of S' z).tup ll rd hp⟩
    exact ⟨main, fun _ => pt_plain main (by intro _; rfl)⟩
  | _ => cases h
theorem ge_lst {es : Es} (ih : GEs L M k C es) : GE L M k C (.lst es) := by
  intro X W pe g tk h
  cases pe with
  | List l pos =>
    have h : (chkEs M X.N es X.env.scope l && decide (l.length ≤ 1000)) = true := h
    rw [Bool.and_eq_true] at h
    have main : PE X (.List l pos) (tE L W C (.lst es)) := (PE.lk (pe_lst (ih X W l g tk h.1).1)).imp fun σ H Q z => by
      obtain ⟨ρ, μ, st, S, n, z⟩ := z
      refine tA_bindL S n z fun u x st' H' μ' hl e S' n' r z => ?_
      obtain ⟨xs, e1, z⟩ := onD_cases z
      have rd := r.dats e1
      have ll : xs.length ≤ line := by
        rw [datVs_len e1, hl, ← chk_len h.1]
        exact Nat.le_trans (of_decide_eq_true h.2) (by decide)
      exact ⟨len_vs rd ll, fun p hp => (gd_of S' z).lst ll rd hp⟩
    exact ⟨main, fun _ => pt_plain main (by intro _; rfl)⟩
  | _ => cases h
theorem ge_new {es : Es} (ih : GEs L M k C es) : GE L M k C (.new es) := by
  intro X W pe g tk h
  cases pe with
  | List l pos =>
    have h : (chkEs M X.N es X.env.scope l && decide (l.length ≤ 1000)) = true := h
    rw [Bool.and_eq_true] at h
    have main : PE X (.List l pos) (tE L W C (.new es)) := (pe_lst (ih X W l g tk h.1).1).imp fun σ H Q z => by
      obtain ⟨ρ, μ, st, S, n, z⟩ := z
      refine tA_bindL S n z fun u x st' H' μ' hl e S' n' r z => ?_
      obtain ⟨xs, e1, z⟩ := onD_cases z
      have rd := r.dats e1
      have ll : xs.length ≤ line := by
        rw [datVs_len e1, hl, ← chk_len h.1]
        exact Nat.le_trans (of_decide_eq_true h.2) (by decide)
      refine ⟨len_vs rd ll, fun p hp => ?_⟩
      have ex : Ext H' μ' (upd H' p (.lst x)) (μ' ++ [some p]) := Ext.new hp
      refine z _ _ ex (S'.new hp trivial ⟨p, x, by simp, upd_same, ll, rd.ext ex⟩) _ ⟨?_, fun a ha => ?_, p, rfl⟩
      · rw [List.length_append, S'.len]
        exact Nat.lt_succ_self _
      · rw [← S'.len] at ha
        simp at ha
        rw [ha]
    exact ⟨main, fun _ => pt_plain main (by intro _; rfl)⟩
  | _ => cases h
theorem opB_of {o : Op} {po : Operator} (h : opB o po = true) : po = pyOp o := by
  cases o <;> cases po <;> first | rfl | cases h
theorem copB_of {o : Cop} {po : CmpOp} (h : copB o po = true) : po = pyCop o := by
  cases o <;> cases po <;> first | rfl | cases h
theorem ge_bin {o : Op} {a b : E} (ha : GE L M k C a) (hb : GE L M k C b) : GE L M k C (.bin o a b) := by
  intro X W pe g tk h
  cases pe with
  | BinOp pa po pb pos =>
    have h : (opB o po && chkE M X.N a X.env.scope pa && chkE M X.N b X.env.scope pb) = true := h
    rw [Bool.and_eq_true, Bool.and_eq_true] at h
    have e := opB_of h.1.1
    subst e
    have main : PE X (.BinOp pa (pyOp o) pb pos) (tE L W C (.bin o a b)) := (pe_op (opR_D o) (ha X W pa g tk h.1.2).1 (hb X W pb g tk h.2).1).imp fun σ H Q z => by
      obtain ⟨ρ, μ, st, S, n, z⟩ := z
      refine tE_bind S n z fun u x st' H' μ' e S' n' r z => ?_
      refine tE_bind S' n' z fun v y st2 H2 μ2 e2 S2 n2 r2 z => ?_
      obtain ⟨c, e3, z⟩ := onD_cases z
      obtain ⟨d, e4, z⟩ := onD_cases z
      obtain ⟨w, e5, z⟩ := ofO_cases z
      have q1 := rawV_rw S2 (r.ext e2) e3
      have q2 := rawV_rw S2 r2 e4
      have q3 := gd_of S2 z
      rw [← g.K] at q1 q2 q3
      exact ⟨c, d, w, q1, q2, e5, q3⟩
    exact ⟨main, fun _ => pt_plain main (by intro _; rfl)⟩
  | _ => cases h
theorem ge_neg {a : E} (ha : GE L M k C a) : GE L M k C (.neg a) := by
  intro X W pe g tk h
  cases pe with
  | UnaryOp po pa pos =>
    cases po with
    | USub =>
      have h : chkE M X.N a X.env.scope pa = true := h
      have main : PE X (.UnaryOp .USub pa pos) (tE L W C (.neg a)) := (pe_un un_neg (ha X W pa g tk h).1).imp fun σ H Q z => by
        obtain ⟨ρ, μ, st, S, n, z⟩ := z
        refine tE_bind S n z fun u x st' H' μ' e S' n' r z => ?_
        split at z
        · rename_i i
          obtain rfl : x = .int i := r
          exact ⟨i, rfl, (gd_of S' z).val rfl⟩
        · exact z.elim
      exact ⟨main, fun _ => pt_plain main (by intro _; rfl)⟩
    | _ => cases h
  | _ => cases h
/-- comparisons by values -/
def rCmpV (L : Lw) (o : Cop) : R2 := fun x y H Q => ∃ (E : XK) (u v : Vl) (μ : Mu) (st : Sto), Sim L H μ st ∧ RV L H μ u x ∧ RV L H μ v y ∧ RQ L H μ E (cmpV o u v st) (QV (L := L) Q)
theorem cmpR_ok (g : Gd L k X) (o : Cop) : OpR X (compareOp (pyCop o)) (rCmpV L o) := by
  intro pins s σ H x y v u Q I rx ry h
  obtain ⟨E, a, b, μ, st, S, h1, h2, h3⟩ := h
  exact cmp_ok g o I S h1 h2 rx ry h3
theorem ge_cmp {o : Cop} {a b : E} (ha : GE L M k C a) (hb : GE L M k C b) : GE L M k C (.cmp o a b) := by
  intro X W pe g tk h
  cases pe with
  | Compare pa pos pbs pp =>
    cases pos with
    | nil => cases h
    | cons po r1 =>
      cases r1 with
      | cons _ _ => cases h
      | nil =>
        cases pbs with
        | nil => cases h
        | cons pb r2 =>
          cases r2 with
          | cons _ _ => cases h
          | nil =>
            have h : (copB o po && chkE M X.N a X.env.scope pa && chkE M X.N b X.env.scope pb) = true := h
            rw [Bool.and_eq_true, Bool.and_eq_true] at h
            have e := copB_of h.1.1
            subst e
            refine ⟨(pe_cmpR (cmpR_ok g o) (ha X W pa g tk h.1.2).1 (hb X W pb g tk h.2).1 (chk_mark _ h.2)).imp fun σ H Q z => ?_, fun _ => (pt_cmpR (cmpR_ok g o) (ha X W pa g tk h.1.2).1 (hb X W pb g tk h.2).1 (chk_mark _ h.2)).imp fun σ H Q z => ?_⟩
            · obtain ⟨ρ, μ, st, S, n, z⟩ := z
              refine tE_bind S n z fun u x st' H' μ' e S' n' r z => ?_
              refine tE_bind S' n' z fun v y st2 H2 μ2 e2 S2 n2 r2 z => ?_
              exact ⟨_, u, v, μ2, st2, S2, r.ext e2, r2, z⟩
            · obtain ⟨ρ, μ, st, S, n, z⟩ := z
              refine tE_bind S n z fun u x st' H' μ' e S' n' r z => ?_
              refine tE_bind S' n' z fun v y st2 H2 μ2 e2 S2 n2 r2 z => ?_
              refine ⟨_, u, v, μ2, st2, S2, r.ext e2, r2, z.mono fun w s3 H3 μ3 _ _ q t ht => ?_⟩
              obtain ⟨b, rfl, q⟩ := q
              exact ⟨b, ht, q⟩
  | _ => cases h
theorem chain_go {o o' : Cop} {a b c : E} {σ : L2.St} {H : Hp} {Q : VK} (z : tE L W C (.chain o o' a b c) σ H Q) : tChain (rCmpV L o) (rCmpV L o') (tE L W C a) (tE L W C b) (tE L W C c) σ H Q := by
  obtain ⟨ρ, μ, st, S, n, z⟩ := z
  refine tE_bind S n z fun u x st' H' μ' e S' n' r z => ?_
  refine tE_bind S' n' z fun v y st2 H2 μ2 e2 S2 n2 r2 z => ?_
  refine ⟨_, u, v, μ2, st2, S2, r.ext e2, r2, z.bind.mono fun w s3 H3 μ3 e3 S3 q t ht => ?_⟩
  obtain ⟨d, ed, q2⟩ := onB_cases q
  clear q
  subst ed
  refine ⟨d, ht, ?_⟩
  cases d with
  | false => exact (gd_of S3 q2).val rfl
  | true =>
    rw [if_pos rfl] at q2 ⊢
    refine tE_bind S3 (n2.ext e3) q2 fun w y4 st4 H4 μ4 e4 S4 n4 r4 z => ?_
    exact ⟨_, v, w, μ4, st4, S4, (r2.ext e3).ext e4, r4, z⟩
theorem ge_chain {o o' : Cop} {a b c : E} (ha : GE L M k C a) (hb : GE L M k C b) (hc : GE L M k C c) : GE L M k C (.chain o o' a b c) := by
  intro X W pe g tk h
  cases pe with
  | Compare pa pos pbs pp =>
    cases pos with
    | nil => cases h
    | cons po r1 =>
      cases r1 with
      | nil => cases h
      | cons po' r1 =>
        cases r1 with
        | cons _ _ => cases h
        | nil =>
          cases pbs with
          | nil => cases h
          | cons pb r2 =>
            cases r2 with
            | nil => cases h
            | cons pc r2 =>
              cases r2 with
              | cons _ _ => cases h
              | nil =>
                have h : (copB o po && copB o' po' && chkE M X.N a X.env.scope pa && chkE M X.N b X.env.scope pb && chkE M X.N c X.env.scope pc) = true := h
                simp only [Bool.and_eq_true] at h
                obtain ⟨⟨⟨⟨h1, h2⟩, h3⟩, h4⟩, h5⟩ := h
                have e := copB_of h1
                subst e
                have e := copB_of h2
                subst e
                refine ⟨(pe_chain (cmpR_ok g o) (cmpR_ok g o') (ha X W pa g tk h3).1 (hb X W pb g tk h4).1 (hc X W pc g tk h5).1 (chk_marks _ _ h5)).imp fun σ H Q z => chain_go z,
                  fun _ => (pt_chain (cmpR_ok g o) (cmpR_ok g o') (ha X W pa g tk h3).1 (hb X W pb g tk h4).1 (hc X W pc g tk h5).1 (chk_marks _ _ h5)).imp fun σ H Q z => chain_go ?_⟩
                obtain ⟨ρ, μ, st, S, n, z⟩ := z
                refine ⟨ρ, μ, st, S, n, z.mono fun w s3 H3 μ3 _ _ q t ht => ?_⟩
                obtain ⟨b, rfl, q⟩ := q
                exact ⟨b, ht, q⟩
  | _ => cases h
theorem rv_none {H : Hp} {μ : Mu} {v : Vl} {x : V} (h : RV L H μ v x) : noneV v = decide (x = .non) := by
  cases v with
  | d y =>
    cases y with
    | non => obtain rfl : x = .non := h; rfl
    | bl b => obtain rfl : x = .bl b := h; rfl
    | int b => obtain rfl : x = .int b := h; rfl
    | str b => obtain ⟨rfl, _⟩ := h; rfl
    | tup b => obtain ⟨a, vs, rfl, _⟩ := h; rfl
    | lst b => obtain ⟨a, vs, rfl, _⟩ := h; rfl
  | fn g => obtain ⟨_, rfl⟩ := h; rfl
  | clo l cs => obtain ⟨f, o, cl, rfl, _⟩ := h; rfl
  | ref r => obtain ⟨_, _, a, rfl⟩ := h; rfl
  | dct kvs => obtain ⟨a, o, rfl, _⟩ := h; rfl
theorem ge_isN {a : E} (ha : GE L M k C a) : GE L M k C (.isN a) := by
  intro X W pe g tk h
  have key : ∀ {pa : Expr} {σ : L2.St} {H : Hp} {Q : VK}, tE L W C (.isN a) σ H Q → tIsN (tE L W C a) σ H Q := fun {pa σ H Q} z => by
    obtain ⟨ρ, μ, st, S, n, z⟩ := z
    refine tE_bind S n z fun u x st' H' μ' e S' n' r z => ?_
    rw [← rv_none r]
    exact (gd_of S' z).val rfl
  unfold chkE at h
  split at h
  · rename_i pa j p2 pos
    have p := pc_isN (X := X) (j := j) (pos' := p2) (ha X W pa g tk h).1
    exact ⟨(pe_cmp p).imp fun σ H Q z => key (pa := pa) z, fun _ => (pt_cmp p).imp fun σ H Q z => key (pa := pa) (tE_tB z)⟩
  · cases h
theorem ge_notN {a : E} (ha : GE L M k C a) : GE L M k C (.notN a) := by
  intro X W pe g tk h
  have key : ∀ {pa : Expr} {σ : L2.St} {H : Hp} {Q : VK}, tE L W C (.notN a) σ H Q → tNotN (tE L W C a) σ H Q := fun {pa σ H Q} z => by
    obtain ⟨ρ, μ, st, S, n, z⟩ := z
    refine tE_bind S n z fun u x st' H' μ' e S' n' r z => ?_
    rw [← rv_none r]
    exact (gd_of S' z).val rfl
  unfold chkE at h
  split at h
  · rename_i pa j p2 pos
    have p := pc_notN (X := X) (j := j) (pos' := p2) (ha X W pa g tk h).1
    exact ⟨(pe_cmp p).imp fun σ H Q z => key (pa := pa) z, fun _ => (pt_cmp p).imp fun σ H Q z => key (pa := pa) (tE_tB z)⟩
  · cases h
end
end EvS

namespace EvS
open PySem PySem.Spec PyProof.Rows L2 Ev
variable {L : Lw} {M : Nm} {k : Nat} {C : Ev.Ctx}
section
variable {X : L2.Cx} {W : WX} {pe : Expr}
theorem gEs_nil : GEs L M k C .nil := by
  intro X W pes g tk h
  cases pes with
  | nil =>
    refine ⟨pa_nil.imp fun σ H Q z => ?_, fun z => absurd rfl z⟩
    obtain ⟨ρ, μ, st, S, n, z⟩ := z
    exact z.ok S [] rfl
  | cons _ _ => cases h
theorem gEs_cons {e : E} {es : Es} (he : GE L M k C e) (hs : GEs L M k C es) : GEs L M k C (.cons e es) := by
  intro X W pes g tk h
  cases pes with
  | nil => cases h
  | cons p r =>
    have h : (chkE M X.N e X.env.scope p && chkEs M X.N es X.env.scope r) = true := h
    rw [Bool.and_eq_true] at h
    obtain ⟨p1, p2⟩ := he X W p g tk h.1
    obtain ⟨q1, q2⟩ := hs X W r g tk h.2
    refine ⟨(pa_cons p1 q1 (chk_star h.1)).imp fun σ H Q z => ?_, fun _ pos => ?_⟩
    · obtain ⟨ρ, μ, st, S, n, z⟩ := z
      refine tE_bind S n z fun u x st' H' μ' e S' n' r z => ?_
      refine tA_bind S' n' z fun v y st2 H2 μ2 e2 S2 n2 r2 z => ?_
      exact z.ok S2 _ ⟨x, y, rfl, r.ext e2, r2⟩
    · cases r with
      | nil =>
        have en : es = .nil := by
          cases es with
          | nil => rfl
          | cons _ _ => cases h.2
        subst en
        refine ⟨(pe_one p1).imp fun σ H Q z => z, (pe_one p1).imp fun σ H Q z => z, fun ht => ?_⟩
        have ht : (tstB e && tstBs .nil) = true := ht
        rw [Bool.and_eq_true] at ht
        exact ⟨(pw_and1 (p2 ht.1)).imp fun σ H Q z => z, (pw_or1 (p2 ht.1)).imp fun σ H Q z => z⟩
      | cons p' r =>
        cases es with
        | nil => cases h.2
        | cons e' es =>
          obtain ⟨a1, a2, a3⟩ := q2 (by simp) pos
          refine ⟨(pe_and p1 a1).imp fun σ H Q z => ?_, (pe_or p1 a2).imp fun σ H Q z => ?_, fun ht => ?_⟩
          · obtain ⟨ρ, μ, st, S, n, z⟩ := z
            refine tE_bind S n z fun u x st' H' μ' e S' n' r z => ?_
            obtain ⟨b, eb, z2⟩ := onB_cases z
            subst eb
            refine ⟨b, r, ?_⟩
            cases b with
            | true => exact ⟨ρ, μ', st', S', n', z2⟩
            | false => exact (gd_of S' z2).val rfl
          · obtain ⟨ρ, μ, st, S, n, z⟩ := z
            refine tE_bind S n z fun u x st' H' μ' e S' n' r z => ?_
            obtain ⟨b, eb, z2⟩ := onB_cases z
            subst eb
            refine ⟨b, r, ?_⟩
            cases b with
            | false => exact ⟨ρ, μ', st', S', n', z2⟩
            | true => exact (gd_of S' z2).val rfl
          · have ht : (tstB e && tstBs (.cons e' es)) = true := ht
            rw [Bool.and_eq_true] at ht
            obtain ⟨w1, w2⟩ := a3 ht.2
            refine ⟨(pw_and (p2 ht.1) w1).imp fun σ H Q z => ?_, (pw_or (p2 ht.1) w2).imp fun σ H Q z => ?_⟩
            · obtain ⟨ρ, μ, st, S, n, z⟩ := z
              refine ⟨ρ, μ, st, S, n, z.bind.mono fun a st' H' μ' ex S' q => ?_⟩
              obtain ⟨b, eb, z2⟩ := onB_cases q
              refine ⟨b, eb, ?_⟩
              cases b with
              | true => exact ⟨ρ, μ', st', S', n.ext ex, z2⟩
              | false =>
                obtain ⟨b, e3, q⟩ := z2.ok S'
                cases e3
                exact q
            · obtain ⟨ρ, μ, st, S, n, z⟩ := z
              refine ⟨ρ, μ, st, S, n, z.bind.mono fun a st' H' μ' ex S' q => ?_⟩
              obtain ⟨b, eb, z2⟩ := onB_cases q
              refine ⟨b, eb, ?_⟩
              cases b with
              | false => exact ⟨ρ, μ', st', S', n.ext ex, z2⟩
              | true =>
                obtain ⟨b, e3, q⟩ := z2.ok S'
                cases e3
                exact q
theorem ge_and {a : E} {es : Es} (ha : GE L M k C a) (hs : GEs L M k C es) : GE L M k C (.and a es) := by
  intro X W pe g tk h
  unfold chkE at h
  split at h
  · rename_i pa pb l pos
    rw [Bool.and_eq_true] at h
    obtain ⟨p1, p2⟩ := ha X W pa g tk h.1
    obtain ⟨_, q2⟩ := hs X W _ g tk h.2
    obtain ⟨a1, a2, a3⟩ := q2 (by simp) pos
    refine ⟨(pe_and p1 a1).imp fun σ H Q z => ?_, fun ht => ((pw_and (p2 (by
      have ht : (tstB a && tstBs es) = true := ht
      rw [Bool.and_eq_true] at ht
      exact ht.1)) (a3 (by
      have ht : (tstB a && tstBs es) = true := ht
      rw [Bool.and_eq_true] at ht
      exact ht.2)).1).imp fun σ H Q z => ?_).pt⟩
    · obtain ⟨ρ, μ, st, S, n, z⟩ := z
      refine tE_bind S n z fun u x st' H' μ' e S' n' r z => ?_
      obtain ⟨b, eb, z2⟩ := onB_cases z
      subst eb
      refine ⟨b, r, ?_⟩
      cases b with
      | true => exact ⟨ρ, μ', st', S', n', z2⟩
      | false => exact (gd_of S' z2).val rfl
    · obtain ⟨ρ, μ, st, S, n, z⟩ := z
      refine ⟨ρ, μ, st, S, n, z.bind.mono fun a st' H' μ' ex S' q => ?_⟩
      obtain ⟨b, eb, z2⟩ := onB_cases q
      refine ⟨b, eb, ?_⟩
      cases b with
      | true => exact ⟨ρ, μ', st', S', n.ext ex, z2⟩
      | false =>
        obtain ⟨b, e3, q⟩ := z2.ok S'
        cases e3
        exact q
  · cases h
theorem ge_or {a : E} {es : Es} (ha : GE L M k C a) (hs : GEs L M k C es) : GE L M k C (.or a es) := by
  intro X W pe g tk h
  unfold chkE at h
  split at h
  · rename_i pa pb l pos
    rw [Bool.and_eq_true] at h
    obtain ⟨p1, p2⟩ := ha X W pa g tk h.1
    obtain ⟨_, q2⟩ := hs X W _ g tk h.2
    obtain ⟨a1, a2, a3⟩ := q2 (by simp) pos
    refine ⟨(pe_or p1 a2).imp fun σ H Q z => ?_, fun ht => ((pw_or (p2 (by
      have ht : (tstB a && tstBs es) = true := ht
      rw [Bool.and_eq_true] at ht
      exact ht.1)) (a3 (by
      have ht : (tstB a && tstBs es) = true := ht
      rw [Bool.and_eq_true] at ht
      exact ht.2)).2).imp fun σ H Q z => ?_).pt⟩
    · obtain ⟨ρ, μ, st, S, n, z⟩ := z
      refine tE_bind S n z fun u x st' H' μ' e S' n' r z => ?_
      obtain ⟨b, eb, z2⟩ := onB_cases z
      subst eb
      refine ⟨b, r, ?_⟩
      cases b with
      | false => exact ⟨ρ, μ', st', S', n', z2⟩
      | true => exact (gd_of S' z2).val rfl
    · obtain ⟨ρ, μ, st, S, n, z⟩ := z
      refine ⟨ρ, μ, st, S, n, z.bind.mono fun a st' H' μ' ex S' q => ?_⟩
      obtain ⟨b, eb, z2⟩ := onB_cases q
      refine ⟨b, eb, ?_⟩
      cases b with
      | false => exact ⟨ρ, μ', st', S', n.ext ex, z2⟩
      | true =>
        obtain ⟨b, e3, q⟩ := z2.ok S'
        cases e3
        exact q
  · cases h
theorem ge_not {a : E} (ha : GE L M k C a) : GE L M k C (.not a) := by
  intro X W pe g tk h
  unfold chkE at h
  split at h
  · rename_i pa pos
    obtain ⟨p1, p2⟩ := ha X W pa g tk h
    refine ⟨(pe_not p1).imp fun σ H Q z => ?_, fun ht => (pt_not (p2 ht)).imp fun σ H Q z => ?_⟩
    · obtain ⟨ρ, μ, st, S, n, z⟩ := z
      refine tE_bind S n z fun u x st' H' μ' e S' n' r z => ?_
      split at z
      · rename_i b
        exact ⟨b, r, (gd_of S' z).val rfl⟩
      · exact z.elim
    · obtain ⟨ρ, μ, st, S, n, z⟩ := z
      refine ⟨ρ, μ, st, S, n, z.bind.mono fun a st' H' μ' ex S' q => ?_⟩
      split at q
      · rename_i b
        obtain ⟨c, e3, q⟩ := q.ok S'
        cases e3
        exact ⟨b, rfl, q⟩
      · exact q.elim
  · cases h
theorem ge_ife {c a b : E} (hc : GE L M k C c) (ha : GE L M k C a) (hb : GE L M k C b) : GE L M k C (.ife c a b) := by
  intro X W pe g tk h
  cases pe with
  | IfExp pc pa pb pos =>
    have h : (tstB c && chkE M X.N c X.env.scope pc && chkE M X.N a X.env.scope pa && chkE M X.N b X.env.scope pb) = true := h
    simp only [Bool.and_eq_true] at h
    obtain ⟨⟨⟨h1, h2⟩, h3⟩, h4⟩ := h
    refine ⟨(pe_ifExp ((hc X W pc g tk h2).2 h1) (ha X W pa g tk h3).1 (hb X W pb g tk h4).1).imp fun σ H Q z => ?_, fun ht => by cases ht⟩
    obtain ⟨ρ, μ, st, S, n, z⟩ := z
    refine tT_bind (t := fun st => evE C a ρ st) (f := fun st => evE C b ρ st) S n z fun d st' H' μ' e S' n' z => ?_
    cases d with
    | true => exact ⟨ρ, μ', st', S', n', z⟩
    | false => exact ⟨ρ, μ', st', S', n', z⟩
  | _ => cases h
theorem IxR.ex {r : XK → R2} (h : ∀ E, IxR X (r E)) : IxR X (fun x y H Q => ∃ E, r E x y H Q) := by
  intro value slice pins s σ H x y v u Q I rx ry q hs
  obtain ⟨E, q⟩ := q
  exact h E value slice pins s σ H x y v u Q I rx ry q hs
theorem MtR.ex {id : String} {r : XK → V → List V → Hp → VK → Prop} (h : ∀ E, MtR X id (r E)) : MtR X id (fun x y H Q => ∃ E, r E x y H Q) := by
  intro pins s σ H x xs v us Q I rx rs q
  obtain ⟨E, q⟩ := q
  exact h E pins s σ H x xs v us Q I rx rs q
theorem CallR.ex {f : Value} {r : XK → List V → Hp → VK → Prop} (h : ∀ E, CallR X f (r E)) : CallR X f (fun x H Q => ∃ E, r E x H Q) := by
  intro pins s σ H xs us Q I rs q
  obtain ⟨E, q⟩ := q
  exact h E pins s σ H xs us Q I rs q
theorem ge_idx {a b : E} (ha : GE L M k C a) (hb : GE L M k C b) : GE L M k C (.idx a b) := by
  intro X W pe g tk h
  cases pe with
  | Subscript pa pb pos =>
    have h : (chkE M X.N a X.env.scope pa && chkE M X.N b X.env.scope pb) = true := h
    rw [Bool.and_eq_true] at h
    have main : PE X (.Subscript pa pb pos) (tE L W C (.idx a b)) := (pe_ix (IxR.ex fun E => ix_ok (E := E) g) (ha X W pa g tk h.1).1 (hb X W pb g tk h.2).1 (chk_ix h.2)).imp fun σ H Q z => by
      obtain ⟨ρ, μ, st, S, n, z⟩ := z
      refine tE_bind S n z fun u x st' H' μ' e S' n' r z => ?_
      refine tE_bind S' n' z fun v y st2 H2 μ2 e2 S2 n2 r2 z => ?_
      exact ⟨_, u, v, μ2, st2, S2, r.ext e2, r2, z⟩
    exact ⟨main, fun _ => pt_plain main (by intro _; rfl)⟩
  | _ => cases h
/-- a slice of data -/
def rSlD (K : PySem.W.Frag) : V → Option Int → Option Int → Hp → VK → Prop := fun x lo hi H Q => ∃ a z, RW K H a x ∧ Ev.cutD a lo hi = some z ∧ GD K H z Q
theorem sIx_same (n d : Nat) (o : Option Int) : Ev.sIx n d o = HT.sIx n d o := by
  cases o with
  | none => rfl
  | some i =>
    show (if 0 ≤ i then min i.toNat n else (i + n).toNat) = if i < 0 then (i + n).toNat else min i.toNat n
    by_cases h : 0 ≤ i
    · rw [if_pos h, if_neg (by omega)]
    · rw [if_neg h, if_pos (by omega)]
theorem cut_rd {K : PySem.W.Frag} {H : Hp} {xs : List D} {vs : List V} {lo hi : Option Int} (r : RDs K H xs vs) : RDs K H (cut xs lo hi) (cutV vs lo hi) := by
  unfold cut cutV
  rw [r.len, sIx_same, sIx_same]
  exact (r.drop _).take _
theorem cut_le {α : Type} (xs : List α) (lo hi : Option Int) : (cut xs lo hi).length ≤ xs.length := by
  unfold cut
  rw [List.length_take, List.length_drop]
  omega
theorem slR_D : SlR X (rSlD X.K) := by
  intro pins s σ H x v vl vu lo hi sl Q I rx hs pl pu h
  obtain ⟨a, z, ra, hz, q⟩ := h
  unfold Ev.cutD at hz
  split at hz
  · rename_i t
    cases hz
    obtain ⟨rfl, l1, c1⟩ := ra.str
    refine sl_str pins s σ H _ v vl vu lo hi sl Q I rx hs pl pu ⟨_, rfl, by rw [str_len, ← line_eq]; exact l1, ?_⟩
    have e : cutS ⟨t.toArray⟩ lo hi = ⟨(cut t lo hi).toArray⟩ := by
      unfold cutS cut
      rw [str_len, sIx_same, sIx_same]
    rw [e]
    exact q.val ⟨rfl, Nat.le_trans (cut_le _ _ _) l1, fun c hc => c1 c (List.mem_of_mem_drop (List.mem_of_mem_take hc))⟩
  · rename_i xs
    cases hz
    obtain ⟨p, vs, rfl, h1, l1, r1⟩ := ra.tup
    refine sl_tupA pins s σ H _ v vl vu lo hi sl Q I rx hs pl pu ⟨p, vs, rfl, h1, fun hw => ?_, fun hw p3 hp => ?_⟩
    · have e : cut xs lo hi = xs := by
        unfold cut
        rw [sIx_same, sIx_same, ← r1.len, hw.1, hw.2, List.drop_zero, Nat.sub_zero, r1.len, List.take_length]
      rw [e] at q
      exact q.val ⟨p, vs, rfl, h1, l1, r1⟩
    · exact q.tup (Nat.le_trans (cut_le _ _ _) l1) (cut_rd r1) hp
  · rename_i xs
    cases hz
    obtain ⟨p, vs, rfl, h1, l1, r1⟩ := ra.lst
    obtain ⟨T, id, a1, a2, a3⟩ := sl_list pins s σ H _ v vl vu lo hi sl (QL Q) I rx hs pl pu ⟨p, vs, rfl, h1, fun p3 hp => q.lst (Nat.le_trans (cut_le _ _ _) l1) (cut_rd r1) hp⟩
    exact ⟨T, id, a1, a2, EP_lkw a3⟩
  · cases hz
theorem ge_slc {a : E} {lo hi : Po} (ha : GE L M k C a) (hl : GPo L M k C lo) (hh : GPo L M k C hi) : GE L M k C (.slc a lo hi) := by
  intro X W pe g tk h
  unfold chkE at h
  split at h
  · rename_i pa pl ph p2 pos
    simp only [Bool.and_eq_true] at h
    have main : PE X (.Subscript pa (.Slice pl ph none p2) pos) (tE L W C (.slc a lo hi)) := (pe_slice slR_D (ha X W pa g tk h.1.1).1 ((hl X W g tk).1 pl h.1.2) ((hh X W g tk).1 ph h.2)).imp fun σ H Q z => by
      obtain ⟨ρ, μ, st, S, n, z⟩ := z
      refine tE_bind S n z fun u x st' H' μ' e S' n' r z => ?_
      refine tPo_bind S' n' z fun v st2 H2 μ2 e2 S2 n2 z => ?_
      refine tPo_bind S2 n2 z fun w st3 H3 μ3 e3 S3 n3 z => ?_
      obtain ⟨c, e4, z⟩ := onD_cases z
      obtain ⟨d, e5, z⟩ := ofO_cases z
      have q1 := rawV_rw S3 ((r.ext e2).ext e3) e4
      have q2 := gd_of S3 z
      rw [← g.K] at q1 q2
      exact ⟨c, d, q1, e5, q2⟩
    exact ⟨main, fun _ => pt_plain main (by intro _; rfl)⟩
  · cases h
theorem ge_rev {a : E} (ha : GE L M k C a) : GE L M k C (.rev a) := by
  intro X W pe g tk h
  unfold chkE at h
  split at h
  · rename_i pa j p1 p2 p3 pos
    have main := (PE.lk (pe_revA (X := X) (k := j) (p1 := p1) (p2 := p2) (p3 := p3) (pos := pos) (ha X W pa g tk h).1)).imp (t' := tE L W C (.rev a)) fun σ H Q z => by
      obtain ⟨ρ, μ, st, S, n, z⟩ := z
      refine tE_bind S n z fun u x st' H' μ' e S' n' r z => ?_
      obtain ⟨c, e4, z⟩ := onD_cases z
      obtain ⟨d, e5, z⟩ := ofO_cases z
      have q1 := rawV_rw S' r e4
      have q2 := gd_of S' z
      unfold revD at e5
      split at e5
      · rename_i t
        cases e5
        obtain ⟨rfl, l1, c1⟩ := q1.str
        refine .inl ⟨t, rfl, by rw [← line_eq]; exact l1, .inl (q2.val ⟨rfl, by rw [List.length_reverse]; exact l1, fun c hc => c1 c (List.mem_reverse.mp hc)⟩)⟩
      · rename_i xs
        cases e5
        obtain ⟨p, vs, rfl, h1, l1, r1⟩ := q1.lst
        rw [← g.K] at h1
        exact .inr ⟨p, vs, rfl, h1, fun p3 hp => q2.lst (by rw [List.length_reverse]; exact l1) r1.rev hp⟩
      · cases e5
    exact ⟨main, fun _ => pt_plain main (by intro _; rfl)⟩
  · cases h
theorem ge_call (hC : CxOk L M k C) {i : Nat} {es : Es} (hs : GEs L M k C es) : GE L M k C (.call i es) := by
  intro X W pe g tk h
  unfold chkE at h
  split at h
  · rename_i x p l pos
    simp only [Bool.and_eq_true] at h
    obtain ⟨hd, fd, ps, F, e1, e2, e3⟩ := hC.fn i x (nm_of h.1.1)
    have F' := F
    rw [← g.P, ← g.w, ← g.K, ← g.mg, ← g.base] at F'
    rw [← g.mg] at e1
    rw [← g.K] at e2 e3
    have ha := (hs X W l g tk h.2).1
    have main : PE X (.Call (.Name x p) l [] pos) (tE L W C (.call i es)) := by
      have z := h.2
      cases l with
      | nil =>
        refine (pe_callS0 (E := WE W) F' g.room (gl_of h.1.2) e1 e2 e3 (passAt tk) hd).imp fun σ H Q z => ?_
        obtain ⟨ρ, μ, st, S, n, z⟩ := z
        have en : es = .nil := by
          cases es with
          | nil => rfl
          | cons _ _ => cases h.2
        subst en
        exact ⟨[], μ, st, S, rfl, z⟩
      | cons pa l =>
        cases es with
        | nil => cases z
        | cons e es =>
          have z : (chkE M X.N e X.env.scope pa && chkEs M X.N es X.env.scope l) = true := z
          rw [Bool.and_eq_true] at z
          refine (pe_callS (E := WE W) F' g.room (gl_of h.1.2) e1 e2 e3 (passAt tk) ha hd (chk_star z.1) (chk_plain z.2)).imp fun σ H Q z => ?_
          obtain ⟨ρ, μ, st, S, n, z⟩ := z
          exact tA_bind S n z fun u x st' H' μ' e S' n' r z => ⟨u, μ', st', S', r, z⟩
    exact ⟨main, fun _ => pt_plain main (by intro _; rfl)⟩
  · cases h
theorem blt_pe (hC : CxOk L M k C) (g : Gd L k X) {b : Bf} {x : Str} {p pos : Pos} {pa : Expr} {l : List Expr} {t : TA} (hb : bltOk b = true) (hx : isB X.env.scope (bltN b) x = true) (ha : PA X (pa :: l) t)
    (h1 : starEach (pa :: l) X.env = (false, eval pa X.env) :: starEach l X.env) (h2 : (backTo pos (starEach l X.env)).any (·.1) = false) : PE X (.Call (.Name x p) (pa :: l) [] pos) (tCB (fun vs H Q => ∃ E, rBltV L E b vs H Q) t) := by
  obtain ⟨rfl, hg⟩ := isB_of hx
  have hm : ∀ n ∈ bnames, X.mg n = none := fun n hn => by rw [g.mg]; exact hC.blt n hn
  cases b with
  | isi t => cases hb
  | sorted => cases hb
  | str => cases hb
  | len => exact pe_callB (CallR.ex fun E => len_ok (E := E) g) hg (hm _ (by decide)) boot_len ha (by decide) (by decide) h1 h2
  | all => exact pe_callB (CallR.ex fun E => all_ok (E := E) g) hg (hm _ (by decide)) boot_all ha (by decide) (by decide) h1 h2
  | any => exact pe_callB (CallR.ex fun E => any_ok (E := E) g) hg (hm _ (by decide)) boot_any ha (by decide) (by decide) h1 h2
  | tuple => exact pe_callTy (CallR.ex fun E => tuple_ok (E := E) g) hg (hm _ (by decide)) boot_tuple ha (by decide) (by decide) h1 h2
  | list => exact pe_callTy (CallR.ex fun E => list_ok (E := E) g) hg (hm _ (by decide)) boot_list ha (by decide) (by decide) h1 h2
  | int => exact pe_callTy (CallR.ex fun E => int_ok (E := E) g) hg (hm _ (by decide)) boot_int ha (by decide) (by decide) h1 h2
  | bool => exact pe_callTy (CallR.ex fun E => bool_ok (E := E) g) hg (hm _ (by decide)) boot_bool ha (by decide) (by decide) h1 h2
  | abs => exact pe_callB (CallR.ex fun E => abs_ok (E := E) g) hg (hm _ (by decide)) boot_abs ha (by decide) (by decide) h1 h2
  | min => exact pe_callB (CallR.ex fun E => min_ok (E := E) g) hg (hm _ (by decide)) boot_min ha (by decide) (by decide) h1 h2
  | max => exact pe_callB (CallR.ex fun E => max_ok (E := E) g) hg (hm _ (by decide)) boot_max ha (by decide) (by decide) h1 h2
end
end EvS

namespace EvS
open PySem PySem.Spec PyProof.Rows L2 Ev
variable {L : Lw} {M : Nm} {k : Nat} {C : Ev.Ctx}
section
variable {X : L2.Cx} {W : WX} {pe : Expr}
theorem ge_isi (hC : CxOk L M k C) {t : Ty} {e : E} (he : GE L M k C e) : GE L M k C (.blt (.isi t) (.cons e .nil)) := by
  intro X W pe g tk h
  unfold chkE at h
  simp only at h
  split at h
  · rename_i x p pa y p2 pos
    simp only [Bool.and_eq_true] at h
    obtain ⟨⟨h1, h2⟩, h3⟩ := h
    have h3 : (chkE M X.N e X.env.scope pa && true) = true := h3
    rw [Bool.and_true] at h3
    obtain ⟨rfl, g1⟩ := isB_of h1
    obtain ⟨rfl, g2⟩ := isB_of h2
    have hm : ∀ n ∈ bnames, X.mg n = none := fun n hn => by rw [g.mg]; exact hC.blt n hn
    have hy : PE X (.Name (Str.ofString (tyS t)) p2) (tC (.ty (tyS t))) := by
      cases t
      · exact pe_bltn g2 (hm _ (by decide)) boot_int rfl (by decide) (by decide)
      · exact pe_bltn g2 (hm _ (by decide)) boot_bool rfl (by decide) (by decide)
      · exact pe_bltn g2 (hm _ (by decide)) boot_str rfl (by decide) (by decide)
      · exact pe_bltn g2 (hm _ (by decide)) boot_tuple rfl (by decide) (by decide)
      · exact pe_bltn g2 (hm _ (by decide)) boot_list rfl (by decide) (by decide)
    have main : PE X (.Call (.Name (Str.ofString "isinstance") p) [pa, .Name (Str.ofString (tyS t)) p2] [] pos) (tE L W C (.blt (.isi t) (.cons e .nil))) :=
      (pe_callB (CallR.ex fun E => isi_ok (E := E) g t) g1 (hm _ (by decide)) boot_isinstance (pa_cons (he X W pa g tk h3).1 (pa_cons hy pa_nil (by rfl)) (chk_star h3)) (by decide) (by decide) (chk_star h3) (by rfl)).imp fun σ H Q z => by
        obtain ⟨ρ, μ, st, S, n, z⟩ := z
        have z : RQ L H μ (WE W σ) (((evE C e ρ st).bind fun v st => (R.ok [] st).bind fun vs st => R.ok (v :: vs) st).bind fun vs st => onD (rawVs st vs) fun xs => ofO (bltD (.isi t) xs) st) (QV (L := L) Q) := z
        have z2 : RQ L H μ (WE W σ) ((evE C e ρ st).bind fun v st => onD (rawVs st [v]) fun xs => ofO (bltD (.isi t) xs) st) (QV (L := L) Q) := by
          cases q : evE C e ρ st with
          | ok a s => rw [q] at z; exact z
          | ex c fs s => rw [q] at z; exact z
          | no => rw [q] at z; exact z
        refine tE_bind S n z2 fun u x st' H' μ' e S' n' r z => ?_
        exact ⟨_, x, rfl, [u], μ', st', S', ⟨x, [], rfl, r, rfl⟩, z⟩
    exact ⟨main, fun _ => pt_plain main (by intro _; rfl)⟩
  · cases h
theorem ge_blt (hC : CxOk L M k C) {b : Bf} {es : Es} (hb : ∀ t, b ≠ .isi t) (hs : GEs L M k C es) : GE L M k C (.blt b es) := by
  intro X W pe g tk h
  have h : (match (generalizing := false) pe with
      | .Call (.Name x _) (pa :: l) [] _ => bltOk b && isB X.env.scope (bltN b) x && chkEs M X.N es X.env.scope (pa :: l)
      | _ => false) = true := by
    cases b with
    | isi t => exact absurd rfl (hb t)
    | _ =>
      unfold chkE at h
      exact h
  split at h
  · rename_i x p pa l pos _
    simp only [Bool.and_eq_true] at h
    obtain ⟨⟨h1, h2⟩, h3⟩ := h
    cases es with
    | nil => cases h3
    | cons e es =>
      have h4 : (chkE M X.N e X.env.scope pa && chkEs M X.N es X.env.scope l) = true := h3
      rw [Bool.and_eq_true] at h4
      have main : PE X (.Call (.Name x p) (pa :: l) [] pos) (tE L W C (.blt b (.cons e es))) := (blt_pe hC g h1 h2 (hs X W _ g tk h3).1 (chk_star h4.1) (chk_plain h4.2)).imp fun σ H Q z => by
        obtain ⟨ρ, μ, st, S, n, z⟩ := z
        refine tA_bind S n z fun u x st' H' μ' e S' n' r z => ?_
        exact ⟨_, u, μ', st', S', r, z⟩
      exact ⟨main, fun _ => pt_plain main (by intro _; rfl)⟩
  · cases h
theorem kindM_list {m : Mf} {u : Vl} {x : V} {H : Hp} {μ : Mu} {st : Sto} (hm : m = .append ∨ m = .pop) (h : kindM m u st = true) (S : Sim L H μ st) (rv : RV L H μ u x) : ∃ a xs, x = .ref a ∧ H a = some (.lst xs) := by
  have : ∃ r xs, u = .ref r ∧ st[r]? = some (.lst xs) := by
    rcases hm with rfl | rfl
    all_goals
      cases u with
      | ref r =>
        have h : (match (generalizing := false) st[r]? with
          | some (.lst _) => true
          | _ => false) = true := h
        split at h
        · rename_i xs e
          exact ⟨r, xs, rfl, e⟩
        · cases h
      | _ => cases h
  obtain ⟨r', xs, rfl, e⟩ := this
  obtain ⟨a, vs, rfl, _, h2, _⟩ := lst_cell S rv e
  exact ⟨a, vs, rfl, h2⟩
end
end EvS

namespace EvS
open PySem PySem.Spec PyProof.Rows L2 Ev
variable {L : Lw} {M : Nm} {k : Nat} {C : Ev.Ctx}
section
variable {X : L2.Cx} {W : WX} {pe : Expr}
theorem kindM_dict {u : Vl} {x : V} {H : Hp} {μ : Mu} {st : Sto} (h : kindM .get2 u st = true) (S : Sim L H μ st) (rv : RV L H μ u x) : ∃ a P w xs, x = .ref a ∧ H a = some (DicO P w a xs) := by
  cases u with
  | ref r =>
    have h : (match (generalizing := false) st[r]? with
      | some (.dic _) => true
      | _ => false) = true := h
    split at h
    · rename_i xs e
      obtain ⟨a, vs, rfl, _, h2, _⟩ := dic_cell S rv e
      exact ⟨a, _, _, vs, rfl, h2⟩
    · cases h
  | _ => cases h
theorem mth_go {m : Mf} {o : E} {es : Es} {σ : L2.St} {H : Hp} {Q : VK} {P : V → Hp → Prop} (hP : ∀ (u : Vl) (x : V) (H : Hp) (μ : Mu) (st : Sto), kindM m u st = true → Sim L H μ st → RV L H μ u x → P x H)
    (z : tE L W C (.mth m o es) σ H Q) : tMB P (fun x xs H Q => ∃ E, rMtV L E m x xs H Q) (tE L W C o) (tA L W C es) σ H Q := by
  obtain ⟨ρ, μ, st, S, n, z⟩ := z
  refine tE_bind S n z fun u x st' H' μ' e S' n' r z => ?_
  split at z
  · rename_i hk
    refine ⟨hP u x H' μ' st' hk S' r, ?_⟩
    refine tA_bind S' n' z fun v y st2 H2 μ2 e2 S2 n2 r2 z => ?_
    exact ⟨_, u, v, μ2, st2, S2, r.ext e2, r2, z⟩
  · exact z.elim
theorem ge_mth {m : Mf} {o : E} {es : Es} (ho : GE L M k C o) (hs : GEs L M k C es) : GE L M k C (.mth m o es) := by
  intro X W pe g tk h
  unfold chkE at h
  split at h
  · rename_i po nm apos l cpos
    simp only [Bool.and_eq_true] at h
    obtain ⟨⟨⟨⟨⟨⟨h0, h1⟩, h2⟩, h3⟩, h4⟩, h5⟩, h6⟩ := h
    have e1 := of_decide_eq_true h1
    subst e1
    have hbase : ∀ nm, attributeBase po nm X.env (eval po X.env) = eval po X.env := fun nm => by
      cases po with
      | Name _ _ => rfl
      | _ => cases h2
    have p1 := (ho X W po g tk h3).1
    have p2 := (hs X W l g tk h4).1
    have hl := of_decide_eq_true h6
    have main : PE X (.Call (.Attribute po (Str.ofString (mthN m)) apos) l [] cpos) (tE L W C (.mth m o es)) := by
      cases m with
      | append =>
        match l, es, hl with
        | [pa], .cons e es, _ =>
          have h7 : (chkE M X.N e X.env.scope pa && chkEs M X.N es X.env.scope []) = true := h4
          rw [Bool.and_eq_true] at h7
          exact (pe_mb ty_list PySem.F.plainAttrs_list PySem.F.slot_list_append PySem.F.type_list_append (MtR.ex fun E => append_ok (E := E) g) p1 p2 (hbase _) (by rw [chk_star h7.1]; rfl) h5 (chk_star h7.1) (chk_plain h7.2)).imp fun σ H Q z => mth_go (fun u x H μ st hk S r => kindM_list (.inl rfl) hk S r) z
        | [pa], .nil, _ => cases h4
      | pop =>
        match l, es, hl with
        | [], .nil, _ =>
          refine (pe_mb0 ty_list PySem.F.plainAttrs_list PySem.F.slot_list_pop PySem.F.type_list_pop (MtR.ex fun E => pop_ok (E := E) g) p1 (hbase _) h5).imp fun σ H Q z => ?_
          obtain ⟨ρ, μ, st, S, n, z⟩ := z
          refine tE_bind S n z fun u x st' H' μ' e S' n' r z => ?_
          split at z
          · rename_i hk
            refine ⟨kindM_list (.inr rfl) hk S' r, ?_⟩
            exact ⟨_, u, [], μ', st', S', r, rfl, z⟩
          · exact z.elim
        | [], .cons _ _, _ => cases h4
      | get2 =>
        match l, es, hl with
        | [pa, pb], .cons e es, _ =>
          have h7 : (chkE M X.N e X.env.scope pa && chkEs M X.N es X.env.scope [pb]) = true := h4
          rw [Bool.and_eq_true] at h7
          have hb : starEach [pb] X.env = (false, eval pb X.env) :: starEach [] X.env := by
            cases es with
            | nil => cases h7.2
            | cons e2 es =>
              have h8 : (chkE M X.N e2 X.env.scope pb && chkEs M X.N es X.env.scope []) = true := h7.2
              rw [Bool.and_eq_true] at h8
              exact chk_star h8.1
          exact (pe_mb ty_dict PySem.F.plainAttrs_dict PySem.F.slot_dict_get PySem.F.type_dict_get (MtR.ex fun E => get2_ok (E := E) g) p1 p2 (hbase _) (by rw [chk_star h7.1, hb]; rfl) h5 (chk_star h7.1) (chk_plain h7.2)).imp fun σ H Q z => mth_go (fun u x H μ st hk S r => kindM_dict hk S r) z
        | [pa, pb], .nil, _ => cases h4
      | _ => cases h0
    exact ⟨main, fun _ => pt_plain main (by intro _; rfl)⟩
  · cases h
end
end EvS

/-! what the own trees compute: rules for plain data -/
namespace Ev
@[simp] theorem bind_ok {α β : Type} (a : α) (s : Sto) (f : α → Sto → R β) : (R.ok a s).bind f = f a s := rfl
@[simp] theorem bind_no {α β : Type} (f : α → Sto → R β) : (R.no : R α).bind f = .no := rfl
@[simp] theorem out_ok {α : Type} (a : α) (s : Sto) (ρ : En) (f : α → Sto → O) : (R.ok a s).out ρ f = f a s := rfl
@[simp] theorem then_nx (ρ : En) (s : Sto) (f : En → Sto → O) : (O.nx ρ s).then f = f ρ s := rfl
@[simp] theorem then_rt (v : Vl) (s : Sto) (f : En → Sto → O) : (O.rt v s).then f = O.rt v s := rfl
@[simp] theorem then_bk (ρ : En) (s : Sto) (f : En → Sto → O) : (O.bk ρ s).then f = O.bk ρ s := rfl
@[simp] theorem then_ct (ρ : En) (s : Sto) (f : En → Sto → O) : (O.ct ρ s).then f = O.ct ρ s := rfl
@[simp] theorem onB_bl {α : Type} (b : Bool) (t f : R α) : onB (.d (.bl b)) t f = bif b then t else f := by cases b <;> rfl
@[simp] theorem onD_some {α : Type} (a : α) (f : α → R Vl) : onD (some a) f = f a := rfl
@[simp] theorem ofO_some (a : D) (s : Sto) : ofO (some a) s = .ok (.d a) s := rfl
@[simp] theorem ofB_some (a : Bool) (s : Sto) : ofB (some a) s = .ok (.d (.bl a)) s := rfl
@[simp] theorem res_nx (ρ : En) (s : Sto) : (O.nx ρ s).res = .ok (.d .non) s := rfl
@[simp] theorem res_rt (v : Vl) (s : Sto) : (O.rt v s).res = .ok v s := rfl
@[simp] theorem back_ok (x : D) (s st : Sto) : (R.ok (.d x) s).back st = .ok (.d x) st := rfl
@[simp] theorem rawV_d (x : D) (st : Sto) : rawV st (.d x) = some x := rfl
@[simp] theorem rawVs_nil (st : Sto) : rawVs st [] = some [] := rfl
@[simp] theorem rawVs_d (x : D) (vs : List Vl) (st : Sto) : rawVs st (.d x :: vs) = (rawVs st vs).map (x :: ·) := by
  show (match rawVs st vs with
    | none => none
    | some xs => some (x :: xs)) = _
  cases rawVs st vs <;> rfl
@[simp] theorem datVs_nil : datVs [] = some [] := rfl
@[simp] theorem datVs_d (x : D) (vs : List Vl) : datVs (.d x :: vs) = (datVs vs).map (x :: ·) := by
  show (match datVs vs with
    | none => none
    | some xs => some (x :: xs)) = _
  cases datVs vs <;> rfl
theorem call_alone {T : Tab} {n g : Nat} {f : Fd} {vs : List Vl} {st : Sto} (hf : T.fns[g]? = some f) (hl : vs.length = f.np) (ha : f.alone = true) (hp : Vl.pures vs = true) : (T.cx (n + 1)).call g vs st = (evSs (T.cx n) f.body (begin_ f.nn vs) []).res.back st := by
  show (match T.fns[g]? with
    | none => _
    | some f => _) = _
  rw [hf]
  simp only
  rw [if_pos hl, if_pos ha, if_pos hp]
theorem call_open {T : Tab} {n g : Nat} {f : Fd} {vs : List Vl} {st : Sto} (hf : T.fns[g]? = some f) (hl : vs.length = f.np) (ha : f.alone = false) : (T.cx (n + 1)).call g vs st = (evSs (T.cx n) f.body (begin_ f.nn vs) st).res := by
  show (match T.fns[g]? with
    | none => _
    | some f => _) = _
  rw [hf]
  simp only
  rw [if_pos hl, if_neg (by rw [ha]; exact Bool.false_ne_true)]
/-- a for that runs through -/
theorem for_inv {step : D → En → Sto → O} (I : Nat → En → Sto → Prop) : ∀ (xs : List D) (j : Nat) (ρ : En) (st : Sto), (∀ i x ρ st, xs[i]? = some x → I (j + i) ρ st → ∃ ρ' st', (step x ρ st = .nx ρ' st' ∨ step x ρ st = .ct ρ' st') ∧ I (j + i + 1) ρ' st') → I j ρ st →
    ∃ ρ' st', forLoop step xs ρ st = .nx ρ' st' ∧ I (j + xs.length) ρ' st'
  | [], j, ρ, st, _, h0 => ⟨ρ, st, rfl, h0⟩
  | x :: xs, j, ρ, st, h, h0 => by
    obtain ⟨ρ1, st1, h1, h2⟩ := h 0 x ρ st rfl h0
    obtain ⟨ρ2, st2, h3, h4⟩ := for_inv I xs (j + 1) ρ1 st1 (fun i y ρ st hy hi => by
      have := h (i + 1) y ρ st hy (by rw [show j + (i + 1) = j + 1 + i by omega]; exact hi)
      rw [show j + (i + 1) = j + 1 + i by omega] at this
      exact this) h2
    refine ⟨ρ2, st2, ?_, by rw [List.length_cons, show j + (xs.length + 1) = j + 1 + xs.length by omega]; exact h4⟩
    unfold forLoop
    rcases h1 with h1 | h1
    · rw [h1]; exact h3
    · rw [h1]; exact h3
/-- a comprehension whose turns leave the store as it is -/
theorem lc_pure {step : D → Sto → R (Option D)} {f : D → Option D} {st : Sto} : ∀ {xs : List D}, (∀ x ∈ xs, step x st = .ok (f x) st) → lcLoop step xs st = .ok (xs.filterMap f) st
  | [], _ => rfl
  | x :: xs, h => by
    unfold lcLoop
    rw [h x List.mem_cons_self]
    simp only
    rw [lc_pure fun y hy => h y (List.mem_cons_of_mem _ hy)]
    simp only
    rw [List.filterMap_cons]
    cases f x <;> rfl
/-! ### the trees, one by one (a comprehension and a loop are left alone) -/
section
variable (C : Ctx) (ρ : En) (st : Sto)
@[simp] theorem e_cst (d : D) : evE C (.cst d) ρ st = .ok (.d d) st := rfl
@[simp] theorem e_var (i : Nat) : evE C (.var i) ρ st = match ρ.get i with
    | some v => .ok v st
    | none => .no := rfl
@[simp] theorem e_glo (k : Nat) : evE C (.glo k) ρ st = match C.con k with
    | some v => .ok v st
    | none => .no := rfl
@[simp] theorem e_frz (i : Nat) : evE C (.frz i) ρ st = match ρ.get i with
    | some (.ref r) => match st[r]? with
      | some (.lst xs) => .ok (.d (.lst xs)) (st.set r .dead)
      | _ => .no
    | _ => .no := rfl
@[simp] theorem e_tup (es : Es) : evE C (.tup es) ρ st = (evEs C es ρ st).bind fun vs st => onD (datVs vs) fun xs => .ok (.d (.tup xs)) st := rfl
@[simp] theorem e_lst (es : Es) : evE C (.lst es) ρ st = (evEs C es ρ st).bind fun vs st => onD (datVs vs) fun xs => .ok (.d (.lst xs)) st := rfl
@[simp] theorem e_new (es : Es) : evE C (.new es) ρ st = (evEs C es ρ st).bind fun vs st => onD (datVs vs) fun xs => .ok (.ref st.length) (st ++ [.lst xs]) := rfl
@[simp] theorem e_bin (o : Op) (a b : E) : evE C (.bin o a b) ρ st = (evE C a ρ st).bind fun u st => (evE C b ρ st).bind fun v st => onD (rawV st u) fun x => onD (rawV st v) fun y => ofO (opD o x y) st := rfl
@[simp] theorem e_neg (a : E) : evE C (.neg a) ρ st = (evE C a ρ st).bind fun v st => match v with
    | .d (.int i) => .ok (.d (.int (-i))) st
    | _ => .no := rfl
@[simp] theorem e_cmp (o : Cop) (a b : E) : evE C (.cmp o a b) ρ st = (evE C a ρ st).bind fun u st => (evE C b ρ st).bind fun v st => cmpV o u v st := rfl
@[simp] theorem e_chain (o o' : Cop) (a b c : E) : evE C (.chain o o' a b c) ρ st = (evE C a ρ st).bind fun u st => (evE C b ρ st).bind fun v st => (cmpV o u v st).bind fun k st =>
      onB k ((evE C c ρ st).bind fun w st => cmpV o' v w st) (.ok (.d (.bl false)) st) := rfl
@[simp] theorem e_isN (a : E) : evE C (.isN a) ρ st = (evE C a ρ st).bind fun v st => .ok (.d (.bl (noneV v))) st := rfl
@[simp] theorem e_notN (a : E) : evE C (.notN a) ρ st = (evE C a ρ st).bind fun v st => .ok (.d (.bl (!noneV v))) st := rfl
@[simp] theorem e_and (a : E) (es : Es) : evE C (.and a es) ρ st = (evE C a ρ st).bind fun v st => onB v (evAnd C es ρ st) (.ok (.d (.bl false)) st) := rfl
@[simp] theorem e_or (a : E) (es : Es) : evE C (.or a es) ρ st = (evE C a ρ st).bind fun v st => onB v (.ok (.d (.bl true)) st) (evOr C es ρ st) := rfl
@[simp] theorem e_not (a : E) : evE C (.not a) ρ st = (evE C a ρ st).bind fun v st => match v with
    | .d (.bl b) => .ok (.d (.bl (!b))) st
    | _ => .no := rfl
@[simp] theorem e_ife (c a b : E) : evE C (.ife c a b) ρ st = (evE C c ρ st).bind fun v st => onB v (evE C a ρ st) (evE C b ρ st) := rfl
@[simp] theorem e_idx (a i : E) : evE C (.idx a i) ρ st = (evE C a ρ st).bind fun u st => (evE C i ρ st).bind fun v st => idxV u v st := rfl
@[simp] theorem e_slc (a : E) (lo hi : Po) : evE C (.slc a lo hi) ρ st = (evE C a ρ st).bind fun u st => (evPo C lo ρ st).bind fun l st => (evPo C hi ρ st).bind fun h st =>
      onD (rawV st u) fun x => ofO (cutD x l h) st := rfl
@[simp] theorem e_rev (a : E) : evE C (.rev a) ρ st = (evE C a ρ st).bind fun u st => onD (rawV st u) fun x => ofO (revD x) st := rfl
@[simp] theorem e_call (g : Nat) (es : Es) : evE C (.call g es) ρ st = (evEs C es ρ st).bind fun vs st => C.call g vs st := rfl
@[simp] theorem e_blt (b : Bf) (es : Es) : evE C (.blt b es) ρ st = (evEs C es ρ st).bind fun vs st => onD (rawVs st vs) fun xs => ofO (bltD b xs) st := rfl
@[simp] theorem e_sset (a : E) : evE C (.sset a) ρ st = (evE C a ρ st).bind fun v st => onD (rawV st v) fun x => ofO (ssetD x) st := rfl
@[simp] theorem e_mth (m : Mf) (o : E) (es : Es) : evE C (.mth m o es) ρ st = (evE C o ρ st).bind fun u st => if kindM m u st then (evEs C es ρ st).bind fun vs st => mthD m u vs st else .no := rfl
@[simp] theorem es_nil : evEs C .nil ρ st = .ok [] st := rfl
@[simp] theorem es_cons (e : E) (es : Es) : evEs C (.cons e es) ρ st = (evE C e ρ st).bind fun v st => (evEs C es ρ st).bind fun vs st => .ok (v :: vs) st := rfl
@[simp] theorem and_one (e : E) : evAnd C (.cons e .nil) ρ st = evE C e ρ st := rfl
@[simp] theorem and_cons (e e2 : E) (es : Es) : evAnd C (.cons e (.cons e2 es)) ρ st = (evE C e ρ st).bind fun v st => onB v (evAnd C (.cons e2 es) ρ st) (.ok (.d (.bl false)) st) := rfl
@[simp] theorem or_one (e : E) : evOr C (.cons e .nil) ρ st = evE C e ρ st := rfl
@[simp] theorem or_cons (e e2 : E) (es : Es) : evOr C (.cons e (.cons e2 es)) ρ st = (evE C e ρ st).bind fun v st => onB v (.ok (.d (.bl true)) st) (evOr C (.cons e2 es) ρ st) := rfl
@[simp] theorem po_no : evPo C .no ρ st = .ok none st := rfl
@[simp] theorem po_e (a : E) : evPo C (.e a) ρ st = (evE C a ρ st).bind fun v st => match v with
    | .d (.int i) => .ok (some i) st
    | _ => .no := rfl
@[simp] theorem pb_no : evPoB C .no ρ st = .ok true st := rfl
@[simp] theorem pb_e (a : E) : evPoB C (.e a) ρ st = (evE C a ρ st).bind fun v st => match v with
    | .d (.bl i) => .ok i st
    | _ => .no := rfl
@[simp] theorem it_val (a : E) : evIt C (.val a) ρ st = (evE C a ρ st).bind fun v st => match v with
    | .d x => match itemsD x with
      | some xs => .ok xs st
      | none => .no
    | _ => .no := rfl
@[simp] theorem it_rng1 (a : E) : evIt C (.rng1 a) ρ st = (evE C a ρ st).bind fun v st => match v with
    | .d (.int i) => if i.natAbs ≤ line then .ok (rangeD 0 i.toNat) st else .no
    | _ => .no := rfl
@[simp] theorem it_rng2 (a b : E) : evIt C (.rng2 a b) ρ st = (evE C a ρ st).bind fun u st => (evE C b ρ st).bind fun v st => match u, v with
    | .d (.int i), .d (.int j) => if i.natAbs ≤ line / 2 && j.natAbs ≤ line / 2 then .ok (rangeD i (j - i).toNat) st else .no
    | _, _ => .no := rfl
@[simp] theorem it_zip (a b : E) : evIt C (.zip a b) ρ st = (evE C a ρ st).bind fun u st => (evE C b ρ st).bind fun v st => match u, v with
    | .d x, .d y => match zipV x y with
      | some zs => .ok zs st
      | none => .no
    | _, _ => .no := rfl
@[simp] theorem s_set (i : Nat) (e : E) : evS C (.set i e) ρ st = (evE C e ρ st).out ρ fun v st => .nx (ρ.put i v) st := rfl
@[simp] theorem s_unp (ts : Tgs) (e : E) : evS C (.unp ts e) ρ st = (evE C e ρ st).out ρ fun v st => match v with
    | .d (.tup xs) => match bindTs ts xs ρ with
      | some ρ' => .nx ρ' st
      | none => .no
    | _ => .no := rfl
@[simp] theorem s_par2 (i j : Nat) (a b : E) : evS C (.par2 i j a b) ρ st = (evE C a ρ st).out ρ fun u st => (evE C b ρ st).out ρ fun v st => .nx ((ρ.put i u).put j v) st := rfl
@[simp] theorem s_par3 (i j k : Nat) (a b c : E) : evS C (.par3 i j k a b c) ρ st = (evE C a ρ st).out ρ fun u st => (evE C b ρ st).out ρ fun v st => (evE C c ρ st).out ρ fun w st => .nx (((ρ.put i u).put j v).put k w) st := rfl
@[simp] theorem s_idx (o i e : E) : evS C (.idx o i e) ρ st = (evE C e ρ st).out ρ fun v st => (evE C o ρ st).out ρ fun u st => (evE C i ρ st).out ρ fun k st => match setV u k v st with
    | some st' => .nx ρ st'
    | none => .no := rfl
@[simp] theorem s_exp (e : E) : evS C (.exp e) ρ st = (evE C e ρ st).out ρ fun _ st => .nx ρ st := rfl
def onO (v : Vl) (t f : O) : O := match v with
  | .d (.bl true) => t
  | .d (.bl false) => f
  | _ => .no
@[simp] theorem onO_bl (b : Bool) (t f : O) : onO (.d (.bl b)) t f = bif b then t else f := by cases b <;> rfl
@[simp] theorem s_ite (c : E) (a b : Ss) : evS C (.ite c a b) ρ st = (evE C c ρ st).out ρ fun v st => onO v (evSs C a ρ st) (evSs C b ρ st) := by
  show ((evE C c ρ st).out ρ fun v st => match v with
    | .d (.bl true) => evSs C a ρ st
    | .d (.bl false) => evSs C b ρ st
    | _ => .no) = _
  congr 1
@[simp] theorem s_ret (e : E) : evS C (.ret e) ρ st = (evE C e ρ st).out ρ fun v st => .rt v st := rfl
@[simp] theorem s_retN : evS C .retN ρ st = .rt (.d .non) st := rfl
@[simp] theorem s_brk : evS C .brk ρ st = .bk ρ st := rfl
@[simp] theorem s_cnt : evS C .cnt ρ st = .ct ρ st := rfl
@[simp] theorem s_pas : evS C .pas ρ st = .nx ρ st := rfl
@[simp] theorem ss_nil : evSs C .nil ρ st = .nx ρ st := rfl
@[simp] theorem ss_cons (s : S) (r : Ss) : evSs C (.cons s r) ρ st = (evS C s ρ st).then fun ρ st => evSs C r ρ st := rfl
end
/-- a turn of a comprehension -/
def lcS (C : Ctx) (elt : E) (t : Tg) (c : Po) (own : List Nat) (ρ : En) : D → Sto → R (Option D) := fun x st => match bindT t x (ρ.wipe own) with
      | none => .no
      | some ρ' => (evPoB C c ρ' st).bind fun k st => match k with
        | false => .ok none st
        | true => (evE C elt ρ' st).bind fun v st => match v with
          | .d y => .ok (some y) st
          | _ => .no
theorem ev_lc {C : Ctx} {elt : E} {t : Tg} {it : It} {c : Po} {own : List Nat} {ρ : En} {st : Sto} (xs : List D) (f : D → Option D) (hit : evIt C it ρ st = .ok xs st) (hs : ∀ x ∈ xs, lcS C elt t c own ρ x st = .ok (f x) st) :
    evE C (.lc elt t it c own) ρ st = .ok (.d (.lst (xs.filterMap f))) st := by
  have e : evE C (.lc elt t it c own) ρ st = (evIt C it ρ st).bind fun xs st => (lcLoop (lcS C elt t c own ρ) xs st).bind fun ys st => .ok (.d (.lst ys)) st := rfl
  rw [e, hit, bind_ok, lc_pure hs]
  rfl
/-- a turn of a for -/
def forS (C : Ctx) (t : Tg) (b : Ss) : D → En → Sto → O := fun x ρ st => match bindT t x ρ with
      | some ρ' => evSs C b ρ' st
      | none => .no
theorem ev_for {C : Ctx} {t : Tg} {it : It} {b : Ss} {ρ : En} {st : Sto} {xs : List D} {st1 : Sto} (hit : evIt C it ρ st = .ok xs st1) :
    evS C (.for_ t it b) ρ st = forLoop (forS C t b) xs ρ st1 := by
  have e : evS C (.for_ t it b) ρ st = (evIt C it ρ st).out ρ fun xs st => forLoop (forS C t b) xs ρ st := rfl
  rw [e, hit]
  rfl
/-- a for that runs through -/
theorem ev_for_inv {C : Ctx} {t : Tg} {it : It} {b : Ss} {ρ : En} {st : Sto} {xs : List D} {st1 : Sto} (I : Nat → En → Sto → Prop) (hit : evIt C it ρ st = .ok xs st1)
    (h : ∀ i x ρ st, xs[i]? = some x → I i ρ st → ∃ ρ1 ρ2 st2, bindT t x ρ = some ρ1 ∧ (evSs C b ρ1 st = .nx ρ2 st2 ∨ evSs C b ρ1 st = .ct ρ2 st2) ∧ I (i + 1) ρ2 st2) (h0 : I 0 ρ st1) :
    ∃ ρ' st', evS C (.for_ t it b) ρ st = .nx ρ' st' ∧ I xs.length ρ' st' := by
  obtain ⟨ρ', st', h1, h2⟩ := for_inv (step := forS C t b) I xs 0 ρ st1 (fun i x ρ st hx hi => by
    rw [Nat.zero_add] at hi ⊢
    obtain ⟨ρ1, ρ2, st2, q1, q2, q3⟩ := h i x ρ st hx hi
    refine ⟨ρ2, st2, ?_, q3⟩
    unfold forS
    rw [q1]
    exact q2) h0
  rw [Nat.zero_add] at h2
  exact ⟨ρ', st', by rw [ev_for hit]; exact h1, h2⟩
theorem range_len : ∀ (n : Nat) (lo : Int), (rangeD lo n).length = n
  | 0, _ => rfl
  | n + 1, lo => by rw [rangeD, List.length_cons, range_len n]
theorem range_get : ∀ (n : Nat) (lo : Int) (i : Nat), i < n → (rangeD lo n)[i]? = some (.int (lo + i))
  | 0, _, _, h => absurd h (by omega)
  | n + 1, lo, 0, _ => by simp [rangeD]
  | n + 1, lo, i + 1, h => by
    show (rangeD (lo + 1) n)[i]? = _
    rw [range_get n (lo + 1) i (by omega)]
    congr 2
    omega
theorem range_lt {n : Nat} {lo : Int} {i : Nat} {x : D} (h : (rangeD lo n)[i]? = some x) : i < n ∧ x = .int (lo + i) := by
  have h1 := (List.getElem?_eq_some_iff.mp h).1
  rw [range_len] at h1
  rw [range_get n lo i h1] at h
  exact ⟨h1, (Option.some.inj h).symm⟩
theorem boolsD_map (bs : List Bool) : boolsD (bs.map D.bl) = some bs := by
  induction bs with
  | nil => rfl
  | cons b bs ih =>
    show (match boolsD (bs.map D.bl) with
      | some bs => some (b :: bs)
      | none => none) = _
    rw [ih]
theorem intsD_map (bs : List Int) : intsD (bs.map D.int) = some bs := by
  induction bs with
  | nil => rfl
  | cons b bs ih =>
    show (match intsD (bs.map D.int) with
      | some bs => some (b :: bs)
      | none => none) = _
    rw [ih]
theorem filterMap_some {α β : Type} (f : α → β) (xs : List α) : xs.filterMap (fun x => some (f x)) = xs.map f := by
  induction xs with
  | nil => rfl
  | cons x xs ih => rw [List.filterMap_cons, ih]; rfl
theorem mem_insI {x y : Int} : ∀ {l : List Int}, y ∈ insI x l ↔ y = x ∨ y ∈ l
  | [] => by simp [insI]
  | z :: l => by
    unfold insI
    split
    · simp
    · split
      · rename_i h
        subst h
        simp
      · rw [List.mem_cons, mem_insI (l := l), List.mem_cons]
        constructor
        · rintro (h | h | h)
          · exact .inr (.inl h)
          · exact .inl h
          · exact .inr (.inr h)
        · rintro (h | h | h)
          · exact .inr (.inl h)
          · exact .inl h
          · exact .inr (.inr h)
theorem mem_setI {y : Int} : ∀ {l : List Int}, y ∈ setI l ↔ y ∈ l
  | [] => by simp [setI]
  | x :: l => by
    show y ∈ insI x (setI l) ↔ _
    rw [mem_insI, mem_setI (l := l), List.mem_cons]
theorem up_insI {x : Int} : ∀ {l : List Int}, l.Pairwise (· < ·) → (insI x l).Pairwise (· < ·)
  | [], _ => by simp [insI]
  | y :: l, h => by
    obtain ⟨h1, h2⟩ := List.pairwise_cons.mp h
    unfold insI
    split
    · rename_i hlt
      refine List.pairwise_cons.mpr ⟨fun z hz => ?_, h⟩
      rcases List.mem_cons.mp hz with rfl | hz
      · exact hlt
      · exact Int.lt_trans hlt (h1 z hz)
    · split
      · exact h
      · rename_i n1 n2
        refine List.pairwise_cons.mpr ⟨fun z hz => ?_, up_insI h2⟩
        rcases mem_insI.mp hz with rfl | hz
        · omega
        · exact h1 z hz
theorem up_setI : ∀ l : List Int, (setI l).Pairwise (· < ·)
  | [] => List.Pairwise.nil
  | x :: l => up_insI (up_setI l)
theorem len_insI {x : Int} : ∀ l : List Int, (insI x l).length ≤ l.length + 1
  | [] => by simp [insI]
  | y :: l => by
    unfold insI
    split
    · simp
    · split
      · simp
      · simp only [List.length_cons]
        have := len_insI (x := x) l
        omega
theorem len_setI : ∀ l : List Int, (setI l).length ≤ l.length
  | [] => Nat.le_refl _
  | x :: l => by
    have := len_insI (x := x) (setI l)
    have := len_setI l
    show (insI x (setI l)).length ≤ l.length + 1
    omega
theorem up_inj : ∀ {a b : List Int}, a.Pairwise (· < ·) → b.Pairwise (· < ·) → (∀ k, k ∈ a ↔ k ∈ b) → a = b
  | [], [], _, _, _ => rfl
  | [], y :: b, _, _, h => absurd ((h y).mpr List.mem_cons_self) (by simp)
  | x :: a, [], _, _, h => absurd ((h x).mp List.mem_cons_self) (by simp)
  | x :: a, y :: b, ha, hb, h => by
    obtain ⟨a1, a2⟩ := List.pairwise_cons.mp ha
    obtain ⟨b1, b2⟩ := List.pairwise_cons.mp hb
    have e : x = y := by
      rcases List.mem_cons.mp ((h x).mp List.mem_cons_self) with e | e
      · exact e
      · rcases List.mem_cons.mp ((h y).mpr List.mem_cons_self) with e2 | e2
        · exact e2.symm
        · have := a1 y e2
          have := b1 x e
          omega
    subst e
    congr 1
    refine up_inj a2 b2 fun k => ⟨fun hk => ?_, fun hk => ?_⟩
    · rcases List.mem_cons.mp ((h k).mp (List.mem_cons_of_mem _ hk)) with e | e
      · have := a1 k hk
        omega
      · exact e
    · rcases List.mem_cons.mp ((h k).mpr (List.mem_cons_of_mem _ hk)) with e | e
      · have := b1 k hk
        omega
      · exact e
/-! ### comparisons -/
section
variable (a b : Int) (p q : Bool)
theorem cop_lt : copD .lt (.int a) (.int b) = some (decide (a < b)) := rfl
theorem cop_le : copD .le (.int a) (.int b) = some (decide (a ≤ b)) := rfl
theorem cop_gt : copD .gt (.int a) (.int b) = some (decide (b < a)) := rfl
theorem cop_ge : copD .ge (.int a) (.int b) = some (decide (b ≤ a)) := rfl
theorem cop_eq : copD .eq (.int a) (.int b) = some (a == b) := rfl
theorem cop_ne : copD .ne (.int a) (.int b) = some (!(a == b)) := rfl
theorem cop_eqB : copD .eq (.bl p) (.bl q) = some (p == q) := rfl
theorem cop_neB : copD .ne (.bl p) (.bl q) = some (!(p == q)) := rfl
theorem cop_eqS (s t : List Nat) : copD .eq (.str s) (.str t) = some (s == t) := rfl
theorem cop_neS (s t : List Nat) : copD .ne (.str s) (.str t) = some (!(s == t)) := rfl
end
theorem cop_eqD {x y : D} (h : min x.depth y.depth ≤ 64) : copD .eq x y = some (D.eqv x y) := by
  show (if min x.depth y.depth ≤ 64 then some (D.eqv x y) else none) = _
  rw [if_pos h]
theorem cop_neD {x y : D} (h : min x.depth y.depth ≤ 64) : copD .ne x y = some (!D.eqv x y) := by
  show (if min x.depth y.depth ≤ 64 then some (!D.eqv x y) else none) = _
  rw [if_pos h]
theorem op_addI (a b : Int) : opD .add (.int a) (.int b) = some (.int (a + b)) := rfl
theorem op_subI (a b : Int) : opD .sub (.int a) (.int b) = some (.int (a - b)) := rfl
theorem op_addB (a : Bool) (b : Int) : opD .add (.bl a) (.int b) = some (.int ((if a then 1 else 0) + b)) := rfl
theorem idxV_d (x y : D) (st : Sto) : idxV (.d x) (.d y) st = ofO (idxD x y) st := rfl
theorem cmpV_d (o : Cop) (x y : D) (st : Sto) : cmpV o (.d x) (.d y) st = ofB (copD o x y) st := by
  cases o <;> rfl
end Ev

namespace EvS
open PySem PySem.Spec PyProof.Rows L2 Ev
section
variable {X : L2.Cx}
/-- set(t) of a tuple of ints -/
def rSetTI (K : PySem.W.Frag) (w : World) : List V → Hp → VK → Prop := fun vs H Q => ∃ (p : Addr) (ns : List Int), vs = [.ref p] ∧ SqT K H p (ns.map V.int) ∧ ns.length < 64 ∧ ∀ q c, H q = none → c ≤ ns.length → Q (.ref q) (upd H q (SetO w q (fun j => decide (j ∈ ns)) c))
theorem cr_setTI (hc : X.calm = true) : CallR X (.type "set") (rSetTI X.K X.w) := by
  intro pins s σ H vs us Q I r h
  obtain ⟨p, ns, rfl, hq, hl, q⟩ := h
  obtain ⟨u, rfl, ru⟩ := Vals.one r
  cases ru
  obtain ⟨its, rv, pt, hz⟩ := I.tuple hq
  have hi : IntsAre its.toArray.toList ns := ints_of_vals rv
  refine call_set_tupI ns (I.ok.hd hc) (show s.heap.IsTuple p its.toArray from pt) hi (by unfold scanBound; omega) fun h' tk c R1 hcn k => ?_
  exact ⟨.ref s.heap.objs.size, _, I.laid k (Nat.le_refl _) (setO_new R1), rfl, q _ c (I.hok.fresh (Nat.le_refl _)) hcn⟩
end
variable {L : Lw} {M : Nm} {k : Nat} {C : Ev.Ctx}
theorem ge_sset (hC : CxOk L M k C) {a : E} (ha : GE L M k C a) : GE L M k C (.sset a) := by
  intro X W pe g tk h
  unfold chkE at h
  split at h
  · rename_i x p1 y p2 pa pos2 pos
    simp only [Bool.and_eq_true] at h
    obtain ⟨⟨h1, h2⟩, h3⟩ := h
    obtain ⟨rfl, g1⟩ := isB_of h1
    obtain ⟨rfl, g2⟩ := isB_of h2
    have hm : ∀ n ∈ bnames, X.mg n = none := fun n hn => by rw [g.mg]; exact hC.blt n hn
    have main := (PE.lk (pe_callB (p := p1) (pos := pos) (cr_sortedSet g.calm) g1 (hm _ (by decide)) boot_sorted (pa_cons (pe_callTy (p := p2) (pos := pos2) (cr_setTI g.calm) g2 (hm _ (by decide)) boot_set (pa_cons (ha X W pa g tk h3).1 pa_nil (chk_star h3)) (by decide) (by decide) (chk_star h3) (by rfl)) pa_nil (by rfl)) (by decide) (by decide) (by rfl) (by rfl))).imp (t' := tE L W C (.sset a)) fun σ H Q z => by
      obtain ⟨ρ, μ, st, S, n, z⟩ := z
      refine tE_bind S n z fun u x st' H' μ' e S' n' r z => ?_
      obtain ⟨c, e4, z⟩ := onD_cases z
      obtain ⟨d, e5, z⟩ := ofO_cases z
      have q1 := rawV_rw S' r e4
      unfold ssetD at e5
      split at e5
      · rename_i xs
        split at e5
        · rename_i is hi
          split at e5
          · rename_i hl
            cases e5
            obtain ⟨p, vs, rfl, h1, l1, r1⟩ := q1.tup
            have ev := intsD_vs r1 hi
            subst ev
            rw [← g.K] at h1
            refine ⟨p, is, rfl, h1, hl, fun q c hq hc => ?_⟩
            refine ⟨q, _, c, rfl, upd_same, by omega, fun ns p3 a1 a2 a3 a4 => ?_⟩
            have en : ns = setI is := up_inj a1 (up_setI is) fun k => by rw [a2, mem_setI]; simp
            subst en
            refine .inr ⟨p3, _, rfl, upd_same, trivial, fun od => ?_⟩
            rw [upd_upd]
            have x1 : Ext H' μ' (upd H' q (SetO X.w q (fun j => decide (j ∈ is)) c)) μ' := Ext.fix hq
            have s1 := S'.fix (o := SetO X.w q (fun j => decide (j ∈ is)) c) hq
            refine z _ _ (x1.trans (Ext.fix a4)) (s1.fix a4) _ ⟨p3, _, rfl, .inl ⟨od, upd_same⟩, ?_, ?_⟩
            · rw [List.length_map]
              have := len_setI is
              show _ ≤ 16777216
              omega
            · have ir : ∀ (H : Hp) (ns : List Int), RDs L.K H (ns.map D.int) (ns.map V.int) := by
                intro H ns
                induction ns with
                | nil => rfl
                | cons n ns ih => exact ⟨.int n, ns.map V.int, rfl, rfl, ih⟩
              exact ir _ _
          · cases e5
        · cases e5
      · cases e5
    exact ⟨main, fun _ => pt_plain main (by intro _; rfl)⟩
  · cases h
end EvS

namespace EvS
open PySem PySem.Spec PyProof.Rows L2 Ev
variable {L : Lw} {M : Nm} {k : Nat} {C : Ev.Ctx}
section
variable {X : L2.Cx} {W : WX} {pe : Expr}
/-! ### parts, tests -/
theorem gPo_no : GPo L M k C .no := by
  intro X W g tk
  refine ⟨fun pe h => ?_, fun ps h => ?_⟩
  · cases pe with
    | none => exact ⟨fun pins s σ H Q I z => po_none.run pins s σ H Q I (by
        obtain ⟨ρ, μ, st, S, n, z⟩ := z
        exact z.ok S)⟩
    | some _ => cases h
  · cases ps with
    | nil => exact ⟨fun pins s σ H Q I z => pts_nil.run pins s σ H Q I (by
        obtain ⟨ρ, μ, st, S, n, z⟩ := z
        exact z.ok S)⟩
    | cons _ _ => cases h
theorem gPo_e {e : E} (he : GE L M k C e) : GPo L M k C (.e e) := by
  intro X W g tk
  refine ⟨fun pe h => ?_, fun ps h => ?_⟩
  · cases pe with
    | none => cases h
    | some p => exact ⟨fun pins s σ H Q I z => (po_some (he X W p g tk h).1).run pins s σ H Q I (by
        obtain ⟨ρ, μ, st, S, n, z⟩ := z
        refine tE_bind S n z fun u x st' H' μ' e S' n' r z => ?_
        split at z
        · rename_i i
          exact ⟨i, r, z.ok S'⟩
        · exact z.elim)⟩
  · unfold chkPoB at h
    split at h
    · rename_i p
      rw [Bool.and_eq_true] at h
      exact ⟨fun pins s σ H Q I z => (pts_one ((he X W p g tk h.2).2 h.1)).run pins s σ H Q I (by
        obtain ⟨ρ, μ, st, S, n, z⟩ := z
        refine ⟨ρ, μ, st, S, n, z.bind.mono fun a st' H' μ' ex S' q => ?_⟩
        split at q
        · rename_i b
          exact ⟨b, rfl, q.ok S'⟩
        · exact q.elim)⟩
    · cases h

/-! ### what is walked -/
theorem walkD_list {H : Hp} {a : Addr} {xs : List D} {vs : List V} (h : FzL L.K H a vs) (hl : xs.length ≤ line) (r : RDs L.K H xs vs) : WalkD L (Itl L.K a) xs H := by
  refine ⟨hl, fun H' => FzL L.K H' a vs, YAt vs, ?_, fun H' e => h.fix e, fun i H1 x H' hi e y => ?_⟩
  · rw [← r.len]
    exact walk_list.mono (fun H h => h.sq) fun i H x H' _ _ y => y
  · obtain ⟨rfl, hx⟩ := y
    obtain ⟨d, hd⟩ : ∃ d, xs[i]? = some d := ⟨xs[i], List.getElem?_eq_getElem hi⟩
    obtain ⟨v, e1, e2⟩ := r.get hd
    rw [hx] at e1
    cases e1
    exact ⟨.inl rfl, d, hd, e2.fix e⟩
theorem walkD_tup {H : Hp} {a : Addr} {xs : List D} {vs : List V} (h : SqT L.K H a vs) (hl : xs.length ≤ line) (r : RDs L.K H xs vs) : WalkD L (Itt L.K a) xs H := by
  refine ⟨hl, fun H' => SqT L.K H' a vs, YAt vs, ?_, fun H' e => sqT_fix h e, fun i H1 x H' hi e y => ?_⟩
  · rw [← r.len]
    exact walk_tup
  · obtain ⟨rfl, hx⟩ := y
    obtain ⟨d, hd⟩ : ∃ d, xs[i]? = some d := ⟨xs[i], List.getElem?_eq_getElem hi⟩
    obtain ⟨v, e1, e2⟩ := r.get hd
    rw [hx] at e1
    cases e1
    exact ⟨.inl rfl, d, hd, e2.fix e⟩
theorem walkD_str {H : Hp} {s : List Nat} (hl : s.length ≤ line) (hc : ∀ c ∈ s, c < 128) : WalkD L (Its ⟨s.toArray⟩) (signsD s) H := by
  refine ⟨by unfold signsD; rw [List.length_map]; exact hl, fun _ => True, (fun i H v H' => H' = H ∧ ∃ c, (⟨s.toArray⟩ : Str).cps[i]? = some c ∧ v = .str ⟨#[c]⟩), ?_, fun _ _ => trivial, fun i H1 x H' hi e y => ?_⟩
  · have e : (signsD s).length = (⟨s.toArray⟩ : Str).cps.size := by unfold signsD; simp
    rw [e]
    exact walk_str
  · obtain ⟨rfl, c, hx, rfl⟩ := y
    have hx : s[i]? = some c := by simpa using hx
    refine ⟨.inl rfl, .str [c], by unfold signsD; rw [List.getElem?_map, hx]; rfl, RD.str1 (List.mem_of_getElem? hx) hc⟩
theorem rangeD_get : ∀ (n : Nat) (lo : Int) (i : Nat), i < n → (rangeD lo n)[i]? = some (.int (lo + i))
  | 0, _, _, h => absurd h (by omega)
  | n + 1, lo, 0, _ => by simp [rangeD]
  | n + 1, lo, i + 1, h => by
    show (rangeD (lo + 1) n)[i]? = _
    rw [rangeD_get n (lo + 1) i (by omega)]
    congr 2
    omega
theorem rangeD_len : ∀ (n : Nat) (lo : Int), (rangeD lo n).length = n
  | 0, _ => rfl
  | n + 1, lo => by rw [rangeD, List.length_cons, rangeD_len n]
theorem walkD_range {H : Hp} {lo : Int} {n : Nat} (hl : n ≤ line) : WalkD L (Itr lo n) (rangeD lo n) H := by
  refine ⟨by rw [rangeD_len]; exact hl, fun _ => True, (YFn fun i => .int (lo + i)), ?_, fun _ _ => trivial, fun i H1 x H' hi e y => ?_⟩
  · rw [rangeD_len]
    exact walk_range
  · obtain ⟨rfl, rfl⟩ := y
    rw [rangeD_len] at hi
    exact ⟨.inl rfl, _, rangeD_get n lo i hi, rfl⟩
theorem zipD_get : ∀ (xs ys : List D) (i : Nat), i < (zipD xs ys).length → ∃ x y, xs[i]? = some x ∧ ys[i]? = some y ∧ (zipD xs ys)[i]? = some (.tup [x, y])
  | [], _, i, h => by
    unfold zipD at h
    cases h
  | _ :: _, [], i, h => by
    unfold zipD at h
    cases h
  | x :: xs, y :: ys, 0, _ => ⟨x, y, rfl, rfl, rfl⟩
  | x :: xs, y :: ys, i + 1, h => zipD_get xs ys i (by
    have : (zipD (x :: xs) (y :: ys)).length = (zipD xs ys).length + 1 := rfl
    omega)
theorem zipD_len : ∀ (xs ys : List D), (zipD xs ys).length = min xs.length ys.length
  | [], ys => by simp [zipD]
  | _ :: _, [] => by simp [zipD]
  | x :: xs, y :: ys => by
    show (zipD xs ys).length + 1 = min (xs.length + 1) (ys.length + 1)
    rw [zipD_len xs ys]
    omega
theorem walk_zipT {K : PySem.W.Frag} {a b : Addr} {xs ys : List V} {n : Nat} (hn : n = min xs.length ys.length) : Walk (RZ.ItzT K a b) n (fun H => SqT K H a xs ∧ SqT K H b ys) (YPair (fun i => xs[i]?) (fun i => ys[i]?)) := by
  subst hn
  refine ⟨fun i _ hi q => ?_, fun _ q => ⟨xs, ys, q.1, q.2, by omega⟩, fun i H v H' _ q y => ?_⟩
  · have h1 : i < xs.length := by omega
    have h2 : i < ys.length := by omega
    exact ⟨xs, ys, xs[i], ys[i], q.1, q.2, by simp [h1], by simp [h2]⟩
  · obtain ⟨T, x, z, h1, h2, h3, h4, h5⟩ := y
    exact ⟨T, x, z, h1, h2, h3, h4 xs q.1, h5 ys q.2⟩
theorem walkD_pair {H : Hp} {J : L2.It} {G : Hp → Prop} {xs ys : List D} {vs us : List V} (w : Walk J (min vs.length us.length) G (YPair (fun i => vs[i]?) (fun i => us[i]?))) (hG : ∀ H', (∀ a o, H a = some o → Fix o → H' a = some o) → G H')
    (hl : xs.length ≤ line) (r1 : RDs L.K H xs vs) (r2 : RDs L.K H ys us) : WalkD L J (zipD xs ys) H := by
  refine ⟨by rw [zipD_len]; omega, G, (YPair (fun i => vs[i]?) (fun i => us[i]?)), ?_, hG, fun i H1 x H' hi e y => ?_⟩
  · rw [zipD_len, ← r1.len, ← r2.len]
    exact w
  · obtain ⟨T, v, u, rfl, hT, rfl, e1, e2⟩ := y
    obtain ⟨d1, d2, q1, q2, q3⟩ := zipD_get xs ys i hi
    obtain ⟨v', f1, g1⟩ := r1.get q1
    obtain ⟨u', f2, g2⟩ := r2.get q2
    have e1 : vs[i]? = some v := e1
    have e2 : us[i]? = some u := e2
    rw [e1] at f1
    rw [e2] at f2
    cases f1
    cases f2
    have nx : ∀ a o, H a = some o → Fix o → upd H1 T (.tup [v, u]) a = some o := fun a o q f => by
      have := e a o q f
      rw [upd_ne (ne_of_none this hT)]
      exact this
    refine ⟨.inr ⟨T, .tup [v, u], hT, trivial, rfl⟩, _, q3, T, [v, u], rfl, SqT.of upd_same, by show 2 ≤ 16777216; decide, v, [u], rfl, g1.fix nx, u, [], rfl, g2.fix nx, rfl⟩
theorem gI_val {e : E} (he : GE L M k C e) : GI L M k C (.val e) := by
  intro X W tg pe g tk h
  have h : chkE M X.N e X.env.scope pe = true := h
  refine ⟨⟨fun pins s σ H R I z => (pi_any (tg := tg) (he X W pe g tk h).1).run pins s σ H R I ?_⟩, chk_fold h⟩
  obtain ⟨ρ, μ, st, S, n, z⟩ := z
  refine tE_bind S n z fun u x st' H' μ' e S' n' r z => ?_
  split at z
  · rename_i d
    split at z
    · rename_i xs hx
      have z := z.ok S'
      have r : RD L.K H' d x := r
      unfold itemsD at hx
      split at hx
      · cases hx
        obtain ⟨a, vs, rfl, h1, h2, h3⟩ := r
        refine .inr (.inl ⟨a, vs, rfl, by rw [g.K]; exact h1, ?_⟩)
        rw [g.K]
        exact z _ (walkD_tup h1 h2 h3)
      · cases hx
        obtain ⟨a, vs, rfl, h1, h2, h3⟩ := r
        refine .inl ⟨a, vs, rfl, by rw [g.K]; exact h1.sq, ?_⟩
        rw [g.K]
        exact z _ (walkD_list h1 h2 h3)
      · cases hx
        obtain ⟨rfl, h2, h3⟩ := r
        exact .inr (.inr ⟨_, rfl, z _ (walkD_str h2 h3)⟩)
      · cases hx
    · exact z.elim
  · exact z.elim
theorem gI_rng1 (hC : CxOk L M k C) {e : E} (he : GE L M k C e) : GI L M k C (.rng1 e) := by
  intro X W tg pe g tk h
  unfold chkIt at h
  split at h
  · rename_i x p pa pos
    rw [Bool.and_eq_true] at h
    obtain ⟨rfl, hg⟩ := isB_of h.1
    have hm : X.mg (Str.ofString "range") = none := by rw [g.mg]; exact hC.blt _ (by decide)
    refine ⟨⟨fun pins s σ H R I z => (pi_range1 (tg := tg) hg hm (pa_cons (he X W pa g tk h.2).1 pa_nil (chk_star h.2)) (chk_star h.2)).run pins s σ H R I ?_⟩, fun _ => rfl⟩
    obtain ⟨ρ, μ, st, S, n, z⟩ := z
    refine tE_bind S n z fun u x st' H' μ' e S' n' r z => ?_
    split at z
    · rename_i i
      split at z
      · rename_i hi
        obtain rfl : x = .int i := r
        have hi : i.natAbs ≤ 16777216 := hi
        refine ⟨i, rfl, by omega, by omega, z.ok S' _ (walkD_range ?_)⟩
        show i.toNat ≤ 16777216
        omega
      · exact z.elim
    · exact z.elim
  · cases h
theorem gI_rng2 (hC : CxOk L M k C) {a b : E} (ha : GE L M k C a) (hb : GE L M k C b) : GI L M k C (.rng2 a b) := by
  intro X W tg pe g tk h
  unfold chkIt at h
  split at h
  · rename_i x p pa pb pos
    simp only [Bool.and_eq_true] at h
    obtain ⟨rfl, hg⟩ := isB_of h.1.1
    have hm : X.mg (Str.ofString "range") = none := by rw [g.mg]; exact hC.blt _ (by decide)
    have s2 : starEach [pb] X.env = [(false, eval pb X.env)] := chk_star h.2
    have s1 : starEach [pa, pb] X.env = [(false, eval pa X.env), (false, eval pb X.env)] := by rw [chk_star h.1.2, s2]
    refine ⟨⟨fun pins s σ H R I z => (pi_range2 (tg := tg) hg hm (pa_cons (ha X W pa g tk h.1.2).1 (pa_cons (hb X W pb g tk h.2).1 pa_nil (chk_star h.2)) (chk_star h.1.2)) s1 s2).run pins s σ H R I ?_⟩, fun _ => rfl⟩
    obtain ⟨ρ, μ, st, S, n, z⟩ := z
    refine tE_bind S n z fun u x st' H' μ' e S' n' r z => ?_
    refine tE_bind S' n' z fun v y st2 H2 μ2 e2 S2 n2 r2 z => ?_
    split at z
    · rename_i i j _
      split at z
      · rename_i hi
        rw [Bool.and_eq_true] at hi
        obtain rfl : x = .int i := r
        obtain rfl : y = .int j := r2
        have h1 : i.natAbs ≤ 8388608 := of_decide_eq_true hi.1
        have h2 : j.natAbs ≤ 8388608 := of_decide_eq_true hi.2
        refine ⟨i, j, rfl, ⟨by omega, by omega, by omega, by omega⟩, z.ok S2 _ (walkD_range ?_)⟩
        show (j - i).toNat ≤ 16777216
        omega
      · exact z.elim
    · exact z.elim
  · cases h
theorem gI_zip (hC : CxOk L M k C) {a b : E} (ha : GE L M k C a) (hb : GE L M k C b) : GI L M k C (.zip a b) := by
  intro X W tg pe g tk h
  unfold chkIt at h
  split at h
  · rename_i x p pa pb pos
    simp only [Bool.and_eq_true] at h
    obtain ⟨⟨⟨ht, hz⟩, h1⟩, h2⟩ := h
    cases tg with
    | Tuple elts kk tpos =>
      obtain ⟨rfl, hg⟩ := isB_of hz
      have hm : X.mg (Str.ofString "zip") = none := by rw [g.mg]; exact hC.blt _ (by decide)
      have s2 : starEach [pb] X.env = (false, eval pb X.env) :: starEach [] X.env := chk_star h2
      refine ⟨⟨fun pins s σ H R I z => (RZ.pi_zipA (elts := elts) (kk := kk) (tpos := tpos) hg hm (pa_cons (ha X W pa g tk h1).1 (pa_cons (hb X W pb g tk h2).1 pa_nil (chk_star h2)) (chk_star h1)) (chk_star h1) (by rw [s2]; rfl)).run pins s σ H R I ?_⟩, fun _ => rfl⟩
      obtain ⟨ρ, μ, st, S, n, z⟩ := z
      refine tE_bind S n z fun u x st' H' μ' e S' n' r z => ?_
      refine tE_bind S' n' z fun v y st2 H2 μ2 e2 S2 n2 r2 z => ?_
      split at z
      · rename_i d1 d2 _
        split at z
        · rename_i zs hx
          have z := z.ok S2
          have r : RD L.K H2 d1 x := r.ext e2
          have r2 : RD L.K H2 d2 y := r2
          unfold zipV at hx
          split at hx
          · cases hx
            obtain ⟨p1, vs, rfl, a1, a2, a3⟩ := r
            obtain ⟨p2, us, rfl, b1, b2, b3⟩ := r2
            refine ⟨p1, p2, vs, us, rfl, .inl ⟨by rw [g.K]; exact a1.sq, by rw [g.K]; exact b1.sq, ?_⟩⟩
            rw [g.K]
            exact z _ (walkD_pair (walk_zip rfl) (fun H' e => ⟨(a1.fix e).sq, (b1.fix e).sq⟩) a2 a3 b3)
          · cases hx
            obtain ⟨p1, vs, rfl, a1, a2, a3⟩ := r
            obtain ⟨p2, us, rfl, b1, b2, b3⟩ := r2
            refine ⟨p1, p2, vs, us, rfl, .inr ⟨by rw [g.K]; exact a1, by rw [g.K]; exact b1, ?_⟩⟩
            rw [g.K]
            exact z _ (walkD_pair (walk_zipT rfl) (fun H' e => ⟨sqT_fix a1 e, sqT_fix b1 e⟩) a2 a3 b3)
          · cases hx
        · exact z.elim
      · exact z.elim
    | _ => cases ht
  · cases h
end
end EvS

namespace EvS
open PySem PySem.Spec PyProof.Rows L2 Ev
variable {L : Lw} {M : Nm} {k : Nat} {C : Ev.Ctx}
section
variable {X : L2.Cx} {W : WX} {pe : Expr}
theorem EnR.put {H : Hp} {μ : Mu} {ρ : En} {σ : L2.St} {v : Vl} {u : V} (i : Nat) (n : EnR L H μ ρ σ) (r : RV L H μ v u) : EnR L H μ (ρ.put i v) (σ.set i (some u)) := by
  unfold En.put
  refine ⟨by simp [n.1], fun j w hj => ?_⟩
  by_cases e : i = j
  · subst e
    by_cases hl : i < ρ.length
    · rw [List.getElem?_set_self hl] at hj
      cases hj
      exact ⟨u, List.getElem?_set_self (by rw [← n.1]; exact hl), r⟩
    · rw [List.getElem?_eq_none (by simpa using hl)] at hj
      cases hj
  · rw [List.getElem?_set_ne e] at hj
    obtain ⟨u', h1, h2⟩ := n.2 j w hj
    exact ⟨u', by rw [List.getElem?_set_ne e]; exact h1, h2⟩
theorem EnR.wipe {H : Hp} {μ : Mu} {ρ : En} {σ : L2.St} (n : EnR L H μ ρ σ) : ∀ vs : List Nat, EnR L H μ (ρ.wipe vs) (L2.wipe σ vs)
  | [] => n
  | i :: vs => by
    have ih := EnR.wipe n vs
    refine ⟨?_, fun j w hj => ?_⟩
    · show ((ρ.wipe vs).set i none).length = ((L2.wipe σ vs).set i none).length
      simp [ih.1]
    · have hj : ((ρ.wipe vs).set i none)[j]? = some (some w) := hj
      by_cases e : i = j
      · subst e
        by_cases hl : i < (ρ.wipe vs).length
        · rw [List.getElem?_set_self hl] at hj
          cases hj
        · rw [List.getElem?_eq_none (by simpa using hl)] at hj
          cases hj
      · rw [List.getElem?_set_ne e] at hj
        obtain ⟨u', h1, h2⟩ := ih.2 j w hj
        exact ⟨u', by show ((L2.wipe σ vs).set i none)[j]? = _; rw [List.getElem?_set_ne e]; exact h1, h2⟩

/-! ### targets -/
def gT (L : Lw) (t : Tg) : TG := fun v σ H Q => ∃ x ρ ρ' μ, RD L.K H x v ∧ EnR L H μ ρ σ ∧ bindT t x ρ = some ρ' ∧ ∀ σ', EnR L H μ ρ' σ' → σ'.length = σ.length → (∀ i, i ∉ t.slots → σ'[i]? = σ[i]?) → Q σ' H
def gTs (L : Lw) (ts : Tgs) : TGs := fun vs σ H Q => ∃ xs ρ ρ' μ, RDs L.K H xs vs ∧ EnR L H μ ρ σ ∧ bindTs ts xs ρ = some ρ' ∧ ∀ σ', EnR L H μ ρ' σ' → σ'.length = σ.length → (∀ i, i ∉ ts.slots → σ'[i]? = σ[i]?) → Q σ' H
theorem chkT_star {N : List Str} {l : Bool} {t : Tg} {sc : Scope} {p : Expr} {es : List Expr} {env : Env} (h : chkT N l t sc p = true) : assignEach (p :: es) env = (false, assign p env) :: assignEach es env := by
  cases p with
  | Starred a b => cases t <;> cases h
  | _ => rfl
theorem chkTs_each {N : List Str} {l : Bool} {env : Env} {sc : Scope} : ∀ {ts : Tgs} {es : List Expr}, chkTs N l ts sc es = true → (assignEach es env).length = es.length ∧ (assignEach es env).findIdx? (·.1) = none ∧ ts.len = es.length
  | .nil, es, h => by
    cases es with
    | nil => exact ⟨rfl, rfl, rfl⟩
    | cons _ _ => cases h
  | .cons t ts, es, h => by
    cases es with
    | nil => cases h
    | cons p r =>
      have h : (chkT N l t sc p && chkTs N l ts sc r) = true := h
      rw [Bool.and_eq_true] at h
      obtain ⟨h1, h2, h3⟩ := chkTs_each (env := env) h.2
      rw [chkT_star h.1]
      refine ⟨by simp [h1], ?_, by show ts.len + 1 = _; simp [h3]⟩
      rw [List.findIdx?_cons, h2]
      rfl
theorem bindTs_len : ∀ {ts : Tgs} {xs : List D} {ρ ρ' : En}, bindTs ts xs ρ = some ρ' → ts.len = xs.length
  | .nil, [], _, _, _ => rfl
  | .nil, _ :: _, _, _, h => by cases h
  | .cons _ _, [], _, _, h => by cases h
  | .cons t ts, x :: xs, ρ, ρ', h => by
    unfold bindTs at h
    split at h
    · show ts.len + 1 = _
      rw [bindTs_len h]
      rfl
    · cases h
mutual
theorem pg_T (hK : X.K = L.K) (hc : X.calm = true) (hN : X.N.Nodup) {l : Bool} (hf : l = false → ∀ x, X.env.scope.names.lookup x = some .cell → X.fn x = true) : ∀ (t : Tg) (p : Expr), chkT X.N l t X.env.scope p = true → PG X p (gT L t)
  | .nm i, p, h => by
    cases p with
    | Name x pos =>
      have h : (nmB X.N i x && (if l then lclB X.env.scope x else locB X.env.scope x)) = true := h
      rw [Bool.and_eq_true] at h
      have hl : L2.Loc X.env.scope x ∧ (X.fn x = true ∨ X.env.scope.names.lookup x = some .local) := by
        cases l with
        | true => exact ⟨.inl (lcl_of h.2), .inr (lcl_of h.2)⟩
        | false =>
          rcases loc_of h.2 with q | q
          · exact ⟨.inl q, .inr q⟩
          · exact ⟨.inr q, .inl (hf rfl x q)⟩
      refine (pg_name hN (nm_of h.1) hl.1 hl.2).imp fun v σ H Q z => ?_
      obtain ⟨y, ρ, ρ', μ, r, n, e, q⟩ := z
      cases e
      exact q _ (n.put i (v := .d y) r) (by simp) fun j hj => List.getElem?_set_ne (fun e => hj (by subst e; exact List.mem_singleton.mpr rfl))
    | _ => cases h
  | .tp ts, p, h => by
    cases p with
    | Tuple es kk pos =>
      have h : chkTs X.N l ts X.env.scope es = true := h
      obtain ⟨h1, h2, h3⟩ := chkTs_each (env := X.env) h
      refine (pg_tup (n := es.length) hc (pg_Ts hK hc hN hf ts es h) h1 h2).imp fun v σ H Q z => ?_
      obtain ⟨y, ρ, ρ', μ, r, n, e, q⟩ := z
      cases y with
      | tup xs =>
        obtain ⟨a, vs, rfl, a1, a2, a3⟩ := r
        have e : bindTs ts xs ρ = some ρ' := e
        exact ⟨a, vs, rfl, by rw [hK]; exact a1, by rw [a3.len, ← bindTs_len e, h3], xs, ρ, ρ', μ, a3, n, e, q⟩
      | _ => cases e
    | _ => cases h
theorem pg_Ts (hK : X.K = L.K) (hc : X.calm = true) (hN : X.N.Nodup) {l : Bool} (hf : l = false → ∀ x, X.env.scope.names.lookup x = some .cell → X.fn x = true) : ∀ (t : Tgs) (p : List Expr), chkTs X.N l t X.env.scope p = true → PGs X p (gTs L t)
  | .nil, p, h => by
    cases p with
    | nil =>
      refine pgs_nil.imp fun v σ H Q z => ?_
      obtain ⟨y, ρ, ρ', μ, r, n, e, q⟩ := z
      cases y with
      | nil =>
        cases e
        exact ⟨r, q σ n rfl fun _ _ => rfl⟩
      | cons _ _ => cases e
    | cons _ _ => cases h
  | .cons t ts, p, h => by
    cases p with
    | nil => cases h
    | cons p r =>
      have h : (chkT X.N l t X.env.scope p && chkTs X.N l ts X.env.scope r) = true := h
      rw [Bool.and_eq_true] at h
      refine (pgs_cons (pg_T hK hc hN hf t p h.1) (pg_Ts hK hc hN hf ts r h.2) (by rw [chkT_star h.1]; rfl)).imp fun v σ H Q z => ?_
      obtain ⟨y, ρ, ρ', μ, r, n, e, q⟩ := z
      cases y with
      | nil => cases e
      | cons y ys =>
        obtain ⟨u, us, rfl, r1, r2⟩ := r
        unfold bindTs at e
        split at e
        · rename_i ρ1 e1
          refine ⟨u, us, rfl, y, ρ, ρ1, μ, r1, n, e1, fun σ1 n1 l1 k1 => ⟨ys, ρ1, ρ', μ, r2, n1, e, fun σ2 n2 l2 k2 => q σ2 n2 (l2.trans l1) fun i hi => ?_⟩⟩
          have hi : i ∉ t.slots ++ ts.slots := hi
          rw [List.mem_append, not_or] at hi
          rw [k2 i hi.2, k1 i hi.1]
        · cases e
    
end
theorem wipe_eq {σ σ' : L2.St} (hl : σ'.length = σ.length) : ∀ {vs : List Nat}, (∀ i, i ∉ vs → σ'[i]? = σ[i]?) → L2.wipe σ' vs = L2.wipe σ vs := by
  have get : ∀ (σ : L2.St) (vs : List Nat) (i : Nat), i < σ.length → (L2.wipe σ vs)[i]? = if i ∈ vs then some none else σ[i]? := by
    intro σ vs
    induction vs with
    | nil => intro i _; simp [L2.wipe]
    | cons v vs ih =>
      intro i hi
      unfold L2.wipe
      by_cases e : v = i
      · subst e
        rw [List.getElem?_set_self (by rw [wipe_length]; exact hi)]
        simp
      · rw [List.getElem?_set_ne e, ih i hi]
        have : (i ∈ v :: vs) ↔ i ∈ vs := by
          rw [List.mem_cons]
          exact ⟨fun h => h.elim (fun q => absurd q.symm e) id, .inr⟩
        by_cases h : i ∈ vs
        · rw [if_pos h, if_pos (this.mpr h)]
        · rw [if_neg h, if_neg (fun q => h (this.mp q))]
  intro vs hk
  refine List.ext_getElem? fun i => ?_
  by_cases hi : i < σ.length
  · rw [get σ vs i hi, get σ' vs i (by rw [hl]; exact hi)]
    by_cases h : i ∈ vs
    · rw [if_pos h, if_pos h]
    · rw [if_neg h, if_neg h, hk i h]
  · rw [List.getElem?_eq_none (by rw [wipe_length]; omega), List.getElem?_eq_none (by rw [wipe_length]; omega)]
theorem wipe_self {σ : L2.St} {vs : List Nat} : L2.wipe (L2.wipe σ vs) vs = L2.wipe σ vs := by
  refine wipe_eq (wipe_length σ vs) fun i hi => ?_
  have : ∀ (vs : List Nat), i ∉ vs → (L2.wipe σ vs)[i]? = σ[i]? := by
    intro vs
    induction vs with
    | nil => intro _; rfl
    | cons v vs ih =>
      intro h
      rw [List.mem_cons, not_or] at h
      unfold L2.wipe
      rw [List.getElem?_set_ne (fun e => h.1 e.symm), ih h.2]
  exact this vs hi

/-! ### a comprehension's list -/
theorem KVs.fix {H H' : Hp} (e : ∀ a o, H a = some o → Fix o → H' a = some o) : ∀ {kvs : List (D × D)} {xs : List (PySem.NestedKey × Addr × Value)}, KVs L H kvs xs → KVs L H' kvs xs
  | [], _, h => h
  | (_, _) :: _, _, ⟨a, val, u, xr, h1, h2, h3, h4, h5, h6⟩ => ⟨a, val, u, xr, h1, h2, h3.fix e, h4, h5.fix e, KVs.fix e h6⟩
section
variable {H0 H H' : Hp} {μ0 μ : Mu} {st : Sto} {A : Addr} {o u : HO}
theorem Ext.late (hA : H0 A = none) (e : Ext H0 μ0 H μ) : Ext H0 μ0 (upd H A o) μ := by
  refine ⟨fun a w h f => ?_, fun a w h t n => ?_, e.ln, e.al, e.nw, fun a ps h => ?_⟩
  · rw [upd_ne (ne_of_none h hA)]
    exact e.im a w h f
  · rw [upd_ne (ne_of_none h hA)]
    exact e.fr a w h t n
  · obtain ⟨ps', h'⟩ := e.tb a ps h
    exact ⟨ps', by rw [upd_ne (ne_of_none h hA)]; exact h'⟩
theorem upd_fix (hA : H A = some u) (hm : Mut (some u)) : ∀ a w, H a = some w → Fix w → (upd H A o) a = some w := fun a w h f => by
  rw [upd_ne]
  · exact h
  · rintro rfl
    exact mut_not_fix hA hm h f
theorem Sim.late (hA : H A = some u) (hm : Mut (some u)) (hn : ∀ r : Nat, μ[r]? ≠ some (some A)) (S : Sim L H μ st) : Sim L (upd H A o) μ st where
  len := S.len
  inj := S.inj
  cell := fun r c h => by
    have z := S.cell r c h
    have hk : ∀ a : Addr, μ[r]? = some (some a) → (upd H A o) a = H a := fun a ha => upd_ne (fun e => hn r (by rw [← e]; exact ha))
    cases c with
    | dead => trivial
    | lst xs =>
      obtain ⟨a, vs, h1, h2, h3, h4⟩ := z
      exact ⟨a, vs, h1, by rw [hk a h1]; exact h2, h3, h4.fix (upd_fix hA hm)⟩
    | dic kvs =>
      obtain ⟨a, xs, h1, h2, h3, h4⟩ := z
      exact ⟨a, xs, h1, by rw [hk a h1]; exact h2, h3, h4.fix (upd_fix hA hm)⟩
    | ins c fs => exact z.elim
  some_ := fun r a h => by
    obtain ⟨w, h1, h2⟩ := S.some_ r a h
    exact ⟨w, by rw [upd_ne (fun e => hn r (by rw [← e]; exact h))]; exact h1, h2⟩
  tab := fun q hq => TabF.ext (upd_fix hA hm) (fun b ps h => by
    rw [upd_ne]
    · exact h
    · rintro rfl
      rw [hA] at h
      cases h
      exact hm.elim) (S.tab q hq)
end
theorem RQ.bind0 {α β : Type} {H : Hp} {μ : Mu} {E : XK} {r : R α} {f : α → Sto → R β} {Q : β → Sto → Hp → Mu → Prop} (h : RQ L H μ E (r.bind f) Q) : RQ L H μ E r fun a st _ _ => RQ L H μ E (f a st) Q := by
  cases r with
  | ok a st => exact fun H' μ' e _ => h
  | ex c fs st => exact h
  | no => exact h
/-- one turn -/
theorem lcLoop_cons {H : Hp} {μ : Mu} {E F : XK} {step : D → Sto → R (Option D)} {x : D} {xs : List D} {st : Sto} {Q : List D → Sto → Hp → Mu → Prop} (h : RQ L H μ E (lcLoop step (x :: xs) st) Q) :
    RQ L H μ F (step x st) fun o st2 _ _ => RQ L H μ E (lcLoop step xs st2) fun ys => Q (match o with
      | some y => y :: ys
      | none => ys) := by
  unfold lcLoop at h
  cases q : step x st with
  | ok o s2 =>
    rw [q] at h
    intro H' μ' _ _
    simp only at h
    cases q2 : lcLoop step xs s2 with
    | ok ys s3 =>
      rw [q2] at h
      exact h
    | ex c fs s3 => rw [q2] at h; exact h.elim
    | no => rw [q2] at h; exact h.elim
  | ex c fs s2 => rw [q] at h; exact h.elim
  | no => rw [q] at h; exact h.elim
end
end EvS

namespace EvS
open PySem PySem.Spec PyProof.Rows L2 Ev
variable {L : Lw} {M : Nm} {k : Nat} {C : Ev.Ctx}
section
variable {X : L2.Cx} {W : WX} {pe : Expr}
theorem ownOf_snd {N : List Str} : ∀ {is : List Nat} {r : List (Str × Nat)}, ownOf N is = some r → r.map (·.2) = is
  | [], r, h => by cases h; rfl
  | i :: is, r, h => by
    unfold ownOf at h
    split at h
    · rename_i x r' _ h2
      cases h
      rw [List.map_cons, ownOf_snd h2]
    · cases h
theorem Gd.blk (g : Gd L k X) {scope : Scope} (hk : scope.kind = .function) (s : Shared) (H : Hp) (A : Addr) (cl : List (Str × Addr)) (fp : List Addr) : Gd L k (X.blk s H scope (compEnvC scope cl A X.env) fp) :=
  ⟨g.K, g.P, g.w, g.mg, g.base, g.calm, g.room, g.nd, g.nb, hk⟩
/-- a turn's step -/
abbrev lcStep (C : Ev.Ctx) (elt : E) (t : Tg) (c : Po) (own : List Nat) (ρ : En) : D → Sto → R (Option D) := fun x st => match bindT t x (ρ.wipe own) with
      | none => .no
      | some ρ' => (evPoB C c ρ' st).bind fun k st => match k with
        | false => .ok none st
        | true => (evE C elt ρ' st).bind fun v st => match v with
          | .d y => .ok (some y) st
          | _ => .no
theorem lc_go {elt : E} {t : Tg} {it : Ev.It} {c : Po} {own : List Nat} (hs : ∀ i ∈ t.slots, i ∈ own) {σ : L2.St} {H : Hp} {Q Q' : VK} (hq : ∀ v H, QL Q v H → Q' v H) (z : tE L W C (.lc elt t it c own) σ H Q) :
    tLc (tI L W C it) (gT L t) (tPB L (fun _ _ _ _ => False) C c) (tE L (fun _ _ _ _ => False) C elt) own σ H Q' := by
  obtain ⟨ρ, μ, st, S, n, z⟩ := z
  have z : RQ L H μ (WE W σ) ((evIt C it ρ st).bind fun xs st => (lcLoop (lcStep C elt t c own ρ) xs st).bind fun ys st => .ok (.d (.lst ys)) st) (QV (L := L) Q) := z
  refine ⟨ρ, μ, st, S, n, z.bind.mono fun xs st1 H1 μ1 ex1 S1 z1 J wd A hA => ?_⟩
  obtain ⟨hlen, G, Y, walk, gst, yl⟩ := wd
  have n1 := n.ext ex1
  have z1 : RQ L H1 μ1 (WE W σ) (lcLoop (lcStep C elt t c own ρ) xs st1) (fun ys _ H' _ => ∀ u, RD L.K H' (.lst ys) u → Q u H') := z1.bind.mono fun ys st' H' μ' e s q => q.ok s
  have nA : ∀ {H2 : Hp} {μ2 : Mu} {st2 : Sto}, Ext H1 μ1 H2 μ2 → (∃ acc, H2 A = some (.lst acc)) → True := fun _ _ => trivial
  refine lc_it walk (fun i H2 => ∃ μ2 st2 acc accD, Ext H1 μ1 H2 μ2 ∧ Sim L H2 μ2 st2 ∧ H2 A = some (.lst acc) ∧ (∀ r : Nat, μ2[r]? ≠ some (some A)) ∧ RDs L.K H2 accD acc ∧ accD.length ≤ i ∧
      RQ L H1 μ1 (WE W σ) (lcLoop (lcStep C elt t c own ρ) (xs.drop i) st2) (fun ys _ H' _ => ∀ u, RD L.K H' (.lst (accD ++ ys)) u → Q u H')) ?_ ?_ ?_ ?_
  · refine ⟨μ1, st1, [], [], Ext.fix hA, S1.fix hA, upd_same, fun r hr => ?_, rfl, Nat.le_refl _, z1⟩
    obtain ⟨o, h1, _⟩ := S1.some_ r A hr
    rw [hA] at h1
    cases h1
  · rintro i H2 hi ⟨μ2, st2, acc, accD, e2, _⟩
    exact gst H2 e2.im
  · rintro i x H2 H3 hi ⟨μ2, st2, acc, accD, e2, S2, hacc, hn, racc, hle, z2⟩ y
    obtain ⟨nw, d, hd, rd⟩ := yl i H2 x H3 hi e2.im y
    obtain ⟨e3, S3⟩ := nw.ext S2
    have hdrop : xs.drop i = d :: xs.drop (i + 1) := by
      obtain ⟨h1, h2⟩ := List.getElem?_eq_some_iff.mp hd
      rw [List.drop_eq_getElem_cons h1, h2]
    rw [hdrop] at z2
    have hacc3 : H3 A = some (.lst acc) := nw.fix A _ hacc
    have racc3 : RDs L.K H3 accD acc := racc.ext e3
    have e13 := e2.trans e3
    have n3 : EnR L H3 μ2 (ρ.wipe own) (L2.wipe σ own) := (n1.ext e13).wipe own
    cases hb : bindT t d (ρ.wipe own) with
    | none =>
      have z3 := lcLoop_cons (F := fun _ _ _ => False) z2
      have q : lcStep C elt t c own ρ d st2 = .no := by
        show (match bindT t d (ρ.wipe own) with
          | none => R.no
          | some ρ' => _) = _
        rw [hb]
      rw [q] at z3
      exact z3.elim
    | some ρ' =>
      have q : lcStep C elt t c own ρ d st2 = (evPoB C c ρ' st2).bind fun k st => match k with
        | false => .ok none st
        | true => (evE C elt ρ' st).bind fun v st => match v with
          | .d y => .ok (some y) st
          | _ => .no := by
        show (match bindT t d (ρ.wipe own) with
          | none => R.no
          | some ρ' => _) = _
        rw [hb]
      refine ⟨d, ρ.wipe own, ρ', μ2, rd, n3, hb, fun σ4 n4 l4 k4 => ⟨?_, ?_⟩⟩
      · have := wipe_eq (vs := own) l4 fun i hi => k4 i fun h => hi (hs i h)
        rw [this, wipe_self]
      · have z3 := lcLoop_cons (F := WE (fun _ _ _ _ => False) σ4) z2
        rw [q] at z3
        refine ⟨ρ', μ2, st2, S3, n4, (RQ.ext e13 z3.bind0).mono fun b st5 H5 μ5 e5 S5 z5 => ?_⟩
        have hn5 : ∀ r : Nat, μ5[r]? ≠ some (some A) := fun r hr => by
          rcases e5.nw r A hr with ⟨r', h⟩ | h
          · exact hn r' h
          · rw [hacc3] at h; cases h
        have hacc5 : H5 A = some (.lst acc) := e5.fr A _ hacc3 trivial hn
        have e15 := e13.trans e5
        cases b with
        | false =>
          simp only [Bool.false_eq_true, if_false]
          have z5 := z5 H5 μ5 e15 S5
          exact ⟨μ5, st5, acc, accD, e15, S5, hacc5, hn5, racc3.ext e5, Nat.le_succ_of_le hle, z5⟩
        | true =>
          simp only [if_true]
          refine ⟨ρ', μ5, st5, S5, n4.ext e5, (RQ.ext e15 (RQ.bind0 z5)).mono fun v st6 H6 μ6 e6 S6 z6 u ru => ?_⟩
          have hn6 : ∀ r : Nat, μ6[r]? ≠ some (some A) := fun r hr => by
            rcases e6.nw r A hr with ⟨r', h⟩ | h
            · exact hn5 r' h
            · rw [hacc5] at h; cases h
          have hacc6 : H6 A = some (.lst acc) := e6.fr A _ hacc5 trivial hn5
          have e16 := e15.trans e6
          cases v with
          | d y =>
            have z6 := z6 H6 μ6 e16 S6
            have hll : accD.length < line := Nat.lt_of_le_of_lt hle (Nat.lt_of_lt_of_le hi hlen)
            refine ⟨acc, hacc6, ?_, ?_⟩
            · rw [racc.len, ← line_eq]
              exact hll
            · have ru : RD L.K H6 y u := ru
              refine ⟨μ6, st6, acc ++ [u], accD ++ [y], Ext.late hA e16, S6.late hacc6 trivial hn6, upd_same, hn6, ?_, ?_, ?_⟩
              · exact (((racc3.ext e5).ext e6).app (RDs.one ru)).fix (upd_fix hacc6 trivial)
              · rw [List.length_append]
                exact Nat.succ_le_succ hle
              · refine z6.mono fun ys _ H' _ _ _ w u' hu' => w u' ?_
                rw [List.append_assoc] at hu'
                exact hu'
          | _ => exact z6.elim
  · rintro H2 ⟨μ2, st2, acc, accD, e2, S2, hacc, hn, racc, hle, z2⟩
    rw [List.drop_length] at z2
    refine hq _ _ (.inr ⟨A, _, rfl, hacc, trivial, fun od => ?_⟩)
    have w := z2 (upd H2 A (.frz od (.lst acc))) μ2 (Ext.late hA e2) (S2.late hacc trivial hn)
    refine w _ ⟨A, acc, rfl, .inl ⟨od, upd_same⟩, ?_, ?_⟩
    · rw [List.append_nil]
      exact Nat.le_trans hle hlen
    · rw [List.append_nil]
      exact racc.fix (upd_fix hacc trivial)
theorem ge_lc {elt : E} {t : Tg} {it : Ev.It} {c : Po} {own : List Nat} (he : GE L M k C elt) (hi : GI L M k C it) (hc : GPo L M k C c) : GE L M k C (.lc elt t it c own) := by
  intro X W pe g tk h
  unfold chkE at h
  split at h
  · rename_i pelt ptg pit pifs isa scope pos
    simp only [Bool.and_eq_true] at h
    obtain ⟨⟨⟨⟨⟨⟨⟨h1, h2⟩, h3⟩, h4⟩, h5⟩, h6⟩, h7⟩, h8⟩ := h
    have e1 := of_decide_eq_true h1
    subst e1
    have ok := blkOk_by h4
    obtain ⟨r, hr⟩ := Option.isSome_iff_exists.mp h3
    have eo : own1 X.N own = r := by unfold own1; rw [hr]; rfl
    rw [eo] at ok
    have e2 : r.map (·.2) = own := ownOf_snd hr
    obtain ⟨pi, pf⟩ := hi X W ptg pit g tk h2
    have main : PE X (.ListComp pelt [⟨ptg, pit, pifs, 0⟩] scope pos) (tE L W C (.lc elt t it c own)) :=
      (PE.lk (pe_lc (wi := tI L W C it) (g := gT L t) (tt := tPB L (fun _ _ _ _ => False) C c) (te := tE L (fun _ _ _ _ => False) C elt) g.calm g.nd pi ok
        (fun s H A cl fp => pg_T (X := X.blk s H scope (compEnvC scope cl A X.env) fp) (l := true) g.K g.calm g.nd (fun z => by cases z) t ptg h6)
        (fun s H A cl fp => (hc _ _ (g.blk ok.kind s H A cl fp) takesN).2 pifs h7)
        (fun s H A cl fp => (he _ _ pelt (g.blk ok.kind s H A cl fp) takesN h8).1) pf)).imp fun σ H Q z => by
          rw [e2]
          exact lc_go (fun i hi => by
            have := List.all_eq_true.mp h5 i hi
            simpa using this) (fun _ _ q => q) z
    exact ⟨main, fun _ => pt_plain main (by intro _; rfl)⟩
  · cases h
end
section
theorem ge_none {e : E} (h : ∀ N sc pe, chkE M N e sc pe = false) : GE L M k C e := fun X W pe g tk z => by rw [h] at z; cases z
theorem gI_none {e : Ev.It} (h : ∀ N sc tg pe, chkIt M N e sc tg pe = false) : GI L M k C e := fun X W tg pe g tk z => by rw [h] at z; cases z
mutual
theorem okE (hC : CxOk L M k C) : ∀ e : E, GE L M k C e
  | .cst d => ge_cst d
  | .var i => ge_var i
  | .glo i => ge_glo hC i
  | .frz i => ge_frz i
  | .tup es => ge_tup (okEs hC es)
  | .lst es => ge_lst (okEs hC es)
  | .new es => ge_new (okEs hC es)
  | .dic _ _ => ge_none fun _ _ _ => rfl
  | .tdic _ => ge_none fun _ _ _ => rfl
  | .bin _ a b => ge_bin (okE hC a) (okE hC b)
  | .neg a => ge_neg (okE hC a)
  | .cmp _ a b => ge_cmp (okE hC a) (okE hC b)
  | .chain _ _ a b c => ge_chain (okE hC a) (okE hC b) (okE hC c)
  | .isN a => ge_isN (okE hC a)
  | .notN a => ge_notN (okE hC a)
  | .and a es => ge_and (okE hC a) (okEs hC es)
  | .or a es => ge_or (okE hC a) (okEs hC es)
  | .not a => ge_not (okE hC a)
  | .ife c a b => ge_ife (okE hC c) (okE hC a) (okE hC b)
  | .idx a b => ge_idx (okE hC a) (okE hC b)
  | .slc a lo hi => ge_slc (okE hC a) (okPo hC lo) (okPo hC hi)
  | .rev a => ge_rev (okE hC a)
  | .call _ es => ge_call hC (okEs hC es)
  | .callv _ _ => ge_none fun _ _ _ => rfl
  | .blt (.isi t) (.cons e .nil) => ge_isi hC (okE hC e)
  | .blt (.isi t) .nil => ge_none fun _ _ pe => by
    unfold chkE
    simp only
    split
    · simp [chkEs]
    · rfl
  | .blt (.isi t) (.cons _ (.cons _ _)) => ge_none fun _ _ pe => by
    unfold chkE
    simp only
    split
    · simp [chkEs]
    · rfl
  | .blt .len es => ge_blt hC (fun _ h => by cases h) (okEs hC es)
  | .blt .all es => ge_blt hC (fun _ h => by cases h) (okEs hC es)
  | .blt .any es => ge_blt hC (fun _ h => by cases h) (okEs hC es)
  | .blt .sorted es => ge_blt hC (fun _ h => by cases h) (okEs hC es)
  | .blt .tuple es => ge_blt hC (fun _ h => by cases h) (okEs hC es)
  | .blt .list es => ge_blt hC (fun _ h => by cases h) (okEs hC es)
  | .blt .int es => ge_blt hC (fun _ h => by cases h) (okEs hC es)
  | .blt .bool es => ge_blt hC (fun _ h => by cases h) (okEs hC es)
  | .blt .str es => ge_blt hC (fun _ h => by cases h) (okEs hC es)
  | .blt .abs es => ge_blt hC (fun _ h => by cases h) (okEs hC es)
  | .blt .min es => ge_blt hC (fun _ h => by cases h) (okEs hC es)
  | .blt .max es => ge_blt hC (fun _ h => by cases h) (okEs hC es)
  | .sset a => ge_sset hC (okE hC a)
  | .lset _ => ge_none fun _ _ _ => rfl
  | .mth _ o es => ge_mth (okE hC o) (okEs hC es)
  | .lc elt t it c own => ge_lc (okE hC elt) (okIt hC it) (okPo hC c)
  | .lam _ _ => ge_none fun _ _ _ => rfl
theorem okEs (hC : CxOk L M k C) : ∀ es : Es, GEs L M k C es
  | .nil => gEs_nil
  | .cons e es => gEs_cons (okE hC e) (okEs hC es)
theorem okPo (hC : CxOk L M k C) : ∀ o : Po, GPo L M k C o
  | .no => gPo_no
  | .e e => gPo_e (okE hC e)
theorem okIt (hC : CxOk L M k C) : ∀ i : Ev.It, GI L M k C i
  | .val e => gI_val (okE hC e)
  | .rng1 e => gI_rng1 hC (okE hC e)
  | .rng2 a b => gI_rng2 hC (okE hC a) (okE hC b)
  | .enum _ => gI_none fun _ _ _ _ => rfl
  | .zip a b => gI_zip hC (okE hC a) (okE hC b)
  | .keys _ => gI_none fun _ _ _ _ => rfl
end
end
end EvS

namespace EvS
open PySem PySem.Spec PyProof.Rows L2 Ev
/-- in a def's own frame -/
structure GdF (L : Lw) (k : Nat) (X : L2.Cx) : Prop where
  g : Gd L k X
  fn : ∀ x, X.env.scope.names.lookup x = some .cell → X.fn x = true
section
variable (L : Lw) (W : WX) (C : Ev.Ctx)
/-- what is wanted of a statement's outcome -/
def SQ (H : Hp) (μ : Mu) (o : O) (D : Ends) : Prop := match o with
  | .nx ρ' st' => ∀ H' μ' σ', Ext H μ H' μ' → Sim L H' μ' st' → EnR L H' μ' ρ' σ' → D.nx σ' H'
  | .bk ρ' st' => ∀ H' μ' σ', Ext H μ H' μ' → Sim L H' μ' st' → EnR L H' μ' ρ' σ' → D.bk σ' H'
  | .ct ρ' st' => ∀ H' μ' σ', Ext H μ H' μ' → Sim L H' μ' st' → EnR L H' μ' ρ' σ' → D.ct σ' H'
  | .rt v st' => ∀ H' μ' u, Ext H μ H' μ' → Sim L H' μ' st' → RV L H' μ' v u → D.rt u H'
  | .ex c fs ρ' st' => ∀ H' μ' σ' cls d, Ext H μ H' μ' → Sim L H' μ' st' → EnR L H' μ' ρ' σ' → ExR L H' c fs cls d → W cls d σ' H'
  | .no => False
def tS (s : Ev.S) : TS := fun D σ H => ∃ ρ μ st, Sim L H μ st ∧ EnR L H μ ρ σ ∧ SQ L W H μ (evS C s ρ st) D
def tSs (s : Ss) : TS := fun D σ H => ∃ ρ μ st, Sim L H μ st ∧ EnR L H μ ρ σ ∧ SQ L W H μ (evSs C s ρ st) D
end
section
variable {L : Lw} {W : WX} {C : Ev.Ctx} {H H1 : Hp} {μ μ1 : Mu} {D D' : Ends} {o : O} {ρ : En} {σ : L2.St} {st : Sto}
theorem SQ.ext (e : Ext H μ H1 μ1) (h : SQ L W H μ o D) : SQ L W H1 μ1 o D := by
  cases o with
  | nx ρ' st' => exact fun H' μ' σ' e' => h H' μ' σ' (e.trans e')
  | bk ρ' st' => exact fun H' μ' σ' e' => h H' μ' σ' (e.trans e')
  | ct ρ' st' => exact fun H' μ' σ' e' => h H' μ' σ' (e.trans e')
  | rt v st' => exact fun H' μ' σ' e' => h H' μ' σ' (e.trans e')
  | ex c fs ρ' st' => exact fun H' μ' σ' cls d e' => h H' μ' σ' cls d (e.trans e')
  | no => exact h
theorem SQ.out {α : Type} {r : R α} {f : α → Sto → O} (n : EnR L H μ ρ σ) (h : SQ L W H μ (r.out ρ f) D) : RQ L H μ (WE W σ) r fun a st' H' μ' => SQ L W H' μ' (f a st') D := by
  cases r with
  | ok a st => exact fun H' μ' e _ => SQ.ext e h
  | ex c fs st => exact fun H' μ' cls d e s x => h H' μ' σ cls d e s (n.ext e) x
  | no => exact h
theorem SQ.nx {ρ' : En} (h : SQ L W H μ (.nx ρ' st) D) (S : Sim L H μ st) (n : EnR L H μ ρ' σ) : D.nx σ H := h H μ σ (Ext.refl _ _) S n
theorem SQ.thn {f : En → Sto → O} (h : SQ L W H μ (o.then f) D) : SQ L W H μ o { D with nx := fun σ' H' => ∃ ρ' μ' st', Sim L H' μ' st' ∧ EnR L H' μ' ρ' σ' ∧ SQ L W H' μ' (f ρ' st') D } := by
  cases o with
  | nx ρ' st' => exact fun H' μ' σ' e s n => ⟨ρ', μ', st', s, n, SQ.ext e h⟩
  | _ => exact h
/-- one after the other -/
theorem tE_out {f : Vl → Sto → O} {Q1 : VK} {e : E} (S : Sim L H μ st) (n : EnR L H μ ρ σ) (h : SQ L W H μ ((evE C e ρ st).out ρ f) D)
    (k : ∀ u x st' H' μ', Ext H μ H' μ' → Sim L H' μ' st' → EnR L H' μ' ρ σ → RV L H' μ' u x → SQ L W H' μ' (f u st') D → Q1 x H') : tE L W C e σ H Q1 :=
  ⟨ρ, μ, st, S, n, (h.out n).mono fun a st' H' μ' e s q u r => k a u st' H' μ' e s (n.ext e) r q⟩
theorem tT_out {f : Vl → Sto → O} {Q1 : Bool → Hp → Prop} {e : E} (S : Sim L H μ st) (n : EnR L H μ ρ σ) (h : SQ L W H μ ((evE C e ρ st).out ρ f) D)
    (hb : ∀ v st H μ, SQ L W H μ (f v st) D → ∃ b, v = .d (.bl b))
    (k : ∀ b st' H' μ', Ext H μ H' μ' → Sim L H' μ' st' → EnR L H' μ' ρ σ → SQ L W H' μ' (f (.d (.bl b)) st') D → Q1 b H') : tT L W C e σ H Q1 :=
  ⟨ρ, μ, st, S, n, (h.out n).mono fun a st' H' μ' e s q => by
    obtain ⟨b, rfl⟩ := hb _ _ _ _ q
    exact ⟨b, rfl, k b st' H' μ' e s (n.ext e) q⟩⟩

/-! ### a new list is locked behind the statement -/
def NL (Q : L2.St → Hp → Prop) : L2.St → Hp → Prop := fun σ H => Q σ H ∨ ∃ p u, H p = some u ∧ Mut (some u) ∧ ∀ od, Q σ (upd H p (.frz od u))
theorem PS_lk {X : L2.Cx} {s : Stmt} {t : TS} (h : PS X s t) : PS X s (fun D σ H => t { D with nx := NL D.nx } σ H) :=
  ⟨fun pins s σ H D I hq => L2.thn (h.run pins s σ H { D with nx := NL D.nx } I hq) fun f s' h' => by
    cases f with
    | next =>
      obtain ⟨σ', H', I', q⟩ := h'
      rcases q with q | ⟨p, u, h1, h2, q⟩
      · exact ⟨σ', H', I', q⟩
      · obtain ⟨od, I2⟩ := I'.lock h1 h2
        exact ⟨σ', _, I2, q od⟩
    | brk => exact h'
    | cont => exact h'
    | ret u => exact h'⟩
end
variable (L : Lw) (M : Nm) (k : Nat) (C : Ev.Ctx)
abbrev GS (s : Ev.S) : Prop := ∀ (X : L2.Cx) (W : WX) (ps : Stmt), GdF L k X → Takes X W → PassesOwn (model X.prog X.w) X.A X.env X.xe → chkS M X.N s X.env.scope ps = true → PS X ps (tS L W C s)
abbrev GSs (s : Ss) : Prop := ∀ (X : L2.Cx) (W : WX) (ps : List Stmt), GdF L k X → Takes X W → PassesOwn (model X.prog X.w) X.A X.env X.xe → chkSs M X.N s X.env.scope ps = true → PSs X ps (tSs L W C s)
variable {L M k C}
section
variable {X : L2.Cx} {W : WX}
theorem gSs_nil : GSs L M k C .nil := by
  intro X W ps g tk po h
  cases ps with
  | nil =>
    refine pss_nil.imp fun D σ H z => ?_
    obtain ⟨ρ, μ, st, S, n, z⟩ := z
    exact SQ.nx z S n
  | cons _ _ => cases h
theorem gSs_cons {s : Ev.S} {r : Ss} (hs : GS L M k C s) (hr : GSs L M k C r) : GSs L M k C (.cons s r) := by
  intro X W ps g tk po h
  cases ps with
  | nil => cases h
  | cons p q =>
    have h : (chkS M X.N s X.env.scope p && chkSs M X.N r X.env.scope q) = true := h
    rw [Bool.and_eq_true] at h
    refine (pss_cons (hs X W p g tk po h.1) (hr X W q g tk po h.2)).imp fun D σ H z => ?_
    obtain ⟨ρ, μ, st, S, n, z⟩ := z
    exact ⟨ρ, μ, st, S, n, SQ.thn z⟩
theorem gS_pas : GS L M k C .pas := by
  intro X W ps g tk po h
  cases ps with
  | Pass pos =>
    refine ps_pass.imp fun D σ H z => ?_
    obtain ⟨ρ, μ, st, S, n, z⟩ := z
    exact SQ.nx z S n
  | _ => cases h
theorem gS_brk : GS L M k C .brk := by
  intro X W ps g tk po h
  cases ps with
  | Break pos =>
    refine ps_break.imp fun D σ H z => ?_
    obtain ⟨ρ, μ, st, S, n, z⟩ := z
    exact z H μ σ (Ext.refl _ _) S n
  | _ => cases h
theorem gS_cnt : GS L M k C .cnt := by
  intro X W ps g tk po h
  cases ps with
  | Continue pos =>
    refine ps_continue.imp fun D σ H z => ?_
    obtain ⟨ρ, μ, st, S, n, z⟩ := z
    exact z H μ σ (Ext.refl _ _) S n
  | _ => cases h
theorem gS_retN : GS L M k C .retN := by
  intro X W ps g tk po h
  cases ps with
  | Return o pos =>
    cases o with
    | none =>
      refine ps_retN.imp fun D σ H z => ?_
      obtain ⟨ρ, μ, st, S, n, z⟩ := z
      exact z H μ .non (Ext.refl _ _) S rfl
    | some _ => cases h
  | _ => cases h
theorem gS_ret {e : E} (he : GE L M k C e) : GS L M k C (.ret e) := by
  intro X W ps g tk po h
  cases ps with
  | Return o pos =>
    cases o with
    | none => cases h
    | some pe =>
      have h : chkE M X.N e X.env.scope pe = true := h
      refine (ps_ret (he X W pe g.g tk h).1).imp fun D σ H z => ?_
      obtain ⟨ρ, μ, st, S, n, z⟩ := z
      refine tE_out S n z fun u x st' H' μ' e S' n' r z => ?_
      exact z H' μ' x (Ext.refl _ _) S' r
  | _ => cases h
theorem gS_exp {e : E} (he : GE L M k C e) : GS L M k C (.exp e) := by
  intro X W ps g tk po h
  cases ps with
  | Expr pe pos =>
    have h : (chkE M X.N e X.env.scope pe && !compP pe) = true := h
    rw [Bool.and_eq_true] at h
    refine (ps_expr (he X W pe g.g tk h.1).1 (chk_comp (by simpa using h.2))).imp fun D σ H z => ?_
    obtain ⟨ρ, μ, st, S, n, z⟩ := z
    refine tE_out S n z fun u x st' H' μ' e S' n' r z => ?_
    exact SQ.nx z S' n'
  | _ => cases h
theorem gS_ite {c : E} {a b : Ss} (hc : GE L M k C c) (ha : GSs L M k C a) (hb : GSs L M k C b) : GS L M k C (.ite c a b) := by
  intro X W ps g tk po h
  cases ps with
  | If pc pa pb pos =>
    have h : (tstB c && chkE M X.N c X.env.scope pc && chkSs M X.N a X.env.scope pa && chkSs M X.N b X.env.scope pb) = true := h
    simp only [Bool.and_eq_true] at h
    obtain ⟨⟨⟨h1, h2⟩, h3⟩, h4⟩ := h
    refine (ps_if ((hc X W pc g.g tk h2).2 h1) (ha X W pa g tk po h3) (hb X W pb g tk po h4)).imp fun D σ H z => ?_
    obtain ⟨ρ, μ, st, S, n, z⟩ := z
    refine tT_out S n z (fun v st H μ q => ?_) fun d st' H' μ' e S' n' z => ?_
    · split at q
      · exact ⟨true, rfl⟩
      · exact ⟨false, rfl⟩
      · exact q.elim
    · cases d with
      | true => exact ⟨ρ, μ', st', S', n', z⟩
      | false => exact ⟨ρ, μ', st', S', n', z⟩
  | _ => cases h
/-- the stores of a tuple's targets are not turned round -/
theorem stores_none {l vs : List Expr} {k1 k2 : Nat} {p1 p2 : Pos} {env : Env} (h : vs.all (foldedForSure 8) = true) : swappedStores [.Tuple l k1 p1] (.Tuple vs k2 p2) env = pure none := by
  unfold swappedStores
  simp only [h]
  repeat (first | rfl | split)
theorem stores_t {l : List Expr} {k1 : Nat} {p1 : Pos} {pe : Expr} {env : Env} (h : ∀ vs k p, pe ≠ .Tuple vs k p) : swappedStores [.Tuple l k1 p1] pe env = pure none := by
  cases pe with
  | Tuple vs k p => exact absurd rfl (h vs k p)
  | _ => rfl
theorem stores_s {o i : Expr} {p1 : Pos} {pe : Expr} {env : Env} : swappedStores [.Subscript o i p1] pe env = pure none := by
  cases pe <;> rfl
theorem sole_tup {l : List Expr} {k1 : Nat} {p1 : Pos} {pe : Expr} {n : Nat} {env : Env} : swapsWithSole [.Tuple l k1 p1] pe n env = pure false := by
  cases pe <;> rfl
theorem sole_sub {o i : Expr} {p1 : Pos} {pe : Expr} {n : Nat} {env : Env} : swapsWithSole [.Subscript o i p1] pe n env = pure false := by
  cases pe <;> rfl
theorem gS_unp {ts : Tgs} {e : E} (he : GE L M k C e) : GS L M k C (.unp ts e) := by
  intro X W ps g tk po h
  unfold chkS at h
  split at h
  · rename_i l kk pt pe pos
    simp only [Bool.and_eq_true] at h
    obtain ⟨⟨h1, h2⟩, h3⟩ := h
    obtain ⟨l1, l2, l3⟩ := chkTs_each (env := X.env) h1
    have hw : swappedStores [.Tuple l kk pt] pe X.env = pure none := by
      cases pe with
      | Tuple vs k2 p2 => exact stores_none h3
      | _ => exact stores_t fun _ _ _ z => by cases z
    refine (ps_asg (he X W pe g.g tk h2).1 (pg_T (t := .tp ts) (l := false) g.g.K g.g.calm g.g.nd (fun _ => g.fn) (p := .Tuple l kk pt) h1) sole_tup hw).imp fun D σ H z => ?_
    obtain ⟨ρ, μ, st, S, n, z⟩ := z
    refine tE_out S n z fun u x st' H' μ' e S' n' r z => ?_
    cases u with
    | d y =>
      cases y with
      | tup xs =>
        simp only at z
        split at z
        · rename_i ρ' hb
          exact ⟨.tup xs, ρ, ρ', μ', r, n', hb, fun σ2 n2 _ _ => SQ.nx z S' n2⟩
        · exact z.elim
      | _ => exact z.elim
    | _ => exact z.elim
  · cases h
theorem gS_idx {o i e : E} (ho : GE L M k C o) (hi : GE L M k C i) (he : GE L M k C e) : GS L M k C (.idx o i e) := by
  intro X W ps g tk po h
  unfold chkS at h
  split at h
  · rename_i po' pi p1 pe pos
    simp only [Bool.and_eq_true] at h
    obtain ⟨⟨h1, h2⟩, h3⟩ := h
    refine (ps_asg (he X W pe g.g tk h3).1 (pg_sub (pos := p1) (ho X W po' g.g tk h1).1 (hi X W pi g.g tk h2).1 (set_ok g.g) (by
      intro v
      cases pi with
      | Slice a b c d => rw [no_slice] at h2; cases h2
      | _ => rfl)) sole_sub stores_s).imp fun D σ H z => ?_
    obtain ⟨ρ, μ, st, S, n, z⟩ := z
    refine tE_out S n z fun v x st' H' μ' e S' n' r z => ?_
    refine tE_out S' n' z fun u y st2 H2 μ2 e2 S2 n2 r2 z => ?_
    refine tE_out S2 n2 z fun w t st3 H3 μ3 e3 S3 n3 r3 z => ?_
    split at z
    · rename_i s4 hs
      exact ⟨u, w, v, μ3, st3, s4, S3, r2.ext e3, r3, (r.ext e2).ext e3, hs, fun H' μ' e4 S4 => z H' μ' σ e4 S4 (n3.ext e4)⟩
    · exact z.elim
  · cases h
end
end EvS

namespace EvS
open PySem PySem.Spec PyProof.Rows L2 Ev
variable {L : Lw} {M : Nm} {k : Nat} {C : Ev.Ctx}
section
variable {X : L2.Cx} {W : WX}
theorem loc_fn (g : GdF L k X) {x : Str} (h : locB X.env.scope x = true) : L2.Loc X.env.scope x ∧ (X.fn x = true ∨ X.env.scope.names.lookup x = some .local) := by
  rcases loc_of h with q | q
  · exact ⟨.inl q, .inr q⟩
  · exact ⟨.inr q, .inl (g.fn x q)⟩
theorem swB_of {sc : Scope} {x : Str} {px : Pos} {pe : Expr} (h : swB sc x px pe = true) : ∃ elt gs scope p, pe = .ListComp elt gs scope p ∧ sc.names.lookup x = some .local ∧ (px.line == p.line) = true ∧ (scope.names.any fun (n, k) => n == x && (k == .local || k == .cell)) = false := by
  unfold swB at h
  split at h
  · rename_i elt gs s p
    simp only [Bool.and_eq_true] at h
    exact ⟨elt, gs, s, p, rfl, lcl_of h.1.1, h.1.2, by simpa using h.2⟩
  · cases h
theorem chk_lc {M : Nm} {N : List Str} {e : E} {sc : Scope} {elt : Expr} {gs : List Comprehension} {scope : Scope} {p : Pos} (h : chkE M N e sc (.ListComp elt gs scope p) = true) : ∃ el t it c own, e = .lc el t it c own := by
  cases e with
  | lc el t it c own => exact ⟨el, t, it, c, own, rfl⟩
  | blt b es => cases b <;> cases h
  | _ => cases h
/-- what a comprehension is made of -/
theorem lc_set (hC : CxOk L M k C) (g : Gd L k X) (tk : Takes X W) {elt : E} {t : Tg} {it : Ev.It} {c : Po} {own : List Nat} {i : Nat} {y : Str} {py : Pos} {pelt : Expr} {gs : List Comprehension} {scope : Scope} {pos spos : Pos}
    (h : chkE M X.N (.lc elt t it c own) X.env.scope (.ListComp pelt gs scope pos) = true) (hy : X.N[i]? = some y) (hyl : X.env.scope.names.lookup y = some .local)
    (hsw : swapsWith (.ListComp pelt gs scope pos) (some (.Name y py)) spos.line X.env = pure true) :
    ∃ te : TE, PS X (.Assign [.Name y py] (.ListComp pelt gs scope pos) spos) (tAsg te (gName i)) ∧ ∀ σ H Q Q', (∀ v H, QL Q v H → Q' v H) → tE L W C (.lc elt t it c own) σ H Q → te σ H Q' := by
  cases gs with
  | nil =>
    have h : false = true := h
    cases h
  | cons g1 gs =>
    cases gs with
    | cons _ _ =>
      obtain ⟨a1, a2, a3, a4⟩ := g1
      have h : false = true := h
      cases h
    | nil =>
      obtain ⟨ptg, pit, pifs, isa⟩ := g1
      unfold chkE at h
      simp only [Bool.and_eq_true] at h
      obtain ⟨⟨⟨⟨⟨⟨⟨h1, h2⟩, h3⟩, h4⟩, h5⟩, h6⟩, h7⟩, h8⟩ := h
      have e1 := of_decide_eq_true h1
      subst e1
      have ok := blkOk_by h4
      obtain ⟨r, hr⟩ := Option.isSome_iff_exists.mp h3
      have eo : own1 X.N own = r := by unfold own1; rw [hr]; rfl
      rw [eo] at ok
      have e2 : r.map (·.2) = own := ownOf_snd hr
      obtain ⟨pi, pf⟩ := okIt hC it X W ptg pit g tk h2
      refine ⟨_, ps_setLc (wi := tI L W C it) (g := gT L t) (tt := tPB L (fun _ _ _ _ => False) C c) (te := tE L (fun _ _ _ _ => False) C elt) g.calm g.nd hy hyl hsw pi ok
          (fun s H A cl fp => pg_T (X := X.blk s H scope (compEnvC scope cl A X.env) fp) (l := true) g.K g.calm g.nd (fun z => by cases z) t ptg h6)
          (fun s H A cl fp => (okPo hC c _ _ (g.blk ok.kind s H A cl fp) takesN).2 pifs h7)
          (fun s H A cl fp => (okE hC elt _ _ pelt (g.blk ok.kind s H A cl fp) takesN h8).1) pf, fun σ H Q Q' hq z => ?_⟩
      rw [e2]
      exact lc_go (fun i hi => by
        have := List.all_eq_true.mp h5 i hi
        simpa using this) hq z
theorem gS_set (hC : CxOk L M k C) {i : Nat} {e : E} : GS L M k C (.set i e) := by
  intro X W ps g tk po h
  unfold chkS at h
  split at h
  · rename_i x px pe pos
    simp only [Bool.and_eq_true] at h
    obtain ⟨⟨⟨h1, h2⟩, h3⟩, h4⟩ := h
    obtain ⟨n1, n2, n3⟩ := g.g.var h1
    obtain ⟨l1, l2⟩ := loc_fn g h2
    rw [Bool.or_eq_true] at h4
    by_cases hsw : swB X.env.scope x px pe = true
    · obtain ⟨elt, gs, scope, p, rfl, s1, s2, s3⟩ := swB_of hsw
      obtain ⟨el, t, it, c, own, rfl⟩ := chk_lc h3
      obtain ⟨te, t1, t2⟩ := lc_set (W := W) (spos := pos) (py := px) hC g.g tk h3 n1 s1 (sw_true g.g.up s1 s2 s3)
      refine (PS_lk t1).imp fun D σ H z => ?_
      obtain ⟨ρ, μ, st, S, n, z⟩ := z
      have w : tE L W C (.lc el t it c own) σ H (fun u H' => D.nx (σ.set i (some u)) H') := tE_out S n z fun u x st' H' μ' e S' n' r z => SQ.nx z S' (n'.put i r)
      refine t2 σ H _ _ (fun u H' q => ?_) w
      rcases q with q | ⟨p, w, rfl, q1, q2, q3⟩
      · exact .inl q
      · exact .inr ⟨p, w, q1, q2, q3⟩
    · have hc : swapsWith pe (some (.Name x px)) pos.line X.env = pure false := by
        rcases h4 with h4 | h4
        · exact absurd h4 hsw
        · by_cases hcp : compP pe = true
          · rw [hcp] at h4
            have hl : lclB X.env.scope x = false := by simpa using h4
            have hk : (X.env.kindOf x == some NameKind.local) = false := by
              rw [beq_eq_false_iff_ne]
              intro q
              unfold lclB at hl
              rw [show X.env.scope.names.lookup x = some .local from q] at hl
              cases hl
            cases pe with
            | ListComp a b c d => unfold swapsWith; simp only [hk, Bool.and_false, Bool.false_and]
            | SetComp a b c d => unfold swapsWith; simp only [hk, Bool.and_false, Bool.false_and]
            | DictComp a b c d f => unfold swapsWith; simp only [hk, Bool.and_false, Bool.false_and]
            | _ => rfl
          · exact chk_comp (by simpa using hcp)
      refine (ps_set g.g.nd n1 l1 (okE hC e X W pe g.g tk h3).1 hc l2).imp fun D σ H z => ?_
      obtain ⟨ρ, μ, st, S, n, z⟩ := z
      exact tE_out S n z fun u x st' H' μ' e S' n' r z => SQ.nx z S' (n'.put i r)
  · cases h
end
end EvS

namespace EvS
open PySem PySem.Spec PyProof.Rows L2 Ev
variable {L : Lw} {M : Nm} {k : Nat} {C : Ev.Ctx}
section
variable {X : L2.Cx} {W : WX}
theorem not_t {b : Bool} (h : (!b) = true) : b = false := by cases b <;> first | rfl | cases h
def starB : Expr → Bool
  | .Starred _ _ => true
  | _ => false
theorem star_no {N : List Str} {e : E} {sc : Scope} {pe : Expr} (h : chkE M N e sc pe = true) : starB pe = false := by
  cases pe with
  | Starred a p => rw [no_star] at h; cases h
  | _ => rfl
theorem any_star (vs : List Expr) (h : vs.any starB = false) : (vs.any fun | .Starred .. => true | _ => false) = false := by
  have e : (fun | .Starred .. => true | _ => false : Expr → Bool) = starB := by
    funext x
    cases x <;> rfl
  rw [e]
  exact h
theorem swap_of {ts vs : List Expr} {names : List Str} {p1 p2 : Pos} {k1 k2 : Nat} {env : Env} (h0 : (!(ts.length == 2 || ts.length == 3) || vs.length != ts.length || env.blockKind != .function) = false) (h1 : vs.any starB = false)
    (hn : (ts.filterMap fun
      | .Name id pos => if env.kindOf id == some .local && pos.line == ((ts.head?.map (·.pos.line)).getD 0) then some id else none
      | _ => none) = names) (h2 : (names.length != ts.length || names.eraseDups.length != names.length) = false) (h3 : vs.all (foldedForSure 8) = false) (h4 : vs.all (constantsAlone 8) = false) :
    swappedStores [.Tuple ts k1 p1] (.Tuple vs k2 p2) env = pure (some names) := by
  unfold swappedStores
  refine (if_neg (by rw [h0]; exact Bool.false_ne_true)).trans ?_
  refine (if_neg (Bool.eq_false_iff.mp (any_star vs h1))).trans ?_
  rw [← hn] at h2 ⊢
  refine (if_neg (Bool.eq_false_iff.mp h2)).trans ?_
  refine (if_neg (by rw [h3]; exact Bool.false_ne_true)).trans ?_
  refine (if_neg (by rw [h4]; exact Bool.false_ne_true)).trans ?_
  rfl
theorem blockK (g : Gd L k X) : X.env.blockKind = .function := by unfold Env.blockKind; rw [g.up]; rfl
theorem gS_par2 {i j : Nat} {a b : E} (ha : GE L M k C a) (hb : GE L M k C b) : GS L M k C (.par2 i j a b) := by
  intro X W ps g tk po h
  unfold chkS at h
  split at h
  · rename_i x px y py k1 p1 pa pb k2 p2 pos
    simp only [Bool.and_eq_true] at h
    obtain ⟨⟨⟨⟨⟨⟨⟨⟨⟨h1, h2⟩, h3⟩, h4⟩, h5⟩, h6⟩, h7⟩, h8⟩, h9⟩, h10⟩ := h
    have hx := lcl_of h3
    have hy := lcl_of h4
    have hij := of_decide_eq_true h5
    have hxy := of_decide_eq_true h6
    unfold parOk at h10
    rw [Bool.and_eq_true] at h10
    have kx : X.env.kindOf x = some .local := hx
    have ky : X.env.kindOf y = some .local := hy
    have ne : (y == x) = false := beq_eq_false_iff_ne.mpr (Ne.symm hxy)
    refine (ps_par g.g.calm g.g.nd (nm_of h1) (nm_of h2) hij hx hy (pa_cons (ha X W pa g.g tk h8).1 (pa_cons (hb X W pb g.g tk h9).1 pa_nil (chk_star h9)) (chk_star h8))
      (swap_of (by rw [blockK g.g]; rfl) (by simp [star_no h8, star_no h9]) ?_ ?_ (not_t h10.1) (not_t h10.2))).imp fun D σ H z => ?_
    · have hp : (py.line == px.line) = true := h7
      have e1 : py.line = px.line := by simpa using hp
      simp [List.filterMap_cons, kx, ky, Expr.pos, e1]
    · simp [List.eraseDups, List.eraseDupsBy, List.eraseDupsBy.loop, ne]
    · obtain ⟨ρ, μ, st, S, n, z⟩ := z
      refine tE_out S n z fun u v st' H' μ' e S' n' r z => ?_
      refine tE_out S' n' z fun u2 v2 st2 H2 μ2 e2 S2 n2 r2 z => ?_
      exact ⟨v, v2, rfl, SQ.nx z S2 ((n2.put i (r.ext e2)).put j r2)⟩
  · cases h
theorem gS_par3 {i j l : Nat} {a b c : E} (ha : GE L M k C a) (hb : GE L M k C b) (hc : GE L M k C c) : GS L M k C (.par3 i j l a b c) := by
  intro X W ps g tk po h
  unfold chkS at h
  split at h
  · rename_i x px y py v pv k1 p1 pa pb pc k2 p2 pos
    simp only [Bool.and_eq_true] at h
    obtain ⟨⟨⟨⟨⟨⟨⟨⟨⟨⟨⟨⟨⟨⟨⟨⟨⟨h1, h2⟩, h3⟩, h4⟩, h5⟩, h6⟩, h7⟩, h8⟩, h9⟩, h10⟩, h11⟩, h12⟩, h13⟩, h14⟩, h15⟩, h16⟩, h17⟩, h18⟩ := h
    have hx := lcl_of h4
    have hy := lcl_of h5
    have hv := lcl_of h6
    unfold parOk at h18
    rw [Bool.and_eq_true] at h18
    have kx : X.env.kindOf x = some .local := hx
    have ky : X.env.kindOf y = some .local := hy
    have kv : X.env.kindOf v = some .local := hv
    have ne1 : (y == x) = false := beq_eq_false_iff_ne.mpr (Ne.symm (of_decide_eq_true h10))
    have ne2 : (v == x) = false := beq_eq_false_iff_ne.mpr (Ne.symm (of_decide_eq_true h11))
    have ne3 : (v == y) = false := beq_eq_false_iff_ne.mpr (Ne.symm (of_decide_eq_true h12))
    refine (ps_par3 g.g.calm g.g.nd (nm_of h1) (nm_of h2) (nm_of h3) (of_decide_eq_true h7) (of_decide_eq_true h8) (of_decide_eq_true h9) hx hy hv
      (pa_cons (ha X W pa g.g tk h15).1 (pa_cons (hb X W pb g.g tk h16).1 (pa_cons (hc X W pc g.g tk h17).1 pa_nil (chk_star h17)) (chk_star h16)) (chk_star h15))
      (swap_of (by rw [blockK g.g]; rfl) (by simp [star_no h15, star_no h16, star_no h17]) ?_ ?_ (not_t h18.1) (not_t h18.2))).imp fun D σ H z => ?_
    · have hp : (py.line == px.line) = true := h13
      have hp2 : (pv.line == px.line) = true := h14
      simp [List.filterMap_cons, kx, ky, kv, Expr.pos]
      have e1 : py.line = px.line := by simpa using hp
      have e2 : pv.line = px.line := by simpa using hp2
      simp [e1, e2]
    · simp [List.eraseDups, List.eraseDupsBy, List.eraseDupsBy.loop, ne1, ne2, ne3]
    · obtain ⟨ρ, μ, st, S, n, z⟩ := z
      refine tE_out S n z fun u v st' H' μ' e S' n' r z => ?_
      refine tE_out S' n' z fun u2 v2 st2 H2 μ2 e2 S2 n2 r2 z => ?_
      refine tE_out S2 n2 z fun u3 v3 st3 H3 μ3 e3 S3 n3 r3 z => ?_
      exact ⟨v, v2, v3, rfl, SQ.nx z S3 (((n3.put i ((r.ext e2).ext e3)).put j (r2.ext e3)).put l r3)⟩
  · cases h
/-- a turn of a for -/
theorem forLoop_cons {H : Hp} {μ : Mu} {step : D → En → Sto → O} {x : D} {xs : List D} {ρ : En} {st : Sto} {D : Ends} (h : SQ L W H μ (forLoop step (x :: xs) ρ st) D) :
    SQ L W H μ (step x ρ st) { D with nx := fun σ' H' => ∃ ρ' μ' st', Ext H μ H' μ' ∧ Sim L H' μ' st' ∧ EnR L H' μ' ρ' σ' ∧ SQ L W H' μ' (forLoop step xs ρ' st') D, ct := fun σ' H' => ∃ ρ' μ' st', Ext H μ H' μ' ∧ Sim L H' μ' st' ∧ EnR L H' μ' ρ' σ' ∧ SQ L W H' μ' (forLoop step xs ρ' st') D, bk := D.nx } := by
  unfold forLoop at h
  cases q : step x ρ st with
  | nx ρ' st' =>
    rw [q] at h
    exact fun H' μ' σ' e s n => ⟨ρ', μ', st', e, s, n, SQ.ext e h⟩
  | ct ρ' st' =>
    rw [q] at h
    exact fun H' μ' σ' e s n => ⟨ρ', μ', st', e, s, n, SQ.ext e h⟩
  | bk ρ' st' =>
    rw [q] at h
    exact h
  | rt v st' =>
    rw [q] at h
    exact h
  | ex c fs ρ' st' =>
    rw [q] at h
    exact h
  | no =>
    rw [q] at h
    exact h
theorem gS_for {t : Tg} {it : Ev.It} {b : Ss} (hi : GI L M k C it) (hb : GSs L M k C b) : GS L M k C (.for_ t it b) := by
  intro X W ps g tk po h
  unfold chkS at h
  split at h
  · rename_i ptg pit pb pos
    simp only [Bool.and_eq_true] at h
    obtain ⟨⟨h1, h2⟩, h3⟩ := h
    obtain ⟨pi, pf⟩ := hi X W ptg pit g.g tk h2
    refine (ps_for po g.g.calm pi (pg_T (t := t) (l := false) g.g.K g.g.calm g.g.nd (fun _ => g.fn) ptg h1) (hb X W pb g tk po h3) pf).imp fun D σ H z => ?_
    obtain ⟨ρ, μ, st, S, n, z⟩ := z
    refine ⟨ρ, μ, st, S, n, (z.out n).mono fun xs st1 H1 μ1 e1 S1 z1 J wd => ?_⟩
    obtain ⟨hlen, G, Y, walk, gst, yl⟩ := wd
    refine for_it walk (fun i σ2 H2 => ∃ ρ2 μ2 st2, Ext H1 μ1 H2 μ2 ∧ Sim L H2 μ2 st2 ∧ EnR L H2 μ2 ρ2 σ2 ∧ SQ L W H2 μ2 (forLoop (fun x ρ st => match bindT t x ρ with
      | some ρ' => evSs C b ρ' st
      | none => .no) (xs.drop i) ρ2 st2) D) ?_ ?_ ?_ ?_
    · exact ⟨ρ, μ1, st1, Ext.refl _ _, S1, n.ext e1, z1⟩
    · rintro i σ2 H2 hi ⟨ρ2, μ2, st2, e2, _⟩
      exact gst H2 e2.im
    · rintro i x σ2 H2 H3 hi ⟨ρ2, μ2, st2, e2, S2, n2, z2⟩ y
      obtain ⟨nw, d, hd, rd⟩ := yl i H2 x H3 hi e2.im y
      obtain ⟨e3, S3⟩ := nw.ext S2
      have hdrop : xs.drop i = d :: xs.drop (i + 1) := by
        obtain ⟨h1, h2⟩ := List.getElem?_eq_some_iff.mp hd
        rw [List.drop_eq_getElem_cons h1, h2]
      rw [hdrop] at z2
      have z3 := forLoop_cons (SQ.ext e3 z2)
      cases hbd : bindT t d ρ2 with
      | none =>
        rw [hbd] at z3
        exact z3.elim
      | some ρ' =>
        rw [hbd] at z3
        refine ⟨d, ρ2, ρ', μ2, rd, n2.ext e3, hbd, fun σ4 n4 _ _ => ⟨ρ', μ2, st2, S3, n4, ?_⟩⟩
        have key : ∀ σ' H', (∃ ρ' μ' st', Ext H3 μ2 H' μ' ∧ Sim L H' μ' st' ∧ EnR L H' μ' ρ' σ' ∧ SQ L W H' μ' (forLoop (fun x ρ st => match bindT t x ρ with
            | some ρ' => evSs C b ρ' st
            | none => .no) (xs.drop (i + 1)) ρ' st') D) → ∃ ρ' μ' st', Ext H1 μ1 H' μ' ∧ Sim L H' μ' st' ∧ EnR L H' μ' ρ' σ' ∧ SQ L W H' μ' (forLoop (fun x ρ st => match bindT t x ρ with
            | some ρ' => evSs C b ρ' st
            | none => .no) (xs.drop (i + 1)) ρ' st') D := fun σ' H' ⟨ρ', μ', st', e4, q⟩ => ⟨ρ', μ', st', (e2.trans e3).trans e4, q⟩
        simp only at z3
        cases q : evSs C b ρ' st2 with
        | nx ρ5 st5 =>
          rw [q] at z3
          exact fun H' μ' σ' e s n => key _ _ (z3 H' μ' σ' e s n)
        | ct ρ5 st5 =>
          rw [q] at z3
          exact fun H' μ' σ' e s n => key _ _ (z3 H' μ' σ' e s n)
        | bk ρ5 st5 =>
          rw [q] at z3
          exact z3
        | rt v st5 =>
          rw [q] at z3
          exact z3
        | ex c fs ρ5 st5 =>
          rw [q] at z3
          exact z3
        | no =>
          rw [q] at z3
          exact z3
    · rintro σ2 H2 ⟨ρ2, μ2, st2, e2, S2, n2, z2⟩
      rw [List.drop_length] at z2
      exact SQ.nx z2 S2 n2
  · cases h
theorem gS_whl {c : E} {b : Ss} (hc : GE L M k C c) (hb : GSs L M k C b) : GS L M k C (.whl c b) := by
  intro X W ps g tk po h
  unfold chkS at h
  split at h
  · rename_i pc pb pos
    simp only [Bool.and_eq_true] at h
    obtain ⟨⟨h1, h2⟩, h3⟩ := h
    refine (ps_while po ((hc X W pc g.g tk h2).2 h1) (hb X W pb g tk po h3)).imp fun D σ H z => ?_
    obtain ⟨ρ, μ, st, S, n, z⟩ := z
    refine ⟨fun m σ H => ∃ ρ μ st, Sim L H μ st ∧ EnR L H μ ρ σ ∧ SQ L W H μ (whlLoop (fun ρ st => evE C c ρ st) (fun ρ st => evSs C b ρ st) m ρ st) D, ⟨turns, ρ, μ, st, S, n, z⟩, ?_⟩
    rintro m σ H ⟨ρ, μ, st, S, n, z⟩
    cases m with
    | zero => exact z.elim
    | succ m =>
      refine tT_out S n z (fun v st H μ q => ?_) fun d st' H' μ' e S' n' z => ?_
      · split at q
        · exact ⟨true, rfl⟩
        · exact ⟨false, rfl⟩
        · exact q.elim
      · cases d with
        | false => exact SQ.nx z S' n'
        | true =>
          simp only [if_true]
          refine ⟨fun σ' H' => ∃ ρ μ st, Sim L H' μ st ∧ EnR L H' μ ρ σ' ∧ SQ L W H' μ (whlLoop (fun ρ st => evE C c ρ st) (fun ρ st => evSs C b ρ st) m ρ st) D, fun σ' H' q => ⟨m, Nat.lt_succ_self _, q⟩, ρ, μ', st', S', n', ?_⟩
          simp only at z
          cases q : evSs C b ρ st' with
          | nx ρ5 st5 =>
            rw [q] at z
            exact fun H' μ' σ' e s n => ⟨ρ5, μ', st5, s, n, SQ.ext e z⟩
          | ct ρ5 st5 =>
            rw [q] at z
            exact fun H' μ' σ' e s n => ⟨ρ5, μ', st5, s, n, SQ.ext e z⟩
          | bk ρ5 st5 =>
            rw [q] at z
            exact z
          | rt v st5 =>
            rw [q] at z
            exact z
          | ex cc fs ρ5 st5 =>
            rw [q] at z
            exact z
          | no =>
            rw [q] at z
            exact z
  · cases h
theorem gS_none {s : Ev.S} (h : ∀ N sc ps, chkS M N s sc ps = false) : GS L M k C s := fun X W ps g tk po z => by rw [h] at z; cases z
mutual
theorem okS (hC : CxOk L M k C) : ∀ s : Ev.S, GS L M k C s
  | .set i e => gS_set hC
  | .unp ts e => gS_unp (okE hC e)
  | .par2 i j a b => gS_par2 (okE hC a) (okE hC b)
  | .par3 i j l a b c => gS_par3 (okE hC a) (okE hC b) (okE hC c)
  | .idx o i e => gS_idx (okE hC o) (okE hC i) (okE hC e)
  | .exp e => gS_exp (okE hC e)
  | .ite c a b => gS_ite (okE hC c) (okSs hC a) (okSs hC b)
  | .for_ t it b => gS_for (okIt hC it) (okSs hC b)
  | .whl c b => gS_whl (okE hC c) (okSs hC b)
  | .ret e => gS_ret (okE hC e)
  | .retN => gS_retN
  | .brk => gS_brk
  | .cnt => gS_cnt
  | .pas => gS_pas
  | .rse _ => gS_none fun _ _ _ => rfl
  | .nev => fun X W ps g tk po h => ps_never.imp fun D σ H z => by
    obtain ⟨ρ, μ, st, S, n, z⟩ := z
    exact z
theorem okSs (hC : CxOk L M k C) : ∀ s : Ss, GSs L M k C s
  | .nil => gSs_nil
  | .cons s r => gSs_cons (okS hC s) (okSs hC r)
end
end
end EvS

namespace EvS
open PySem PySem.Spec PyProof.Rows L2 Ev
/-- a def of the text and its own tree -/
structure Df where
  name : Str
  params : Arguments
  body : List Stmt
  scope : Scope
  N : List Str
  ps : List Str
  own : Fd
def dfB (M : Nm) (d : Df) : Bool :=
  (match d.scope.kind with
    | .function => true
    | _ => false) && !d.scope.isCoroutine && !d.scope.isGenerator && decide d.N.Nodup && decide (d.N.take d.ps.length = d.ps) && (d.ps.all fun x => locB d.scope x) && (d.scope.names.all fun y => match y.2 with
    | .free => false
    | _ => true) && (d.N.all fun x => !(x == ("__debug__" : Str)) && !(x == ("__classdict__" : Str))) && !(d.name == ("__debug__" : Str)) && decide (d.own.np = d.ps.length) && decide (d.own.nn = d.N.length) && chkSs M d.N d.own.body d.scope d.body
structure DfOk (M : Nm) (d : Df) : Prop where
  chk : dfB M d = true
  bind : ∀ (kV doc pm : Value) (an : Option Addr) (cdv ct : Value) (us : List Value), us.length = d.ps.length → bindArgs (PySem.W.fnOf d.name d.name d.params d.body d.scope .none kV doc pm an cdv ct) ⟨us, []⟩ = pure (d.ps.zip us)
theorem dfB_all {M : Nm} {d : Df} (h : dfB M d = true) : FnScope d.N d.ps d.scope ∧ (∀ x ∈ d.N, (x == ("__debug__" : Str)) = false ∧ (x == ("__classdict__" : Str)) = false) ∧ (d.name == ("__debug__" : Str)) = false ∧ d.own.np = d.ps.length ∧ d.own.nn = d.N.length ∧ chkSs M d.N d.own.body d.scope d.body = true := by
  unfold dfB at h
  simp only [Bool.and_eq_true] at h
  obtain ⟨⟨⟨⟨⟨⟨⟨⟨⟨⟨⟨h1, h2⟩, h3⟩, h4⟩, h5⟩, h6⟩, h7⟩, h8⟩, h9⟩, h10⟩, h11⟩, h12⟩ := h
  refine ⟨⟨?_, not_t h2, not_t h3, of_decide_eq_true h4, of_decide_eq_true h5, fun x hx => loc_of (List.all_eq_true.mp h6 x hx), fun y hy e => ?_⟩, fun x hx => ?_, not_t h9, of_decide_eq_true h10, of_decide_eq_true h11, h12⟩
  · split at h1
    · assumption
    · cases h1
  · have q := List.all_eq_true.mp h7 y hy
    rw [e] at q
    cases q
  · have q := List.all_eq_true.mp h8 x hx
    rw [Bool.and_eq_true] at q
    exact ⟨not_t q.1, not_t q.2⟩
section
variable {L : Lw} {H H' : Hp} {μ μ' : Mu} {st st' : Sto}
mutual
theorem RV.pure : ∀ {v : Vl} {u : V}, v.pure = true → RV L H μ v u → RV L H μ' v u
  | .d _, _, _, h => h
  | .fn _, _, _, h => h
  | .ref r, _, p, _ => by cases p
  | .dct _, _, _, h => h
  | .clo _ _, _, p, ⟨f, o, cl, h1, h2, h3, h4⟩ => ⟨f, o, cl, h1, h2, h3, RCl.pure p h4⟩
theorem RCl.pure : ∀ {vs : List Vl} {ns : List Str} {cl : List (Str × Addr)}, Vl.pures vs = true → RCl L H μ vs ns cl → RCl L H μ' vs ns cl
  | [], _, _, _, h => h
  | v :: vs, _, _, p, ⟨n, r, c, oc, val, u, h1, h2, h3, h4, h5, h6, h7⟩ => by
    have p : (v.pure && Vl.pures vs) = true := p
    rw [Bool.and_eq_true] at p
    exact ⟨n, r, c, oc, val, u, h1, h2, h3, h4, h5, RV.pure p.1 h6, RCl.pure p.2 h7⟩
end
theorem RVs.pure : ∀ {vs : List Vl} {us : List V}, Vl.pures vs = true → RVs L H μ vs us → RVs L H μ' vs us
  | [], _, _, h => h
  | v :: vs, _, p, ⟨u, r, h1, h2, h3⟩ => by
    have p : (v.pure && Vl.pures vs) = true := p
    rw [Bool.and_eq_true] at p
    exact ⟨u, r, h1, RV.pure p.1 h2, RVs.pure p.2 h3⟩
/-- from a store of its own back to the caller's -/
theorem Ext.back (S : Sim L H μ st) (e : Ext H [] H' μ') (S' : Sim L H' μ' st') : Ext H μ H' μ ∧ Sim L H' μ st := by
  have keep : ∀ a o, H a = some o → NoTbl o → H' a = some o := fun a o h n => e.fr a o h n fun r => by simp
  have ex : Ext H μ H' μ := ⟨e.im, fun a o h n _ => keep a o h n, Nat.le_refl _, fun _ _ _ h => h, fun r _ h => .inl ⟨r, h⟩, e.tb⟩
  refine ⟨ex, S.len, S.inj, fun r c h => CellR.keep ex (fun a ha => ⟨ha, fun o ho => ?_⟩) (S.cell r c h), fun r a h => ?_, S'.tab⟩
  · obtain ⟨o', h1, h2⟩ := S.some_ r a ha
    rw [ho] at h1
    cases h1
    exact keep a o ho (mut_noTbl h2)
  · obtain ⟨o, h1, h2⟩ := S.some_ r a h
    exact ⟨o, keep a o h1 (mut_noTbl h2), h2⟩
theorem Sim.none (S : Sim L H μ st) : Sim L H [] [] := ⟨rfl, fun i j a h => by simp at h, fun r c h => by simp at h, fun r a h => by simp at h, S.tab⟩
theorem EnR.start {N : List Str} {nn : Nat} : ∀ {us : List Vl} {vs : List V}, RVs L H μ us vs → nn = N.length → us.length ≤ nn → EnR L H μ (begin_ nn us) (L2.start N vs) := by
  intro us vs r hn hl
  have hlen := r.len
  have get : ∀ {us : List Vl} {vs : List V} {i : Nat} {v : Vl}, RVs L H μ us vs → us[i]? = some v → ∃ u, vs[i]? = some u ∧ RV L H μ v u := by
    intro us
    induction us with
    | nil => intro vs i v _ h; simp at h
    | cons w us ih =>
      intro vs i v r h
      obtain ⟨u, r', rfl, h2, h3⟩ := r
      cases i with
      | zero =>
        simp at h
        subst h
        exact ⟨u, rfl, h2⟩
      | succ i =>
        obtain ⟨u', q1, q2⟩ := ih (vs := r') (i := i) h3 (by simpa using h)
        exact ⟨u', q1, q2⟩
  unfold begin_ L2.start
  refine ⟨by simp [hlen, hn], fun i v hi => ?_⟩
  by_cases h : i < us.length
  · rw [List.getElem?_append_left (by simpa using h), List.getElem?_map] at hi
    cases q : us[i]? with
    | none => rw [q] at hi; cases hi
    | some w =>
      rw [q] at hi
      cases hi
      obtain ⟨u, h1, h2⟩ := get r q
      refine ⟨u, ?_, h2⟩
      rw [List.getElem?_append_left (by rw [List.length_map, hlen]; exact h), List.getElem?_map, h1]
      rfl
  · rw [List.getElem?_append_right (by simpa using h), List.getElem?_replicate] at hi
    split at hi <;> cases hi
/-- what a body hands back -/
theorem SQ_res {E : XK} {o : O} {Q : VK} (h : RQ L H μ E o.res (QV (L := L) Q)) : SQ L (fun cls d _ H => E cls d H) H μ o { nx := fun _ H' => Q .non H', rt := Q } := by
  cases o with
  | nx ρ' st' => exact fun H' μ' σ' e s n => h H' μ' e s .non rfl
  | rt v st' => exact fun H' μ' u e s r => h H' μ' e s u r
  | bk ρ' st' => exact h.elim
  | ct ρ' st' => exact h.elim
  | ex c fs ρ' st' => exact fun H' μ' σ' cls d e s n x => h H' μ' cls d e s x
  | no => exact h
theorem RQ_back {E : XK} {r : R Vl} {Q : VK} (S : Sim L H μ st) (h : RQ L H μ E (r.back st) (QV (L := L) Q)) : RQ L H [] E r (QV (L := L) Q) := by
  cases r with
  | ok v s =>
    cases v with
    | d x => exact fun H' μ' e s u ru => h H' μ (Ext.back S e s).1 (Ext.back S e s).2 u ru
    | _ => exact h.elim
  | ex c fs s => exact fun H' μ' cls d e s x => h H' μ cls d (Ext.back S e s).1 (Ext.back S e s).2 x
  | no => exact h
end
/-- the defs of the law -/
structure Defs (L : Lw) (M : Nm) (ds : List Df) : Prop where
  ok : ∀ (g : Nat) x, M.fns[g]? = some x → ∃ d, ds[g]? = some d ∧ d.name = x ∧ L.T.fns[g]? = some d.own ∧ DfOk M d ∧ (∃ fd, FunD L.K x x d.params d.body d.scope [] [] (L.fa g) fd) ∧ L.mg x = some (.ref (L.fa g))
  con : ∀ (i : Nat) v x, L.T.cons[i]? = some v → M.cons[i]? = some x → (x == ("__debug__" : Str)) = false ∧ ∃ u val, L.mg x = some val ∧ RelV u val ∧ ∀ H μ, RV L H μ v u
  blt : ∀ n ∈ bnames, L.mg n = none
section
variable {L : Lw} {M : Nm}
theorem call_len {n g : Nat} {us : List Vl} {st : Sto} {H : Hp} {μ : Mu} {E : XK} {Q : VK} {f : Fd} (hf : L.T.fns[g]? = some f) (h : RQ L H μ E ((L.T.cx n).call g us st) (QV (L := L) Q)) : us.length = f.np := by
  cases n with
  | zero => exact h.elim
  | succ n =>
    have h : RQ L H μ E (match L.T.fns[g]? with
      | none => .no
      | some f => if us.length = f.np then
          (if f.alone then (if Vl.pures us then (evSs (L.T.cx n) f.body (begin_ f.nn us) []).res.back st else .no)
          else (evSs (L.T.cx n) f.body (begin_ f.nn us) st).res)
          else .no) (QV (L := L) Q) := h
    rw [hf] at h
    simp only at h
    by_cases hl : us.length = f.np
    · exact hl
    · rw [if_neg hl] at h
      exact h.elim
theorem takes_cx {P : Program} {w : World} {K : PySem.W.Frag} {mg : Str → Option Value} {base : Heap} {N : List Str} {qual : Str} {scope : Scope} {f : Addr} {cd : Value} {A : Around} {outer : List Env} {s : Shared} {H : Hp} {E : XK} :
    Takes (cxOf (CX P w) P w K mg base N qual scope f cd A outer s H E) (fun cls d _ H => E cls d H) := takes_of rfl rfl rfl rfl
theorem passes_cx {P : Program} {w : World} {K : PySem.W.Frag} {mg : Str → Option Value} {base : Heap} {N : List Str} {qual : Str} {scope : Scope} {f : Addr} {cd : Value} {A : Around} {outer : List Env} {s : Shared} {H : Hp} {E : XK} :
    PassesOwn (model P w) (cxOf (CX P w) P w K mg base N qual scope f cd A outer s H E).A (cxOf (CX P w) P w K mg base N qual scope f cd A outer s H E).env (cxOf (CX P w) P w K mg base N qual scope f cd A outer s H E).xe := passes_of rfl
theorem body_go {n g : Nat} {d : Df} (hk : DfOk M d) (hf : L.T.fns[g]? = some d.own) {vs : List V} {H : Hp} {Q : VK} {E : XK} (h : spF L (L.T.cx (n + 1)) g vs H Q E) : tSs L (fun cls d _ H => E cls d H) (L.T.cx n) d.own.body { nx := fun _ H' => Q .non H', rt := Q } (L2.start d.N vs) H := by
  obtain ⟨S, hnb, hdb, hnp, hnn, hchk⟩ := dfB_all hk.chk
  obtain ⟨us, μ, st, Sm, r, h⟩ := h
  have hl := call_len hf h
  have hpl : d.ps.length ≤ d.N.length := by
    have := congrArg List.length S.pre
    rw [List.length_take] at this
    omega
  have h : RQ L H μ E (match L.T.fns[g]? with
      | none => .no
      | some f => if us.length = f.np then
          (if f.alone then (if Vl.pures us then (evSs (L.T.cx n) f.body (begin_ f.nn us) []).res.back st else .no)
          else (evSs (L.T.cx n) f.body (begin_ f.nn us) st).res)
          else .no) (QV (L := L) Q) := h
  rw [hf] at h
  simp only at h
  rw [if_pos hl] at h
  by_cases ha : d.own.alone = true
  · rw [if_pos ha] at h
    by_cases hp : Vl.pures us = true
    · rw [if_pos hp] at h
      exact ⟨_, [], [], Sm.none, EnR.start (r.pure hp) hnn (by omega), SQ_res (RQ_back Sm h)⟩
    · rw [if_neg hp] at h
      exact h.elim
  · rw [if_neg ha] at h
    exact ⟨_, μ, st, Sm, EnR.start r hnn (by omega), SQ_res h⟩
theorem body_ps {n : Nat} {d : Df} (hk : DfOk M d) (ih : CxOk L M n (L.T.cx n)) {f : Addr} {cdv : Value} {A : Around} {outer : List Env} {s : Shared} {H : Hp} {E : XK} (base : Heap) (hb : base = L.base) (hr : Room n (A.deeper (envOfC d.name d.scope s.heap.objs.size f cdv))) :
    PSs (cxOf (CX L.P L.w) L.P L.w L.K L.mg base d.N d.name d.scope f cdv A outer s H E) d.body (tSs L (fun cls d _ H => E cls d H) (L.T.cx n) d.own.body) := by
  obtain ⟨S, hnb, hdb, hnp, hnn, hchk⟩ := dfB_all hk.chk
  exact okSs ih d.own.body _ _ d.body ⟨⟨rfl, rfl, rfl, rfl, hb, rfl, hr, S.nd, hnb, S.kind⟩, fun _ _ => rfl⟩ takes_cx passes_cx hchk
theorem fns_ok {ds : List Df} (D : Defs L M ds) : ∀ n, CxOk L M n (L.T.cx n)
  | 0 => ⟨fun i v x h1 h2 => D.con i v x h1 h2, fun g x hx => by
    obtain ⟨d, _, rfl, hf, hk, ⟨fd, F⟩, hm⟩ := D.ok g x hx
    obtain ⟨S, hnb, hdb, hnp, hnn, hchk⟩ := dfB_all hk.chk
    exact ⟨hdb, fd, d.ps, ⟨fun vs H Q E h => by
      obtain ⟨us, μ, st, _, _, h⟩ := h
      exact h.elim, fun A outer s H args us vs Q E _ _ _ _ h => by
      obtain ⟨us, μ, st, _, _, h⟩ := h
      exact h.elim⟩, hm, F.kp, F.bindsN hk.bind⟩, D.blt⟩
  | n + 1 => ⟨fun i v x h1 h2 => D.con i v x h1 h2, fun g x hx => by
    obtain ⟨d, _, rfl, hf, hk, ⟨fd, F⟩, hm⟩ := D.ok g x hx
    obtain ⟨S, hnb, hdb, hnp, hnn, hchk⟩ := dfB_all hk.chk
    refine ⟨hdb, fd, d.ps, F.ok S (fun vs H Q E h => ?_) (fun cdv A outer s H vs Q E hr h => ⟨_, body_ps hk (fns_ok D n) _ rfl hr, body_go hk hf h⟩), hm, F.kp, F.bindsN hk.bind⟩
    obtain ⟨us, μ, st, _, r, h⟩ := h
    rw [r.len, call_len hf h, hnp], D.blt⟩
end
end EvS

namespace EvS
open PySem PySem.Spec PyProof.Rows L2 Ev
/-- a list that may be written is locked ahead of the body -/
theorem PSs_lk0 {X : L2.Cx} {b : List Stmt} {t : TS} (h : PSs X b t) : PSs X b (fun D σ H => t D σ H ∨ ∃ p u, H p = some u ∧ Mut (some u) ∧ ∀ od, t D σ (upd H p (.frz od u))) :=
  ⟨fun pins s σ H D I hq => by
    rcases hq with q | ⟨p, u, h1, h2, q⟩
    · exact h.run pins s σ H D I q
    · obtain ⟨od, I2⟩ := I.lock h1 h2
      exact h.run pins s σ _ D I2 (q od)⟩
def spLk (sp : Sp) : Sp := fun vs H Q E => sp vs H Q E ∨ ∃ p u, H p = some u ∧ Mut (some u) ∧ ∀ od, sp vs (upd H p (.frz od u)) Q E
/-- the law at hand, by names -/
def mkLw (P : Program) (w : World) (K : PySem.W.Frag) (mg : Str → Option Value) (base : Heap) (T : Tab) (ns : List Str) : Lw :=
  ⟨P, w, K, mg, base, T, fun g => He.ga K (ns.getD g ⟨#[]⟩), fun _ => 0, fun _ => none, []⟩
def Df.D (d : Df) : He.DefD := ⟨(d.name, none), d.name, d.name, d.params, d.body, d.scope, [], []⟩
def faOf (ds : List Df) : List He.Fa := (ds.map fun d => He.Fa.glo d.name) ++ bnames.map He.Fa.free
def tabOf (ds : List Df) : Tab := ⟨ds.map (·.own), [], []⟩
def nmOf (ds : List Df) : Nm := ⟨ds.map (·.name), []⟩
section
variable {P : Program} {w : World} {K : PySem.W.Frag} {mg : Str → Option Value} {base : Heap} {ds : List Df}
theorem says_def {fa : List He.Fa} {fn : List He.DefD} (c : He.SaysD fa fn K) {d : He.DefD} (h : d ∈ fn) : ∃ fd, FunD K d.name d.qual d.params d.body d.scope (d.dvs K) (d.kws K) (He.fAd K d.at_) fd := by
  obtain ⟨i, hi⟩ := List.getElem?_of_mem h
  exact c.def_ i hi
theorem says_fact {fa : List He.Fa} {fn : List He.DefD} (c : He.SaysD fa fn K) {f : He.Fa} (h : f ∈ fa) : f.ok K = true := by
  obtain ⟨i, hi⟩ := List.getElem?_of_mem h
  exact c.fact i hi
theorem defs_of {h : Heap} (c : He.SaysD (faOf ds) (ds.map Df.D) K) (X : K.In h) (G : h.Ns mainGlobals mg) (ok : ∀ d ∈ ds, DfOk (nmOf ds) d) : Defs (mkLw P w K mg base (tabOf ds) (ds.map (·.name))) (nmOf ds) ds where
  ok := fun g x hx => by
    have hx : (ds.map (·.name))[g]? = some x := hx
    rw [List.getElem?_map] at hx
    cases q : ds[g]? with
    | none => rw [q] at hx; cases hx
    | some d =>
      rw [q] at hx
      cases hx
      have hm := List.mem_of_getElem? q
      obtain ⟨fd, F⟩ := says_def c (List.mem_map.mpr ⟨d, hm, rfl⟩ : d.D ∈ ds.map Df.D)
      have hg := He.glo_ok X G (says_fact c (List.mem_append_left _ (List.mem_map.mpr ⟨d, hm, rfl⟩)) : (He.Fa.glo d.name).ok K = true)
      have en : (ds.map (·.name)).getD g ⟨#[]⟩ = d.name := by
        rw [List.getD_eq_getElem?_getD, List.getElem?_map, q]
        rfl
      refine ⟨d, rfl, rfl, ?_, ok d hm, ⟨fd, ?_⟩, ?_⟩
      · show (ds.map (·.own))[g]? = _
        rw [List.getElem?_map, q]
        rfl
      · show FunD K d.name d.name d.params d.body d.scope [] [] (He.ga K ((ds.map (·.name)).getD g ⟨#[]⟩)) fd
        rw [en]
        exact F
      · show mg d.name = some (.ref (He.ga K ((ds.map (·.name)).getD g ⟨#[]⟩)))
        rw [en]
        exact hg
  con := fun i v x h => by
    have h : ([] : List Vl)[i]? = some v := h
    simp at h
  blt := fun n hn => He.free_ok X G (says_fact c (List.mem_append_right _ (List.mem_map.mpr ⟨n, hn, rfl⟩)) : (He.Fa.free n).ok K = true)
end
section
variable {L : Lw} {M : Nm} {ds : List Df}
theorem law_fn (D : Defs L M ds) {n g : Nat} {d : Df} (hx : M.fns[g]? = some d.name) (hd : ds[g]? = some d) : ∃ fd, FunD L.K d.name d.name d.params d.body d.scope [] [] (L.fa g) fd ∧ FnOk L.P L.w L.K L.mg L.base (CX L.P L.w) (n + 1) (L.fa g) fd d.ps (spLk (spF L (L.T.cx (n + 1)) g)) := by
  obtain ⟨d', hd', _, hf, hk, ⟨fd, F⟩, hm⟩ := D.ok g _ hx
  rw [hd] at hd'
  cases hd'
  obtain ⟨S, hnb, hdb, hnp, hnn, hchk⟩ := dfB_all hk.chk
  refine ⟨fd, F, F.ok S (fun vs H Q E h => ?_) (fun cdv A outer s H vs Q E hr h => ⟨_, PSs_lk0 (body_ps hk (fns_ok D n) _ rfl hr), ?_⟩)⟩
  · rcases h with ⟨us, μ, st, _, r, h⟩ | ⟨p, u, _, _, h⟩
    · rw [r.len, call_len hf h, hnp]
    · obtain ⟨us, μ, st, _, r, h⟩ := h ⟨.none, none, .plain, #[]⟩
      rw [r.len, call_len hf h, hnp]
  · rcases h with h | ⟨p, u, h1, h2, h⟩
    · exact .inl (body_go hk hf h)
    · exact .inr ⟨p, u, h1, h2, fun od => body_go hk hf (h od)⟩
end
theorem ints_rds {K : PySem.W.Frag} {H : Hp} : ∀ ns : List Int, RDs K H (ns.map D.int) (ns.map V.int)
  | [] => rfl
  | n :: ns => ⟨.int n, ns.map V.int, rfl, rfl, ints_rds ns⟩
/-- the law's end: what is left is what the own trees compute -/
theorem law_at {l : PySem.W.OpenLaw} {w : World} {K : PySem.W.Frag} {mg : Str → Option Value} {h : Heap} {ds : List Df} {g n most : Nat} {d : Df} {x : Str} {fa : Addr} (X : K.In h) (G : h.Ns mainGlobals mg) (c : He.SaysD (faOf ds) (ds.map Df.D) K)
    (ok : ∀ d ∈ ds, DfOk (nmOf ds) d) (hd : ds[g]? = some d) (hps : d.ps = [x]) (hfa : mg d.name = some (.ref fa)) (hm : most ≤ line)
    (data : ∀ ns : List Int, ns.length ≤ most → (∀ z ∈ ns, Builtin.Int.intBits z ≤ 1048576) → ∃ st, ((tabOf ds).cx (n + 1)).call g [.d (.lst (ns.map D.int))] [] = .ok (.d (.bl true)) st) :
    LamX.LawAtS l w K (CX l.prog w) (n + 1) most x mg fa h := by
  have hx : (nmOf ds).fns[g]? = some d.name := by
    show (ds.map (·.name))[g]? = _
    rw [List.getElem?_map, hd]
    rfl
  have main : ∀ base : Heap, _ := fun base => law_fn (defs_of (P := l.prog) (w := w) (base := base) c X G ok) (n := n) hx hd
  have hga : fa = He.ga K ((ds.map (·.name)).getD g ⟨#[]⟩) := by
    have hg := He.glo_ok X G (says_fact c (List.mem_append_left _ (List.mem_map.mpr ⟨d, List.mem_of_getElem? hd, rfl⟩)) : (He.Fa.glo d.name).ok K = true)
    rw [hfa] at hg
    cases hg
    rw [List.getD_eq_getElem?_getD, List.getElem?_map, hd]
    rfl
  subst hga
  obtain ⟨fd, F, _⟩ := main default
  refine ⟨fd, [], fun vs H Q E => ∀ base, spLk (spF (mkLw l.prog w K mg base (tabOf ds) (ds.map (·.name))) ((tabOf ds).cx (n + 1)) g) vs H Q E, fun p hp => absurd hp (by simp), fun p hp => absurd hp (by simp), fun p hp => absurd hp (by simp), fun s u => ?_, fun H a ns hl hb _ hS base => ?_, fun base hK hG _ => ?_⟩
  · have b := F.bindsA (ps := d.ps) (fun kV doc pm an cdv ct us hu => (ok d (List.mem_of_getElem? hd)).bind kV doc pm an cdv ct us hu) s [u] (by rw [hps]; rfl)
    rw [hps] at b
    exact b
  · obtain ⟨st, hst⟩ := data ns hl hb
    have fin : ∀ {H : Hp}, FzL K H a (ns.map V.int) → spF (mkLw l.prog w K mg base (tabOf ds) (ds.map (·.name))) ((tabOf ds).cx (n + 1)) g [.ref a] H (fun v _ => v = .bl true) fun _ _ _ => False := fun {H} hF => by
      refine ⟨[.d (.lst (ns.map D.int))], [], [], ⟨rfl, fun i j a h => by simp at h, fun r c h => by simp at h, fun r a h => by simp at h, fun q hq => absurd hq (by simp [mkLw])⟩, ⟨.ref a, [], rfl, ⟨a, ns.map V.int, rfl, hF, ?_, ints_rds ns⟩, rfl⟩, ?_⟩
      · rw [List.length_map]
        exact Nat.le_trans hl hm
      · rw [hst]
        exact fun H' μ' _ _ u ru => ru
    rcases hS with (hS | ⟨o, hS⟩) | hS
    · refine .inr ⟨a, _, hS, trivial, fun od => fin (.inl ⟨od, upd_same⟩)⟩
    · exact .inl (fin (.inl ⟨o, hS⟩))
    · exact .inl (fin (.inr hS))
  · obtain ⟨fd', F', ok'⟩ := main base
    obtain ⟨_, _, _, _, _, _, _, _, _, _, e1, l1, _⟩ := F.ex
    obtain ⟨_, _, _, _, _, _, _, _, _, _, e2, l2, _⟩ := F'.ex
    have e : fd' = fd := by
      have l1 : K.lookup (He.ga K ((ds.map (·.name)).getD g ⟨#[]⟩)) = _ := l1
      have l2 : K.lookup (He.ga K ((ds.map (·.name)).getD g ⟨#[]⟩)) = _ := l2
      rw [l1] at l2
      injection l2 with l2
      injection l2 with _ _ l2 _
      injection l2 with l2
      exact l2.symm
    rw [← e, ← hps]
    exact ok'.imp fun vs H Q E q => q base
end EvS

/-! ### the own trees of the defs -/
namespace Law
open Ev
def b_is_number : Ss := (.cons (.ret (.and (.blt (.isi .int) (.cons (.var 0) .nil)) (.cons (.not (.blt (.isi .bool) (.cons (.var 0) .nil))) (.cons (.chain .le .le (.var 1) (.var 0) (.var 2)) .nil)))) .nil)
def b_is_tuple : Ss := (.cons (.ret (.and (.blt (.isi .tuple) (.cons (.var 0) .nil)) (.cons (.chain .le .le (.var 1) (.blt .len (.cons (.var 0) .nil)) (.var 2)) .nil))) .nil)
def b_are_signs : Ss := (.cons (.ret (.and (.blt (.isi .str) (.cons (.var 0) .nil)) (.cons (.chain .le .le (.var 1) (.blt .len (.cons (.var 0) .nil)) (.var 2)) (.cons (.blt .all (.cons (.lc (.cmp .isin (.var 3) (.cst (.str [35, 126, 46]))) (.nm 3) (.val (.var 0)) .no [3]) .nil)) .nil)))) .nil)
def b_is_good_bridge : Ss := (.cons (.ite (.not (.call 1 (.cons (.var 0) (.cons (.cst (.int 3)) (.cons (.cst (.int 3)) .nil))))) (.cons (.ret (.cst (.bl false))) .nil) .nil) (.cons (.ret (.and (.call 2 (.cons (.idx (.var 0) (.cst (.int 0))) (.cons (.cst (.int 0)) (.cons (.cst (.int 5)) .nil)))) (.cons (.call 2 (.cons (.idx (.var 0) (.cst (.int 1))) (.cons (.cst (.int 1)) (.cons (.cst (.int 5)) .nil)))) (.cons (.call 2 (.cons (.idx (.var 0) (.cst (.int 2))) (.cons (.cst (.int 0)) (.cons (.cst (.int 5)) .nil)))) .nil)))) .nil))
def b_is_good_walker : Ss := (.cons (.ite (.or (.not (.call 1 (.cons (.var 0) (.cons (.cst (.int 2)) (.cons (.cst (.int 2)) .nil))))) (.cons (.not (.call 1 (.cons (.idx (.var 0) (.cst (.int 0))) (.cons (.cst (.int 1)) (.cons (.cst (.int 3)) .nil))))) (.cons (.not (.call 0 (.cons (.idx (.var 0) (.cst (.int 1))) (.cons (.cst (.int 1)) (.cons (.cst (.int 5)) .nil))))) .nil))) (.cons (.ret (.cst (.bl false))) .nil) .nil) (.cons (.ite (.not (.blt .all (.cons (.lc (.call 0 (.cons (.var 3) (.cons (.cst (.int 1)) (.cons (.cst (.int 4)) .nil)))) (.nm 3) (.val (.idx (.var 0) (.cst (.int 0)))) .no [3]) .nil))) (.cons (.ret (.cst (.bl false))) .nil) .nil) (.cons (.ret (.blt .all (.cons (.lc (.cmp .lt (.var 1) (.var 2)) (.tp (.cons (.nm 1) (.cons (.nm 2) .nil))) (.zip (.idx (.var 0) (.cst (.int 0))) (.slc (.idx (.var 0) (.cst (.int 0))) (.e (.cst (.int 1))) .no)) .no [1, 2]) .nil))) .nil)))
def b_need_bridge : Ss := (.cons (.ite (.not (.call 3 (.cons (.var 0) .nil))) (.cons .nev .nil) .nil) .nil)
def b_need_n : Ss := (.cons (.ite (.not (.call 0 (.cons (.var 0) (.cons (.cst (.int 0)) (.cons (.var 1) .nil))))) (.cons .nev .nil) .nil) .nil)
def b_signs_of : Ss := (.cons (.ret (.bin .add (.bin .add (.idx (.var 0) (.cst (.int 0))) (.bin .mul (.idx (.var 0) (.cst (.int 1))) (.var 1))) (.idx (.var 0) (.cst (.int 2))))) .nil)
def b_round_about : Ss := (.cons (.ret (.tup (.cons (.rev (.idx (.var 0) (.cst (.int 2)))) (.cons (.rev (.idx (.var 0) (.cst (.int 1)))) (.cons (.rev (.idx (.var 0) (.cst (.int 0)))) .nil))))) .nil)
def b_is_bridge : Ss := (.cons (.ret (.call 3 (.cons (.var 0) .nil))) .nil)
def b_is_walker : Ss := (.cons (.ret (.call 4 (.cons (.var 0) .nil))) .nil)
def b_planks : Ss := (.cons (.exp (.call 5 (.cons (.var 0) .nil))) (.cons (.exp (.call 6 (.cons (.var 1) (.cons (.cst (.int 100)) .nil)))) (.cons (.ret (.call 7 (.cons (.var 0) (.cons (.var 1) .nil)))) .nil)))
def b_turned : Ss := (.cons (.exp (.call 5 (.cons (.var 0) .nil))) (.cons (.ret (.call 8 (.cons (.var 0) .nil))) .nil))
def b_law_source : Ss := (.cons (.set 2 (.cst (.int 0))) (.cons (.ite (.cmp .lt (.var 1) (.blt .len (.cons (.var 0) .nil))) (.cons (.set 2 (.blt .abs (.cons (.blt .int (.cons (.idx (.var 0) (.var 1)) .nil)) .nil))) .nil) .nil) (.cons (.ite (.cmp .lt (.var 2) (.bin .pow (.cst (.int 10)) (.cst (.int 18)))) (.cons (.ret (.new (.cons (.cst (.int 0)) (.cons (.bin .add (.cst (.int 1)) (.bin .mod (.blt .int (.cons (.bin .add (.bin .mul (.var 2) (.cst (.int 7919))) (.bin .mul (.cst (.int 104729)) (.var 1))) .nil)) (.cst (.int 2147483646)))) .nil)))) .nil) .nil) (.cons (.ret (.new (.cons (.var 2) (.cons (.bin .add (.cst (.int 1)) (.bin .mod (.blt .int (.cons (.bin .add (.var 2) (.var 1)) .nil)) (.cst (.int 2147483646)))) .nil)))) .nil))))
def b_law_draw : Ss := (.cons (.ite (.cmp .gt (.idx (.var 0) (.cst (.int 0))) (.cst (.int 0))) (.cons (.set 2 (.bin .mod (.blt .int (.cons (.idx (.var 0) (.cst (.int 0))) .nil)) (.var 1))) (.cons (.idx (.var 0) (.cst (.int 0)) (.bin .fdiv (.idx (.var 0) (.cst (.int 0))) (.var 1))) (.cons (.ret (.var 2)) .nil))) .nil) (.cons (.idx (.var 0) (.cst (.int 1)) (.bin .mod (.blt .int (.cons (.bin .mul (.idx (.var 0) (.cst (.int 1))) (.cst (.int 48271))) .nil)) (.cst (.int 2147483647)))) (.cons (.ret (.bin .mod (.blt .int (.cons (.bin .fdiv (.bin .mod (.blt .int (.cons (.bin .mul (.idx (.var 0) (.cst (.int 1))) (.idx (.var 0) (.cst (.int 1)))) .nil)) (.cst (.int 2147483629))) (.cst (.int 64))) .nil)) (.var 1))) .nil)))
def b_law_of : Ss := (.cons (.ret (.idx (.var 1) (.call 14 (.cons (.var 0) (.cons (.blt .len (.cons (.var 1) .nil)) .nil))))) .nil)
def i_law_text_of_1 : It := (.rng1 (.bin .add (.var 1) (.call 14 (.cons (.var 0) (.cons (.bin .add (.bin .sub (.var 2) (.var 1)) (.cst (.int 1))) .nil)))))
def l_law_text_of_1 : Ss := (.cons (.set 3 (.bin .add (.var 3) (.call 15 (.cons (.var 0) (.cons (.lst (.cons (.cst (.str [35])) (.cons (.cst (.str [35])) (.cons (.cst (.str [35])) (.cons (.cst (.str [46])) (.cons (.cst (.str [46])) (.cons (.cst (.str [126])) .nil))))))) .nil))))) .nil)
def b_law_text_of : Ss := (.cons (.set 3 (.cst (.str []))) (.cons (.for_ (.nm 4) i_law_text_of_1 l_law_text_of_1) (.cons (.ret (.var 3)) .nil)))
def b_law_bridge : Ss := (.cons (.ret (.tup (.cons (.call 16 (.cons (.var 0) (.cons (.cst (.int 0)) (.cons (.cst (.int 5)) .nil)))) (.cons (.call 16 (.cons (.var 0) (.cons (.cst (.int 1)) (.cons (.cst (.int 5)) .nil)))) (.cons (.call 16 (.cons (.var 0) (.cons (.cst (.int 0)) (.cons (.cst (.int 5)) .nil)))) .nil))))) .nil)
def i_law_walker_1 : It := (.rng2 (.cst (.int 1)) (.cst (.int 5)))
def l_law_walker_1 : Ss := (.cons (.ite (.and (.cmp .lt (.blt .len (.cons (.var 1) .nil)) (.cst (.int 3))) (.cons (.cmp .eq (.call 14 (.cons (.var 0) (.cons (.cst (.int 2)) .nil))) (.cst (.int 0))) .nil)) (.cons (.set 1 (.bin .add (.var 1) (.tup (.cons (.var 2) .nil)))) .nil) .nil) .nil)
def b_law_walker : Ss := (.cons (.set 1 (.tup .nil)) (.cons (.for_ (.nm 2) i_law_walker_1 l_law_walker_1) (.cons (.ite (.cmp .eq (.var 1) (.tup .nil)) (.cons (.set 1 (.tup (.cons (.bin .add (.cst (.int 1)) (.call 14 (.cons (.var 0) (.cons (.cst (.int 4)) .nil)))) .nil))) .nil) .nil) (.cons (.ret (.tup (.cons (.var 1) (.cons (.call 15 (.cons (.var 0) (.cons (.lst (.cons (.cst (.int 5)) (.cons (.cst (.int 5)) (.cons (.cst (.int 4)) (.cons (.cst (.int 3)) (.cons (.cst (.int 2)) (.cons (.cst (.int 1)) .nil))))))) .nil))) .nil)))) .nil))))
def b_law_signs : Ss := (.cons (.ret (.bin .add (.bin .add (.idx (.var 0) (.cst (.int 0))) (.bin .mul (.idx (.var 0) (.cst (.int 1))) (.var 1))) (.idx (.var 0) (.cst (.int 2))))) .nil)
def b_law_is_int : Ss := (.cons (.ret (.and (.blt (.isi .int) (.cons (.var 0) .nil)) (.cons (.not (.blt (.isi .bool) (.cons (.var 0) .nil))) (.cons (.chain .le .le (.var 1) (.var 0) (.var 2)) .nil)))) .nil)
def b_law_are_signs : Ss := (.cons (.ite (.or (.not (.blt (.isi .str) (.cons (.var 0) .nil))) (.cons (.not (.chain .le .le (.var 1) (.blt .len (.cons (.var 0) .nil)) (.cst (.int 5)))) .nil)) (.cons (.ret (.cst (.bl false))) .nil) .nil) (.cons (.ret (.cmp .eq (.lc (.var 2) (.nm 2) (.val (.var 0)) (.e (.cmp .notin (.var 2) (.lst (.cons (.cst (.str [35])) (.cons (.cst (.str [126])) (.cons (.cst (.str [46])) .nil)))))) [2]) (.lst .nil))) .nil))
def b_law_is_bridge : Ss := (.cons (.ite (.or (.not (.blt (.isi .tuple) (.cons (.var 0) .nil))) (.cons (.cmp .ne (.blt .len (.cons (.var 0) .nil)) (.cst (.int 3))) .nil)) (.cons (.ret (.cst (.bl false))) .nil) .nil) (.cons (.ret (.and (.call 21 (.cons (.idx (.var 0) (.cst (.int 0))) (.cons (.cst (.int 0)) .nil))) (.cons (.call 21 (.cons (.idx (.var 0) (.cst (.int 1))) (.cons (.cst (.int 1)) .nil))) (.cons (.call 21 (.cons (.idx (.var 0) (.cst (.int 2))) (.cons (.cst (.int 0)) .nil))) .nil)))) .nil))
def b_law_is_walker : Ss := (.cons (.ite (.or (.not (.blt (.isi .tuple) (.cons (.var 0) .nil))) (.cons (.cmp .ne (.blt .len (.cons (.var 0) .nil)) (.cst (.int 2))) (.cons (.not (.blt (.isi .tuple) (.cons (.idx (.var 0) (.cst (.int 0))) .nil))) .nil))) (.cons (.ret (.cst (.bl false))) .nil) .nil) (.cons (.ite (.not (.chain .le .le (.cst (.int 1)) (.blt .len (.cons (.idx (.var 0) (.cst (.int 0))) .nil)) (.cst (.int 3)))) (.cons (.ret (.cst (.bl false))) .nil) .nil) (.cons (.ite (.cmp .ne (.lc (.var 1) (.nm 1) (.val (.idx (.var 0) (.cst (.int 0)))) (.e (.not (.call 20 (.cons (.var 1) (.cons (.cst (.int 1)) (.cons (.cst (.int 4)) .nil)))))) [1]) (.lst .nil)) (.cons (.ret (.cst (.bl false))) .nil) .nil) (.cons (.ret (.and (.cmp .eq (.blt .list (.cons (.idx (.var 0) (.cst (.int 0))) .nil)) (.sset (.idx (.var 0) (.cst (.int 0))))) (.cons (.call 20 (.cons (.idx (.var 0) (.cst (.int 1))) (.cons (.cst (.int 1)) (.cons (.cst (.int 5)) .nil)))) .nil))) .nil))))
def b_law_odd : Ss := (.cons (.set 1 (.lst (.cons (.cst .non) (.cons (.cst (.bl true)) (.cons (.cst (.bl false)) (.cons (.cst (.int 0)) (.cons (.cst (.int 1)) (.cons (.cst (.int 3)) (.cons (.cst (.int 4)) (.cons (.cst (.int 5)) (.cons (.cst (.int 6)) (.cons (.neg (.cst (.int 1))) (.cons (.cst (.str [])) (.cons (.cst (.str [35])) (.cons (.cst (.str [46, 126])) (.cons (.cst (.str [35, 35, 35, 35, 35, 35])) (.cons (.cst (.str [120])) (.cons (.tup .nil) (.cons (.lst .nil) (.cons (.tup (.cons (.cst (.int 1)) (.cons (.cst (.int 2)) .nil))) (.cons (.tup (.cons (.cst (.int 2)) (.cons (.cst (.int 1)) .nil))) .nil))))))))))))))))))))) (.cons (.ret (.call 15 (.cons (.var 0) (.cons (.bin .add (.var 1) (.lst (.cons (.tup (.cons (.cst (.str [])) (.cons (.cst (.str [35])) (.cons (.cst (.str [])) .nil)))) (.cons (.tup (.cons (.tup (.cons (.cst (.int 1)) .nil)) (.cons (.cst (.int 5)) .nil))) (.cons (.lst (.cons (.cst (.str [35])) .nil)) (.cons (.tup (.cons (.cst (.bl true)) .nil)) (.cons (.tup (.cons (.cst (.int 5)) .nil)) (.cons (.cst (.str [32])) .nil)))))))) .nil)))) .nil))
def b_law_spoilt : Ss := (.cons (.ite (.or (.not (.blt (.isi .tuple) (.cons (.var 1) .nil))) (.cons (.cmp .eq (.var 1) (.tup .nil)) (.cons (.cmp .eq (.call 14 (.cons (.var 0) (.cons (.cst (.int 6)) .nil))) (.cst (.int 0))) .nil))) (.cons (.ret (.call 24 (.cons (.var 0) .nil))) .nil) .nil) (.cons (.par2 2 3 (.call 14 (.cons (.var 0) (.cons (.blt .len (.cons (.var 1) .nil)) .nil))) (.call 14 (.cons (.var 0) (.cons (.cst (.int 9)) .nil)))) (.cons (.ite (.cmp .eq (.var 3) (.cst (.int 0))) (.cons (.ret (.bin .add (.slc (.var 1) .no (.e (.var 2))) (.slc (.var 1) (.e (.bin .add (.var 2) (.cst (.int 1)))) .no))) .nil) .nil) (.cons (.ite (.cmp .eq (.var 3) (.cst (.int 1))) (.cons (.ret (.bin .add (.slc (.var 1) .no (.e (.bin .add (.var 2) (.cst (.int 1))))) (.slc (.var 1) (.e (.var 2)) .no))) .nil) .nil) (.cons (.ite (.cmp .eq (.var 3) (.cst (.int 2))) (.cons (.ret (.bin .add (.bin .add (.slc (.var 1) .no (.e (.var 2))) (.tup (.cons (.call 24 (.cons (.var 0) .nil)) .nil))) (.slc (.var 1) (.e (.var 2)) .no))) .nil) .nil) (.cons (.ite (.cmp .eq (.var 3) (.cst (.int 3))) (.cons (.ret (.blt .list (.cons (.var 1) .nil))) .nil) .nil) (.cons (.ite (.and (.blt (.isi .int) (.cons (.idx (.var 1) (.var 2)) .nil)) (.cons (.cmp .lt (.var 3) (.cst (.int 6))) .nil)) (.cons (.ret (.bin .add (.bin .add (.slc (.var 1) .no (.e (.var 2))) (.tup (.cons (.bin .sub (.bin .add (.idx (.var 1) (.var 2)) (.call 14 (.cons (.var 0) (.cons (.cst (.int 3)) .nil)))) (.cst (.int 1))) .nil))) (.slc (.var 1) (.e (.bin .add (.var 2) (.cst (.int 1)))) .no))) .nil) .nil) (.cons (.ret (.bin .add (.bin .add (.slc (.var 1) .no (.e (.var 2))) (.tup (.cons (.call 25 (.cons (.var 0) (.cons (.idx (.var 1) (.var 2)) .nil))) .nil))) (.slc (.var 1) (.e (.bin .add (.var 2) (.cst (.int 1)))) .no))) .nil))))))))
def i_law_1 : It := (.rng1 (.cst (.int 5)))
def l_law_1 : Ss := (.cons (.ite (.cmp .ne (.call 9 (.cons (.var 6) .nil)) (.call 22 (.cons (.var 6) .nil))) (.cons (.ret (.cst (.bl false))) .nil) .nil) (.cons (.ite (.cmp .ne (.call 10 (.cons (.var 6) .nil)) (.call 23 (.cons (.var 6) .nil))) (.cons (.ret (.cst (.bl false))) .nil) .nil) (.cons (.set 6 (.call 25 (.cons (.var 2) (.cons (.var 6) .nil)))) .nil)))
def i_law_2 : It := (.val (.lst (.cons (.var 3) (.cons (.var 3) (.cons (.call 18 (.cons (.var 2) .nil)) (.cons (.call 18 (.cons (.var 2) .nil)) .nil))))))
def l_law_2 : Ss := (.cons (.for_ (.nm 7) i_law_1 l_law_1) .nil)
def i_law_3 : It := (.rng1 (.bin .add (.cst (.int 1)) (.blt .min (.cons (.blt .len (.cons (.var 0) .nil)) (.cons (.cst (.int 10)) .nil)))))
def l_law_3 : Ss := (.cons (.set 2 (.call 13 (.cons (.var 0) (.cons (.var 1) .nil)))) (.cons (.par2 3 4 (.call 17 (.cons (.var 2) .nil)) (.call 14 (.cons (.var 2) (.cons (.cst (.int 101)) .nil)))) (.cons (.ite (.cmp .ne (.call 11 (.cons (.var 3) (.cons (.var 4) .nil))) (.call 19 (.cons (.var 3) (.cons (.var 4) .nil)))) (.cons (.ret (.cst (.bl false))) .nil) .nil) (.cons (.set 5 (.call 12 (.cons (.var 3) .nil))) (.cons (.ite (.or (.cmp .ne (.call 11 (.cons (.var 5) (.cons (.var 4) .nil))) (.rev (.call 19 (.cons (.var 3) (.cons (.var 4) .nil))))) (.cons (.cmp .ne (.call 12 (.cons (.var 5) .nil)) (.var 3)) .nil)) (.cons (.ret (.cst (.bl false))) .nil) .nil) (.cons (.for_ (.nm 6) i_law_2 l_law_2) .nil))))))
def b_law : Ss := (.cons (.for_ (.nm 1) i_law_3 l_law_3) (.cons (.ite (.or (.call 9 (.cons (.tup (.cons (.cst (.str [])) (.cons (.cst (.str [])) (.cons (.cst (.str [])) .nil)))) .nil)) (.cons (.call 9 (.cons (.tup (.cons (.cst (.str [35, 35, 35, 35, 35, 35])) (.cons (.cst (.str [35])) (.cons (.cst (.str [])) .nil)))) .nil)) (.cons (.call 9 (.cons (.tup (.cons (.cst (.str [35, 120])) (.cons (.cst (.str [35])) (.cons (.cst (.str [])) .nil)))) .nil)) .nil))) (.cons (.ret (.cst (.bl false))) .nil) .nil) (.cons (.ite (.or (.call 10 (.cons (.tup (.cons (.tup (.cons (.cst (.int 3)) (.cons (.cst (.int 1)) .nil))) (.cons (.cst (.int 3)) .nil))) .nil)) (.cons (.call 10 (.cons (.tup (.cons (.tup (.cons (.cst (.int 1)) (.cons (.cst (.int 5)) .nil))) (.cons (.cst (.int 3)) .nil))) .nil)) (.cons (.call 10 (.cons (.tup (.cons (.tup (.cons (.cst (.int 1)) (.cons (.cst (.int 1)) .nil))) (.cons (.cst (.int 3)) .nil))) .nil)) (.cons (.call 10 (.cons (.tup (.cons (.tup (.cons (.cst (.int 1)) .nil)) (.cons (.cst (.int 6)) .nil))) .nil)) .nil)))) (.cons (.ret (.cst (.bl false))) .nil) .nil) (.cons (.ite (.or (.call 10 (.cons (.tup (.cons (.tup .nil) (.cons (.cst (.int 3)) .nil))) .nil)) (.cons (.call 10 (.cons (.tup (.cons (.tup (.cons (.cst (.int 1)) (.cons (.cst (.int 2)) (.cons (.cst (.int 3)) (.cons (.cst (.int 4)) .nil))))) (.cons (.cst (.int 3)) .nil))) .nil)) (.cons (.call 10 (.cons (.tup (.cons (.tup (.cons (.cst (.int 0)) (.cons (.cst (.int 1)) .nil))) (.cons (.cst (.int 3)) .nil))) .nil)) (.cons (.call 10 (.cons (.tup (.cons (.tup (.cons (.cst (.int 1)) .nil)) (.cons (.cst (.int 0)) .nil))) .nil)) .nil)))) (.cons (.ret (.cst (.bl false))) .nil) .nil) (.cons (.ite (.or (.not (.call 10 (.cons (.tup (.cons (.tup (.cons (.cst (.int 1)) (.cons (.cst (.int 3)) .nil))) (.cons (.cst (.int 3)) .nil))) .nil))) (.cons (.not (.call 9 (.cons (.tup (.cons (.cst (.str [35, 35, 35, 35, 35])) (.cons (.cst (.str [126, 126, 126, 126, 126])) (.cons (.cst (.str [46, 46, 46, 46, 46])) .nil)))) .nil))) .nil)) (.cons (.ret (.cst (.bl false))) .nil) .nil) (.cons (.ret (.and (.cmp .eq (.call 11 (.cons (.tup (.cons (.cst (.str [35])) (.cons (.cst (.str [46, 46, 35])) (.cons (.cst (.str [35])) .nil)))) (.cons (.cst (.int 2)) .nil))) (.cst (.str [35, 46, 46, 35, 46, 46, 35, 35]))) (.cons (.cmp .eq (.call 12 (.cons (.tup (.cons (.cst (.str [35])) (.cons (.cst (.str [46, 35, 126])) (.cons (.cst (.str [46, 46])) .nil)))) .nil)) (.tup (.cons (.cst (.str [46, 46])) (.cons (.cst (.str [126, 35, 46])) (.cons (.cst (.str [35])) .nil))))) .nil))) .nil))))))
def f_is_number : Fd := ⟨3, 3, true, b_is_number⟩
def f_is_tuple : Fd := ⟨3, 3, true, b_is_tuple⟩
def f_are_signs : Fd := ⟨3, 4, true, b_are_signs⟩
def f_is_good_bridge : Fd := ⟨1, 1, true, b_is_good_bridge⟩
def f_is_good_walker : Fd := ⟨1, 4, true, b_is_good_walker⟩
def f_need_bridge : Fd := ⟨1, 1, true, b_need_bridge⟩
def f_need_n : Fd := ⟨2, 2, true, b_need_n⟩
def f_signs_of : Fd := ⟨2, 2, true, b_signs_of⟩
def f_round_about : Fd := ⟨1, 1, true, b_round_about⟩
def f_is_bridge : Fd := ⟨1, 1, true, b_is_bridge⟩
def f_is_walker : Fd := ⟨1, 1, true, b_is_walker⟩
def f_planks : Fd := ⟨2, 2, true, b_planks⟩
def f_turned : Fd := ⟨1, 1, true, b_turned⟩
def f_law_source : Fd := ⟨2, 3, false, b_law_source⟩
def f_law_draw : Fd := ⟨2, 3, false, b_law_draw⟩
def f_law_of : Fd := ⟨2, 2, false, b_law_of⟩
def f_law_text_of : Fd := ⟨3, 5, false, b_law_text_of⟩
def f_law_bridge : Fd := ⟨1, 1, false, b_law_bridge⟩
def f_law_walker : Fd := ⟨1, 3, false, b_law_walker⟩
def f_law_signs : Fd := ⟨2, 2, true, b_law_signs⟩
def f_law_is_int : Fd := ⟨3, 3, true, b_law_is_int⟩
def f_law_are_signs : Fd := ⟨2, 3, true, b_law_are_signs⟩
def f_law_is_bridge : Fd := ⟨1, 1, true, b_law_is_bridge⟩
def f_law_is_walker : Fd := ⟨1, 2, true, b_law_is_walker⟩
def f_law_odd : Fd := ⟨1, 2, false, b_law_odd⟩
def f_law_spoilt : Fd := ⟨2, 4, false, b_law_spoilt⟩
def f_law : Fd := ⟨1, 8, true, b_law⟩
def TB : Tab := ⟨[f_is_number, f_is_tuple, f_are_signs, f_is_good_bridge, f_is_good_walker, f_need_bridge, f_need_n, f_signs_of, f_round_about, f_is_bridge, f_is_walker, f_planks, f_turned, f_law_source, f_law_draw, f_law_of, f_law_text_of, f_law_bridge, f_law_walker, f_law_signs, f_law_is_int, f_law_are_signs, f_law_is_bridge, f_law_is_walker, f_law_odd, f_law_spoilt, f_law], [], []⟩
end Law
namespace Law
open Ev
/-! ### what the program's defs compute -/
def numB (v : D) (a b : Int) : Bool := match v with
  | .int i => decide (a ≤ i) && decide (i ≤ b)
  | _ => false
theorem ev_is_number (n : Nat) (v : D) (a b : Int) (st : Sto) : (TB.cx (n + 1)).call 0 [.d v, .d (.int a), .d (.int b)] st = .ok (.d (.bl (numB v a b))) st := by
  rw [call_alone (f := f_is_number) rfl rfl rfl rfl]
  cases v with
  | int i =>
    simp [f_is_number, b_is_number, begin_, En.get, bltD, blt1, isiD, cmpV, copD, numB]
    by_cases h : a ≤ i <;> simp [h]
  | _ => rfl
def tupB (v : D) (a b : Int) : Bool := match v with
  | .tup xs => decide (a ≤ xs.length) && decide ((xs.length : Int) ≤ b)
  | _ => false
theorem ev_is_tuple (n : Nat) (v : D) (a b : Int) (st : Sto) : (TB.cx (n + 1)).call 1 [.d v, .d (.int a), .d (.int b)] st = .ok (.d (.bl (tupB v a b))) st := by
  rw [call_alone (f := f_is_tuple) rfl rfl rfl rfl]
  cases v with
  | tup xs =>
    simp [f_is_tuple, b_is_tuple, begin_, En.get, bltD, blt1, isiD, cmpV, copD, tupB, bLen]
    by_cases h : a ≤ (xs.length : Int) <;> simp [h]
  | _ => rfl
def signB (c : Nat) : Bool := [35, 126, 46].contains c
def sgnB (v : D) (a b : Int) : Bool := match v with
  | .str s => decide (a ≤ s.length) && decide ((s.length : Int) ≤ b) && s.all signB
  | _ => false
theorem signs_comp (C : Ctx) (s : List Nat) (a b : Int) (st : Sto) : evE C (.lc (.cmp .isin (.var 3) (.cst (.str [35, 126, 46]))) (.nm 3) (.val (.var 0)) .no [3]) [some (.d (.str s)), some (.d (.int a)), some (.d (.int b)), none] st = .ok (.d (.lst (s.map fun c => .bl (signB c)))) st := by
  rw [ev_lc (signsD s) (fun x => match x with
      | .str [c] => some (.bl (signB c))
      | _ => none) rfl fun x hx => ?_]
  · unfold signsD
    rw [List.filterMap_map, ← filterMap_some]
    rfl
  · obtain ⟨c, hc, rfl⟩ := List.mem_map.mp hx
    simp [lcS, bindT, En.wipe, En.put, En.get, cmpV, copD, inS, signB]
theorem ev_are_signs (n : Nat) (v : D) (a b : Int) (st : Sto) : (TB.cx (n + 1)).call 2 [.d v, .d (.int a), .d (.int b)] st = .ok (.d (.bl (sgnB v a b))) st := by
  rw [call_alone (f := f_are_signs) rfl rfl rfl rfl]
  cases v with
  | str s =>
    show (evSs (TB.cx n) b_are_signs [some (.d (.str s)), some (.d (.int a)), some (.d (.int b)), none] []).res.back st = _
    have hb : boolsD (s.map fun c => D.bl (signB c)) = some (s.map signB) := by
      rw [← boolsD_map, List.map_map]
      rfl
    simp [b_are_signs, signs_comp, En.get, bltD, blt1, isiD, cmpV, copD, bLen, bAll, hb, sgnB]
    by_cases h : a ≤ (s.length : Int)
    · by_cases h2 : (s.length : Int) ≤ b
      · simp [h, h2]
      · simp [h, h2]
    · simp [h]
  | _ => rfl
def gbB : D → Bool
  | .tup [a, b, c] => sgnB a 0 5 && sgnB b 1 5 && sgnB c 0 5
  | _ => false
theorem ev_good_bridge (n : Nat) (v : D) (st : Sto) : (TB.cx (n + 2)).call 3 [.d v] st = .ok (.d (.bl (gbB v))) st := by
  rw [call_alone (f := f_is_good_bridge) rfl rfl rfl rfl]
  show (evSs (TB.cx (n + 1)) b_is_good_bridge [some (.d v)] []).res.back st = _
  simp [b_is_good_bridge, En.get, ev_is_tuple, ev_are_signs]
  by_cases h : tupB v 3 3 = true
  · simp [h]
    cases v with
    | tup xs =>
      have hl : xs.length = 3 := by
        simp [tupB] at h
        omega
      match xs, hl with
      | [a, b, c], _ =>
        simp [idxV, idxD, ixN, ev_are_signs, gbB]
        cases sgnB a 0 5 <;> cases sgnB b 1 5 <;> simp
    | _ => simp [tupB] at h
  · have h' : tupB v 3 3 = false := by simpa using h
    simp [h']
    cases v with
    | tup xs =>
      match xs with
      | [a, b, c] => simp [tupB] at h'
      | [] => rfl
      | [_] => rfl
      | [_, _] => rfl
      | _ :: _ :: _ :: _ :: _ => rfl
    | _ => rfl
theorem ev_is_bridge (n : Nat) (v : D) (st : Sto) : (TB.cx (n + 3)).call 9 [.d v] st = .ok (.d (.bl (gbB v))) st := by
  rw [call_alone (f := f_is_bridge) rfl rfl rfl rfl]
  show (evSs (TB.cx (n + 2)) b_is_bridge [some (.d v)] []).res.back st = _
  simp [b_is_bridge, En.get, ev_good_bridge]
/-- the lengths rise -/
def incB : List D → Bool
  | .int a :: .int b :: r => decide (a < b) && incB (.int b :: r)
  | _ => true
def wB : D → D → Bool
  | .tup xs, d => tupB (.tup xs) 1 3 && numB d 1 5 && xs.all (fun x => numB x 1 4) && incB xs
  | _, _ => false
def gwB : D → Bool
  | .tup [w, d] => wB w d
  | _ => false
theorem num_comp (n : Nat) (v : D) (xs : List D) (a b c : Option Vl) (st : Sto) (hv : idxD v (.int 0) = some (.tup xs)) :
    evE (TB.cx (n + 1)) (.lc (.call 0 (.cons (.var 3) (.cons (.cst (.int 1)) (.cons (.cst (.int 4)) .nil)))) (.nm 3) (.val (.idx (.var 0) (.cst (.int 0)))) .no [3]) [some (.d v), a, b, c] st = .ok (.d (.lst (xs.map fun x => .bl (numB x 1 4)))) st := by
  rw [ev_lc xs (fun x => some (.bl (numB x 1 4))) (by simp [En.get, idxV, hv, itemsD]) fun x hx => ?_, filterMap_some]
  simp [lcS, bindT, En.wipe, En.put, En.get, ev_is_number]
theorem ints_of_num : ∀ {xs : List D}, xs.all (fun x => numB x 1 4) = true → ∃ is : List Int, xs = is.map D.int
  | [], _ => ⟨[], rfl⟩
  | x :: xs, h => by
    rw [List.all_cons, Bool.and_eq_true] at h
    obtain ⟨is, rfl⟩ := ints_of_num h.2
    cases x with
    | int i => exact ⟨i :: is, rfl⟩
    | _ => simp [numB] at h
def pairI (x : D) : Option D := match x with
  | .tup [.int a, .int b] => some (.bl (decide (a < b)))
  | _ => none
theorem inc_comp (C : Ctx) (v : D) (is : List Int) (st : Sto) (hv : idxD v (.int 0) = some (.tup (is.map D.int))) :
    evE C (.lc (.cmp .lt (.var 1) (.var 2)) (.tp (.cons (.nm 1) (.cons (.nm 2) .nil))) (.zip (.idx (.var 0) (.cst (.int 0))) (.slc (.idx (.var 0) (.cst (.int 0))) (.e (.cst (.int 1))) .no)) .no [1, 2]) [some (.d v), none, none, none] st = .ok (.d (.lst ((zipD (is.map D.int) ((is.map D.int).drop 1)).filterMap pairI))) st := by
  rw [ev_lc (zipD (is.map D.int) ((is.map D.int).drop 1)) pairI ?_ fun x hx => ?_]
  · have e : cut (is.map D.int) (some 1) none = (is.map D.int).drop 1 := by
      cases is with
      | nil => rfl
      | cons i is =>
        unfold cut sIx
        simp
        exact List.take_of_length_le (by simp)
    simp [En.get, idxV, hv, cutD, zipV, e]
  · have : ∃ a b : Int, x = .tup [.int a, .int b] := by
      have key : ∀ (is js : List Int), x ∈ zipD (is.map D.int) (js.map D.int) → ∃ a b : Int, x = .tup [.int a, .int b] := by
        intro is
        induction is with
        | nil => intro js h; simp [zipD] at h
        | cons i is ih =>
          intro js h
          cases js with
          | nil => simp [zipD] at h
          | cons j js =>
            simp [zipD] at h
            rcases h with h | h
            · exact ⟨i, j, h⟩
            · exact ih js h
      rw [← List.map_drop] at hx
      exact key _ _ hx
    obtain ⟨a, b, rfl⟩ := this
    simp [lcS, bindT, bindTs, En.wipe, En.put, En.get, cmpV, copD, pairI]
theorem inc_all : ∀ is : List Int, ∃ bs, boolsD ((zipD (is.map D.int) ((is.map D.int).drop 1)).filterMap pairI) = some bs ∧ bs.all id = incB (is.map D.int)
  | [] => ⟨[], rfl, rfl⟩
  | [i] => ⟨[], rfl, rfl⟩
  | i :: j :: is => by
    obtain ⟨bs, h1, h2⟩ := inc_all (j :: is)
    refine ⟨decide (i < j) :: bs, ?_, ?_⟩
    · simp only [List.map_cons, List.drop_succ_cons, List.drop_zero] at h1 ⊢
      simp only [zipD, List.filterMap_cons, pairI, boolsD] at h1 ⊢
      rw [h1]
    · simp only [List.all_cons, h2, List.map_cons, incB, id]
theorem ev_good_walker (n : Nat) (v : D) (st : Sto) : (TB.cx (n + 2)).call 4 [.d v] st = .ok (.d (.bl (gwB v))) st := by
  rw [call_alone (f := f_is_good_walker) rfl rfl rfl rfl]
  show (evSs (TB.cx (n + 1)) b_is_good_walker [some (.d v), none, none, none] []).res.back st = _
  by_cases h : tupB v 2 2 = true
  · cases v with
    | tup xs =>
      have hl : xs.length = 2 := by
        simp [tupB] at h
        omega
      match xs, hl with
      | [w, d], _ =>
        by_cases hw : tupB w 1 3 = true
        · cases w with
          | tup ys =>
            have hidx : idxD (.tup [.tup ys, d]) (.int 0) = some (.tup ys) := rfl
            have hc := num_comp n (.tup [.tup ys, d]) ys none none none [] hidx
            have hb : boolsD (ys.map fun x => D.bl (numB x 1 4)) = some (ys.map fun x => numB x 1 4) := by
              rw [← boolsD_map, List.map_map]
              rfl
            have ha : (List.all (ys.map fun x => numB x 1 4) id) = ys.all fun x => numB x 1 4 := by
              rw [List.all_map]
              rfl
            simp [b_is_good_walker, En.get, ev_is_tuple, ev_is_number, h, idxV, idxD, ixN, hw, bltD, blt1, bAll]
            cases hd : numB d 1 5
            · simp [gwB, wB, hd]
            · simp only [cond_true, then_nx, hc, bind_ok, rawVs_d, rawVs_nil, Option.map_some, onD_some, hb, ha, ofO_some, onO_bl, out_ok]
              cases hy : (ys.all fun x => numB x 1 4)
              · simp [gwB, wB, hd, hy]
              · obtain ⟨is, rfl⟩ := ints_of_num hy
                obtain ⟨bs, h1, h2⟩ := inc_all is
                rw [List.drop_one] at h1
                simp [inc_comp _ (.tup [.tup (is.map D.int), d]) is _ hidx, h1, gwB, wB, hd, hy, hw]
                simpa using h2
          | _ => simp [tupB] at hw
        · have hw' : tupB w 1 3 = false := by simpa using hw
          simp [b_is_good_walker, En.get, ev_is_tuple, ev_is_number, h, idxV, idxD, ixN, hw']
          cases w with
          | tup ys => simp [gwB, wB, hw']
          | _ => rfl
    | _ => simp [tupB] at h
  · have h' : tupB v 2 2 = false := by simpa using h
    simp [b_is_good_walker, En.get, ev_is_tuple, h']
    cases v with
    | tup xs =>
      match xs with
      | [a, b] => simp [tupB] at h'
      | [] => rfl
      | [_] => rfl
      | _ :: _ :: _ :: _ => rfl
    | _ => rfl
theorem ev_is_walker (n : Nat) (v : D) (st : Sto) : (TB.cx (n + 3)).call 10 [.d v] st = .ok (.d (.bl (gwB v))) st := by
  rw [call_alone (f := f_is_walker) rfl rfl rfl rfl]
  show (evSs (TB.cx (n + 2)) b_is_walker [some (.d v)] []).res.back st = _
  simp [b_is_walker, En.get, ev_good_walker]
theorem ev_need_bridge (n : Nat) (v : D) (st : Sto) (h : gbB v = true) : (TB.cx (n + 3)).call 5 [.d v] st = .ok (.d .non) st := by
  rw [call_alone (f := f_need_bridge) rfl rfl rfl rfl]
  show (evSs (TB.cx (n + 2)) b_need_bridge [some (.d v)] []).res.back st = _
  simp [b_need_bridge, En.get, ev_good_bridge, h]
theorem ev_need_n (n : Nat) (v : D) (m : Int) (st : Sto) (h : numB v 0 m = true) : (TB.cx (n + 2)).call 6 [.d v, .d (.int m)] st = .ok (.d .non) st := by
  rw [call_alone (f := f_need_n) rfl rfl rfl rfl]
  show (evSs (TB.cx (n + 1)) b_need_n [some (.d v), some (.d (.int m))] []).res.back st = _
  simp [b_need_n, En.get, ev_is_number, h]
/-- a bridge's texts: three, of five signs at most -/
def Br (a b c : List Nat) : Prop := a.length ≤ 5 ∧ 1 ≤ b.length ∧ b.length ≤ 5 ∧ c.length ≤ 5 ∧ a.all signB = true ∧ b.all signB = true ∧ c.all signB = true
def brD (a b c : List Nat) : D := .tup [.str a, .str b, .str c]
theorem Br.good {a b c : List Nat} (h : Br a b c) : gbB (brD a b c) = true := by
  obtain ⟨h1, h2, h3, h4, h5, h6, h7⟩ := h
  simp only [gbB, brD, sgnB, h5, h6, h7, Bool.and_true, Bool.and_eq_true, decide_eq_true_eq]
  omega
theorem Br.rev {a b c : List Nat} (h : Br a b c) : Br c.reverse b.reverse a.reverse := by
  obtain ⟨h1, h2, h3, h4, h5, h6, h7⟩ := h
  refine ⟨by simpa using h4, by simpa using h2, by simpa using h3, by simpa using h1, ?_, ?_, ?_⟩ <;> rw [List.all_reverse] <;> assumption
def signs (a b c : List Nat) (k : Nat) : List Nat := a ++ rep k b ++ c
theorem rep_len {α : Type} (xs : List α) : ∀ k, (rep k xs).length = xs.length * k
  | 0 => rfl
  | k + 1 => by
    show (xs ++ rep k xs).length = _
    rw [List.length_append, rep_len xs k, Nat.mul_succ]
    omega
theorem ev_signs_of (n : Nat) {a b c : List Nat} {k : Nat} (st : Sto) (h : Br a b c) (hk : k ≤ 100) : (TB.cx (n + 1)).call 7 [.d (brD a b c), .d (.int k)] st = .ok (.d (.str (signs a b c k))) st := by
  rw [call_alone (f := f_signs_of) rfl rfl rfl rfl]
  show (evSs (TB.cx n) b_signs_of [some (.d (brD a b c)), some (.d (.int k))] []).res.back st = _
  obtain ⟨h1, h2, h3, h4, h5, h6, h7⟩ := h
  have hm : b.length * k ≤ 5 * 100 := Nat.mul_le_mul h3 hk
  have hl := rep_len b k
  have e1 : b.length * k ≤ 16777216 := by omega
  have e2 : a.length + (rep k b).length ≤ 16777216 := by omega
  have e3 : a.length + (rep k b).length + c.length ≤ 16777216 := by omega
  have e4 : k < 1000000 := by omega
  simp [b_signs_of, En.get, brD, idxV, idxD, ixN, opD, line, e1, e2, e3, e4, signs]
theorem ev_law_signs (n : Nat) {a b c : List Nat} {k : Nat} (st : Sto) (h : Br a b c) (hk : k ≤ 100) : (TB.cx (n + 1)).call 19 [.d (brD a b c), .d (.int k)] st = .ok (.d (.str (signs a b c k))) st := by
  rw [call_alone (f := f_law_signs) rfl rfl rfl rfl]
  show (evSs (TB.cx n) b_law_signs [some (.d (brD a b c)), some (.d (.int k))] []).res.back st = _
  have e : b_law_signs = b_signs_of := rfl
  rw [e]
  have := ev_signs_of n st h hk
  rw [call_alone (f := f_signs_of) rfl rfl rfl rfl] at this
  exact this
theorem ev_round_about (n : Nat) (a b c : List Nat) (st : Sto) : (TB.cx (n + 1)).call 8 [.d (brD a b c)] st = .ok (.d (brD c.reverse b.reverse a.reverse)) st := by
  rw [call_alone (f := f_round_about) rfl rfl rfl rfl]
  show (evSs (TB.cx n) b_round_about [some (.d (brD a b c))] []).res.back st = _
  simp [b_round_about, En.get, brD, idxV, idxD, ixN, revD]
theorem ev_planks (n : Nat) {a b c : List Nat} {k : Nat} (st : Sto) (h : Br a b c) (hk : k ≤ 100) : (TB.cx (n + 4)).call 11 [.d (brD a b c), .d (.int k)] st = .ok (.d (.str (signs a b c k))) st := by
  rw [call_alone (f := f_planks) rfl rfl rfl rfl]
  show (evSs (TB.cx (n + 3)) b_planks [some (.d (brD a b c)), some (.d (.int k))] []).res.back st = _
  have hn : numB (.int (k : Int)) 0 100 = true := by
    simp [numB]
    omega
  simp [b_planks, En.get, ev_need_bridge n (brD a b c) _ h.good, ev_need_n (n + 1) (.int (k : Int)) 100 _ hn, ev_signs_of (n + 2) _ h hk]
theorem ev_turned (n : Nat) {a b c : List Nat} (st : Sto) (h : Br a b c) : (TB.cx (n + 4)).call 12 [.d (brD a b c)] st = .ok (.d (brD c.reverse b.reverse a.reverse)) st := by
  rw [call_alone (f := f_turned) rfl rfl rfl rfl]
  show (evSs (TB.cx (n + 3)) b_turned [some (.d (brD a b c))] []).res.back st = _
  simp [b_turned, En.get, ev_need_bridge n (brD a b c) _ h.good, ev_round_about]
/-! ### the law's own words -/
theorem ev_law_is_int (n : Nat) (v : D) (a b : Int) (st : Sto) : (TB.cx (n + 1)).call 20 [.d v, .d (.int a), .d (.int b)] st = .ok (.d (.bl (numB v a b))) st := by
  have := ev_is_number n v a b st
  rw [call_alone (f := f_is_number) rfl rfl rfl rfl] at this
  rw [call_alone (f := f_law_is_int) rfl rfl rfl rfl]
  exact this
theorem bad_comp (C : Ctx) (s : List Nat) (a : Option Vl) (st : Sto) :
    evE C (.lc (.var 2) (.nm 2) (.val (.var 0)) (.e (.cmp .notin (.var 2) (.lst (.cons (.cst (.str [35])) (.cons (.cst (.str [126])) (.cons (.cst (.str [46])) .nil)))))) [2]) [some (.d (.str s)), a, none] st = .ok (.d (.lst ((s.filter fun c => !signB c).map fun c => .str [c]))) st := by
  rw [ev_lc (signsD s) (fun x => match x with
      | .str [c] => if signB c then none else some (.str [c])
      | _ => none) (by simp [En.get, itemsD]) fun x hx => ?_]
  · congr 3
    unfold signsD
    rw [List.filterMap_map]
    induction s with
    | nil => rfl
    | cons c s ih =>
      rw [List.filterMap_cons, List.filter_cons]
      simp only [Function.comp]
      cases hc : signB c
      · simp only [Bool.not_false, if_true, List.map_cons]
        rw [ih]
        rfl
      · simp only [Bool.not_true, if_true]
        rw [ih]
        rfl
  · obtain ⟨c, hc, rfl⟩ := List.mem_map.mp hx
    have e : inD (.str [c]) [.str [35], .str [126], .str [46]] = signB c := by
      simp only [inD, D.eqv, signB, List.contains_cons, List.contains_nil, Bool.or_false]
      rw [Bool.eq_iff_iff]
      simp
      constructor
      · rintro (h | h | h) <;> simp [h.symm]
      · rintro (h | h | h) <;> simp [h]
    simp [lcS, bindT, En.wipe, En.put, En.get, cmpV, copD, D.depth, e]
    cases signB c <;> simp
theorem ev_law_are_signs (n : Nat) (v : D) (a : Int) (st : Sto) : (TB.cx (n + 1)).call 21 [.d v, .d (.int a)] st = .ok (.d (.bl (sgnB v a 5))) st := by
  rw [call_alone (f := f_law_are_signs) rfl rfl rfl rfl]
  cases v with
  | str s =>
    show (evSs (TB.cx n) b_law_are_signs [some (.d (.str s)), some (.d (.int a)), none] []).res.back st = _
    simp [b_law_are_signs, bad_comp, En.get, bltD, blt1, isiD, cmpV, copD, bLen, sgnB]
    by_cases h : a ≤ (s.length : Int)
    · by_cases h2 : (s.length : Int) ≤ 5
      · have he : D.eqv (.lst ((s.filter fun c => !signB c).map fun c => D.str [c])) (.lst []) = s.all signB := by
          show D.eqvs ((s.filter fun c => !signB c).map fun c => D.str [c]) [] = _
          clear h h2
          induction s with
          | nil => rfl
          | cons c s ih =>
            rw [List.filter_cons, List.all_cons]
            cases hc : signB c
            · rfl
            · simpa using ih
        have hd : min (D.depth (.lst ((s.filter fun c => !signB c).map fun c => D.str [c]))) (D.depth (.lst [])) ≤ 64 := by
          simp only [D.depth, D.depths]
          omega
        simp [h, h2, bad_comp, cmpV, copD, he, hd]
      · simp [h, h2]
    · simp [h]
  | _ => rfl
theorem ev_law_is_bridge (n : Nat) (v : D) (st : Sto) : (TB.cx (n + 2)).call 22 [.d v] st = .ok (.d (.bl (gbB v))) st := by
  rw [call_alone (f := f_law_is_bridge) rfl rfl rfl rfl]
  show (evSs (TB.cx (n + 1)) b_law_is_bridge [some (.d v)] []).res.back st = _
  cases v with
  | tup xs =>
    by_cases hl : xs.length = 3
    · match xs, hl with
      | [a, b, c], _ =>
        simp [b_law_is_bridge, En.get, bltD, blt1, isiD, cmpV, copD, bLen, D.depth, D.eqv, idxV, idxD, ixN, ev_law_are_signs, gbB]
        cases sgnB a 0 5 <;> cases sgnB b 1 5 <;> simp
    · have hl' : ((xs.length : Int) == 3) = false := by
        rw [beq_eq_false_iff_ne]
        omega
      simp [b_law_is_bridge, En.get, bltD, blt1, isiD, cmpV, copD, bLen, D.depth, D.eqv, hl']
      match xs with
      | [a, b, c] => simp at hl
      | [] => rfl
      | [_] => rfl
      | [_, _] => rfl
      | _ :: _ :: _ :: _ :: _ => rfl
  | _ => rfl
theorem badnum_comp (n : Nat) (v : D) (xs : List D) (a : Option Vl) (st : Sto) (hv : idxD v (.int 0) = some (.tup xs)) :
    evE (TB.cx (n + 1)) (.lc (.var 1) (.nm 1) (.val (.idx (.var 0) (.cst (.int 0)))) (.e (.not (.call 20 (.cons (.var 1) (.cons (.cst (.int 1)) (.cons (.cst (.int 4)) .nil)))))) [1]) [some (.d v), a] st = .ok (.d (.lst (xs.filter fun x => !numB x 1 4))) st := by
  rw [ev_lc xs (fun x => if numB x 1 4 then none else some x) (by simp [En.get, idxV, hv, itemsD]) fun x hx => ?_]
  · congr 3
    clear hv
    induction xs with
    | nil => rfl
    | cons x xs ih =>
      rw [List.filterMap_cons, List.filter_cons]
      cases hc : numB x 1 4 <;> simp [ih]
  · simp [lcS, bindT, En.wipe, En.put, En.get, ev_law_is_int]
    cases numB x 1 4 <;> simp
theorem eqvs_ints : ∀ (a b : List Int), D.eqvs (a.map D.int) (b.map D.int) = decide (a = b)
  | [], [] => by simp [D.eqvs]
  | [], _ :: _ => by simp [D.eqvs]
  | _ :: _, [] => by simp [D.eqvs]
  | x :: a, y :: b => by
    simp only [List.map_cons, D.eqvs, D.eqv, eqvs_ints a b]
    rw [Bool.eq_iff_iff]
    simp
theorem inc_up : ∀ is : List Int, incB (is.map D.int) = decide (is.Pairwise (· < ·))
  | [] => by simp [incB]
  | [i] => by simp [incB]
  | i :: j :: is => by
    have ih := inc_up (j :: is)
    show (decide (i < j) && incB ((j :: is).map D.int)) = _
    rw [ih, Bool.eq_iff_iff, Bool.and_eq_true, decide_eq_true_eq, decide_eq_true_eq, decide_eq_true_eq]
    constructor
    · rintro ⟨h1, h2⟩
      refine List.pairwise_cons.mpr ⟨fun x hx => ?_, h2⟩
      rcases List.mem_cons.mp hx with rfl | hx
      · exact h1
      · exact Int.lt_trans h1 ((List.pairwise_cons.mp h2).1 x hx)
    · intro h
      obtain ⟨h1, h2⟩ := List.pairwise_cons.mp h
      exact ⟨h1 j List.mem_cons_self, h2⟩
theorem inc_set (is : List Int) : decide (is = setI is) = incB (is.map D.int) := by
  rw [inc_up, Bool.eq_iff_iff, decide_eq_true_eq, decide_eq_true_eq]
  constructor
  · intro h
    rw [h]
    exact up_setI is
  · exact fun h => up_inj h (up_setI is) fun k => mem_setI.symm
theorem ev_law_is_walker (n : Nat) (v : D) (st : Sto) : (TB.cx (n + 2)).call 23 [.d v] st = .ok (.d (.bl (gwB v))) st := by
  rw [call_alone (f := f_law_is_walker) rfl rfl rfl rfl]
  show (evSs (TB.cx (n + 1)) b_law_is_walker [some (.d v), none] []).res.back st = _
  cases v with
  | tup xs =>
    by_cases hl : xs.length = 2
    · match xs, hl with
      | [w, d], _ =>
        cases w with
        | tup ys =>
          have hidx : idxD (.tup [.tup ys, d]) (.int 0) = some (.tup ys) := rfl
          have hc := badnum_comp n (.tup [.tup ys, d]) ys none [] hidx
          have he : D.eqv (.lst (ys.filter fun x => !numB x 1 4)) (.lst []) = ys.all fun x => numB x 1 4 := by
            show D.eqvs (ys.filter fun x => !numB x 1 4) [] = _
            clear hc hidx
            induction ys with
            | nil => rfl
            | cons y ys ih =>
              rw [List.filter_cons, List.all_cons]
              cases hc : numB y 1 4
              · rfl
              · simpa using ih
          have hd : min (D.depth (.lst (ys.filter fun x => !numB x 1 4))) (D.depth (.lst [])) ≤ 64 := by
            simp only [D.depth, D.depths]
            omega
          simp [b_law_is_walker, En.get, bltD, blt1, isiD, cmpV, copD, bLen, idxV, idxD, ixN]
          simp [D.depth, D.eqv]
          by_cases h1 : (1 : Int) ≤ (ys.length : Int)
          · by_cases h3 : (ys.length : Int) ≤ 3
            · simp [h1, h3, hc, he, hd, cmpV, copD]
              cases hy : (ys.all fun x => numB x 1 4)
              · simp [gwB, wB, hy]
              · obtain ⟨is, rfl⟩ := ints_of_num hy
                have hs : ssetD (.tup (is.map D.int)) = some (.lst ((setI is).map D.int)) := by
                  have hl : is.length < 64 := by
                    rw [List.length_map] at h3
                    omega
                  simp [ssetD, intsD_map, hl]
                have hq : D.eqv (.lst (is.map D.int)) (.lst ((setI is).map D.int)) = incB (is.map D.int) := by
                  show D.eqvs _ _ = _
                  rw [eqvs_ints, inc_set]
                have hz : min (D.depth (.lst (is.map D.int))) (D.depth (.lst ((setI is).map D.int))) ≤ 64 := by
                  have : ∀ l : List Int, D.depths (l.map D.int) = 0 := by
                    intro l
                    induction l with
                    | nil => rfl
                    | cons x l ih => simp [D.depths, D.depth, ih]
                  simp only [D.depth, this]
                  omega
                simp [bList, hs, hq, hz, ev_law_is_int, En.get, idxV, idxD, ixN, bltD, blt1, cmpV, copD, gwB, wB, hy, tupB]
                rw [List.length_map] at h1 h3
                cases hinc : incB (is.map D.int) <;> simp [h1, h3]
            · simp [h3, gwB, wB, tupB]
          · simp [h1, gwB, wB, tupB]
        | _ => simp [b_law_is_walker, En.get, bltD, blt1, isiD, cmpV, copD, bLen, D.depth, D.eqv, idxV, idxD, ixN, gwB, wB]
    · have hl' : ((xs.length : Int) == 2) = false := by
        rw [beq_eq_false_iff_ne]
        omega
      simp [b_law_is_walker, En.get, bltD, blt1, isiD, cmpV, copD, bLen, D.depth, D.eqv, hl']
      match xs with
      | [a, b] => simp at hl
      | [] => rfl
      | [_] => rfl
      | _ :: _ :: _ :: _ => rfl
  | _ => rfl
end Law

namespace Law
open Ev
/-! ### the drawn numbers -/
/-- a source stands at r -/
def Src (st : Sto) (r : Nat) : Prop := ∃ a b : Int, st[r]? = some (.lst [.int a, .int b])
theorem Src.lt {st : Sto} {r : Nat} (h : Src st r) : r < st.length := by
  obtain ⟨a, b, h⟩ := h
  exact (List.getElem?_eq_some_iff.mp h).1
theorem src_set {st : Sto} {r : Nat} {a b : Int} (h : r < st.length) : Src (st.set r (.lst [.int a, .int b])) r := ⟨a, b, List.getElem?_set_self h⟩
theorem fmod_lt (a : Int) {m : Int} (h : 0 < m) : 0 ≤ Int.fmod a m ∧ Int.fmod a m < m := ⟨Int.fmod_nonneg_of_pos a h, Int.fmod_lt_of_pos a h⟩
theorem ev_draw (n : Nat) {r : Nat} {st : Sto} {m : Int} (h : Src st r) (hm : 0 < m) (hm2 : m < 1073741824) : ∃ k st', (TB.cx (n + 1)).call 14 [.ref r, .d (.int m)] st = .ok (.d (.int k)) st' ∧ 0 ≤ k ∧ k < m ∧ Src st' r := by
  have hr := h.lt
  obtain ⟨a, b, h⟩ := h
  rw [call_open (f := f_law_draw) rfl rfl rfl]
  have h1 : (m == 0) = false := by rw [beq_eq_false_iff_ne]; omega
  have hmn : m ≠ 0 := by omega
  have hma : m.natAbs < 1073741824 := by omega
  have hget : ∀ x, (st.set r x)[r]? = some x := fun x => List.getElem?_set_self hr
  by_cases ha : 0 < a
  · refine ⟨Int.fmod a m, st.set r (.lst [.int (Int.fdiv a m), .int b]), ?_, (fmod_lt a hm).1, (fmod_lt a hm).2, src_set hr⟩
    simp [f_law_draw, b_law_draw, begin_, En.get, En.put, idxV, h, idxD, ixN, cmpV, copD, ha, bltD, blt1, bInt, opD, hmn, hma, setV]
  · have e : ∀ x : Int, 0 ≤ Int.fmod x 2147483647 ∧ Int.fmod x 2147483647 < 2147483647 := fun x => fmod_lt x (by decide)
    obtain ⟨b', hb'⟩ : ∃ b', b' = Int.fmod (b * 48271) 2147483647 := ⟨_, rfl⟩
    have hb2 := e (b * 48271)
    rw [← hb'] at hb2
    have hb3 : b'.natAbs < 18446744073709551616 := by omega
    refine ⟨Int.fmod (Int.fdiv (Int.fmod (b' * b') 2147483629) 64) m, st.set r (.lst [.int a, .int b']), ?_, (fmod_lt _ hm).1, (fmod_lt _ hm).2, src_set hr⟩
    simp [f_law_draw, b_law_draw, begin_, En.get, En.put, idxV, h, idxD, ixN, cmpV, copD, ha, bltD, blt1, bInt, opD, hmn, hma, setV, hget, ← hb', hb3]
theorem ev_of (n : Nat) {r : Nat} {st : Sto} {xs : List D} (h : Src st r) (hx : xs ≠ []) (hl : xs.length < 1073741824) : ∃ x st', (TB.cx (n + 2)).call 15 [.ref r, .d (.lst xs)] st = .ok (.d x) st' ∧ x ∈ xs ∧ Src st' r := by
  have hp : (0 : Int) < (xs.length : Int) := by
    cases xs with
    | nil => exact absurd rfl hx
    | cons x xs => simp only [List.length_cons]; omega
  obtain ⟨k, st', h1, h2, h3, h4⟩ := ev_draw n h hp (by omega)
  obtain ⟨j, rfl⟩ := Int.eq_ofNat_of_zero_le h2
  have hj : j < xs.length := by omega
  refine ⟨xs[j], st', ?_, List.getElem_mem hj, h4⟩
  rw [call_open (f := f_law_of) rfl rfl rfl]
  have hix : Ev.ixN xs.length (j : Int) = some j := by
    unfold ixN
    rw [if_pos (by omega), if_pos (by omega)]
    simp
  simp [f_law_of, b_law_of, begin_, En.get, bltD, blt1, bLen, h1, idxV, idxD, hix, hj]
end Law

namespace Law
open Ev
theorem ev_source (n : Nat) (ns : List Int) (k : Nat) (st : Sto) (hk : k ≤ 1000) : ∃ a b : Int, (TB.cx (n + 1)).call 13 [.d (.lst (ns.map D.int)), .d (.int k)] st = .ok (.ref st.length) (st ++ [.lst [.int a, .int b]]) := by
  rw [call_open (f := f_law_source) rfl rfl rfl]
  have fin : ∀ (cell : Int) (x : Option Vl), ∃ a b : Int, (evSs (TB.cx n) (.cons (.ite (.cmp .lt (.var 2) (.bin .pow (.cst (.int 10)) (.cst (.int 18)))) (.cons (.ret (.new (.cons (.cst (.int 0)) (.cons (.bin .add (.cst (.int 1)) (.bin .mod (.blt .int (.cons (.bin .add (.bin .mul (.var 2) (.cst (.int 7919))) (.bin .mul (.cst (.int 104729)) (.var 1))) .nil)) (.cst (.int 2147483646)))) .nil)))) .nil) .nil) (.cons (.ret (.new (.cons (.var 2) (.cons (.bin .add (.cst (.int 1)) (.bin .mod (.blt .int (.cons (.bin .add (.var 2) (.var 1)) .nil)) (.cst (.int 2147483646)))) .nil)))) .nil))
      [some (.d (.lst (ns.map D.int))), some (.d (.int k)), some (.d (.int cell))] st).res = .ok (.ref st.length) (st ++ [.lst [.int a, .int b]]) := fun cell x => by
    by_cases h : cell < 10 ^ 18
    · refine ⟨0, 1 + Int.fmod (cell * 7919 + 104729 * (k : Int)) 2147483646, ?_⟩
      have h' : cell < 1000000000000000000 := h
      simp [En.get, cmpV, copD, opD, bltD, blt1, bInt, h', kindM]
    · refine ⟨cell, 1 + Int.fmod (cell + (k : Int)) 2147483646, ?_⟩
      have h' : ¬ cell < 1000000000000000000 := h
      simp [En.get, cmpV, copD, opD, bltD, blt1, bInt, h', kindM]
  by_cases hk2 : k < ns.length
  · have hx : (ns.map D.int)[k]? = some (.int ns[k]) := by simp [hk2]
    have hix : ixN (ns.map D.int).length (k : Int) = some k := by
      unfold ixN
      rw [if_pos (by omega), if_pos (by simp; omega)]
      simp
    have hlt : (k : Int) < (ns.length : Int) := by omega
    obtain ⟨a, b, h⟩ := fin (if ns[k] < 0 then -ns[k] else ns[k]) none
    refine ⟨a, b, ?_⟩
    rw [← h]
    have hix' : ixN ns.length (k : Int) = some k := by simpa using hix
    simp [f_law_source, b_law_source, begin_, En.get, En.put, bltD, blt1, bLen, cmpV, copD, hlt, idxV, idxD, hix', hk2, bInt, bAbs]
  · have hlt : ¬ (k : Int) < (ns.length : Int) := by omega
    obtain ⟨a, b, h⟩ := fin 0 none
    refine ⟨a, b, ?_⟩
    rw [← h]
    simp [f_law_source, b_law_source, begin_, En.get, En.put, bltD, blt1, bLen, cmpV, copD, hlt]
theorem src_new {st : Sto} {a b : Int} : Src (st ++ [.lst [.int a, .int b]]) st.length := ⟨a, b, by simp⟩
/-- six texts of one sign -/
def six : List D := [.str [35], .str [35], .str [35], .str [46], .str [46], .str [126]]
theorem ev_text_of (n : Nat) {r : Nat} {st : Sto} (h : Src st r) {lo hi : Nat} (h1 : lo ≤ hi) (h2 : hi ≤ 1000) : ∃ s st', (TB.cx (n + 3)).call 16 [.ref r, .d (.int lo), .d (.int hi)] st = .ok (.d (.str s)) st' ∧ lo ≤ s.length ∧ s.length ≤ hi ∧ s.all signB = true ∧ Src st' r := by
  obtain ⟨k, st1, e1, k1, k2, s1⟩ := ev_draw (n + 1) (m := (hi : Int) - lo + 1) h (by omega) (by omega)
  obtain ⟨j, rfl⟩ := Int.eq_ofNat_of_zero_le k1
  rw [call_open (f := f_law_text_of) rfl rfl rfl]
  have hit : evIt (TB.cx (n + 2)) i_law_text_of_1 [some (.ref r), some (.d (.int lo)), some (.d (.int hi)), some (.d (.str [])), none] st = .ok (rangeD 0 (lo + j)) st1 := by
    have e : ((lo : Int) + (j : Int)).natAbs ≤ 16777216 := by omega
    have e3 : ((lo : Int) + (j : Int)).toNat = lo + j := by omega
    simp [i_law_text_of_1, En.get, opD, e1, rawV, line, e, e3]
  obtain ⟨ρ', st', hf, s, t, rfl, hs, ha, hsrc⟩ := ev_for_inv (t := .nm 4) (b := l_law_text_of_1)
    (fun i ρ st => ∃ s t, ρ = [some (.ref r), some (.d (.int lo)), some (.d (.int hi)), some (.d (.str s)), t] ∧ s.length = i ∧ s.all signB = true ∧ Src st r) hit
    (fun i x ρ st hx ⟨s, t, hρ, hs, ha, hsrc⟩ => by
      subst hρ
      obtain ⟨hlt, rfl⟩ := range_lt hx
      obtain ⟨y, st2, e2, hy, s2⟩ := ev_of n (xs := six) hsrc (by simp [six]) (by decide)
      have : ∃ c, y = .str [c] ∧ signB c = true := by
        simp [six] at hy
        rcases hy with h | h | h <;> subst h
        · exact ⟨35, rfl, rfl⟩
        · exact ⟨46, rfl, rfl⟩
        · exact ⟨126, rfl, rfl⟩
      obtain ⟨c, rfl, hc⟩ := this
      have hln : s.length + 1 ≤ 16777216 := by omega
      have e2' : (TB.cx (n + 2)).call 15 [.ref r, .d (.lst [.str [35], .str [35], .str [35], .str [46], .str [46], .str [126]])] st = .ok (.d (.str [c])) st2 := e2
      refine ⟨_, [some (.ref r), some (.d (.int lo)), some (.d (.int hi)), some (.d (.str (s ++ [c]))), some (.d (.int (0 + (i : Int))))], st2, rfl, .inl ?_, s ++ [c], _, rfl, by simp [hs], by simp [ha, hc], s2⟩
      simp [l_law_text_of_1, En.put, En.get, e2', opD, line, hln])
    ⟨[], none, rfl, rfl, rfl, s1⟩
  rw [range_len] at hs
  refine ⟨s, st', ?_, by omega, by omega, ha, hsrc⟩
  have hf' : evS (TB.cx (n + 2)) (.for_ (.nm 4) i_law_text_of_1 l_law_text_of_1) [some (.ref r), some (.d (.int lo)), some (.d (.int hi)), some (.d (.str [])), none] st = _ := hf
  simp [f_law_text_of, b_law_text_of, begin_, En.put, hf', En.get]
theorem ev_law_bridge (n : Nat) {r : Nat} {st : Sto} (h : Src st r) : ∃ a b c st', (TB.cx (n + 4)).call 17 [.ref r] st = .ok (.d (brD a b c)) st' ∧ Br a b c ∧ Src st' r := by
  obtain ⟨a, st1, e1, a1, a2, a3, s1⟩ := ev_text_of n h (lo := 0) (hi := 5) (by decide) (by decide)
  obtain ⟨b, st2, e2, b1, b2, b3, s2⟩ := ev_text_of n s1 (lo := 1) (hi := 5) (by decide) (by decide)
  obtain ⟨c, st3, e3, c1, c2, c3, s3⟩ := ev_text_of n s2 (lo := 0) (hi := 5) (by decide) (by decide)
  refine ⟨a, b, c, st3, ?_, ⟨a2, b1, b2, c2, a3, b3, c3⟩, s3⟩
  rw [call_open (f := f_law_bridge) rfl rfl rfl]
  have e1' : (TB.cx (n + 3)).call 16 [.ref r, .d (.int 0), .d (.int 5)] st = .ok (.d (.str a)) st1 := e1
  have e2' : (TB.cx (n + 3)).call 16 [.ref r, .d (.int 1), .d (.int 5)] st1 = .ok (.d (.str b)) st2 := e2
  have e3' : (TB.cx (n + 3)).call 16 [.ref r, .d (.int 0), .d (.int 5)] st2 = .ok (.d (.str c)) st3 := e3
  simp [f_law_bridge, b_law_bridge, begin_, En.get, e1', e2', e3', brD]
end Law

namespace Law
open Ev
/-! ### values that are spoilt: how deep, how wide -/
def sz : Nat → Nat → D → Bool
  | 0, _, .tup _ => false
  | d + 1, w, .tup xs => decide (xs.length ≤ w) && xs.all (sz d w)
  | _, _, _ => true
theorem sz_mono : ∀ {d d' w w' : Nat} {x : D}, sz d w x = true → d ≤ d' → w ≤ w' → sz d' w' x = true
  | 0, d', w, w', .tup xs, h, _, _ => by simp [sz] at h
  | d + 1, 0, w, w', .tup xs, h, hd, _ => by omega
  | d + 1, d' + 1, w, w', .tup xs, h, hd, hw => by
    simp only [sz, Bool.and_eq_true, decide_eq_true_eq, List.all_eq_true] at h ⊢
    exact ⟨by omega, fun x hx => sz_mono (h.2 x hx) (by omega) hw⟩
  | 0, d', w, w', .non, h, _, _ => by cases d' <;> rfl
  | 0, d', w, w', .bl _, h, _, _ => by cases d' <;> rfl
  | 0, d', w, w', .int _, h, _, _ => by cases d' <;> rfl
  | 0, d', w, w', .str _, h, _, _ => by cases d' <;> rfl
  | 0, d', w, w', .lst _, h, _, _ => by cases d' <;> rfl
  | _ + 1, d', w, w', .non, h, _, _ => by cases d' <;> rfl
  | _ + 1, d', w, w', .bl _, h, _, _ => by cases d' <;> rfl
  | _ + 1, d', w, w', .int _, h, _, _ => by cases d' <;> rfl
  | _ + 1, d', w, w', .str _, h, _, _ => by cases d' <;> rfl
  | _ + 1, d', w, w', .lst _, h, _, _ => by cases d' <;> rfl
theorem cut_mem {α : Type} {xs : List α} {lo hi : Option Int} {x : α} (h : x ∈ cut xs lo hi) : x ∈ xs := List.mem_of_mem_drop (List.mem_of_mem_take h)
theorem cut_len {α : Type} (xs : List α) (lo hi : Option Int) : (cut xs lo hi).length ≤ xs.length := by
  unfold cut
  rw [List.length_take, List.length_drop]
  omega
theorem ev_odd (n : Nat) {r : Nat} {st : Sto} (h : Src st r) : ∃ x st', (TB.cx (n + 3)).call 24 [.ref r] st = .ok (.d x) st' ∧ sz 2 3 x = true ∧ Src st' r := by
  obtain ⟨x, st', e, hx, s⟩ := ev_of n (xs := [.non, .bl true, .bl false, .int 0, .int 1, .int 3, .int 4, .int 5, .int 6, .int (-1), .str [], .str [35], .str [46, 126], .str [35, 35, 35, 35, 35, 35], .str [120], .tup [], .lst [], .tup [.int 1, .int 2], .tup [.int 2, .int 1],
    .tup [.str [], .str [35], .str []], .tup [.tup [.int 1], .int 5], .lst [.str [35]], .tup [.bl true], .tup [.int 5], .str [32]]) h (by simp) (by decide)
  refine ⟨x, st', ?_, ?_, s⟩
  · rw [call_open (f := f_law_odd) rfl rfl rfl]
    simp [f_law_odd, b_law_odd, begin_, En.get, En.put, opD, line, e]
  · have key : ∀ l : List D, l.all (sz 2 3) = true → x ∈ l → sz 2 3 x = true := fun l h hx => List.all_eq_true.mp h x hx
    exact key _ (by decide) hx
/-- a tuple made of pieces of another one and one thing more -/
theorem sz_app {d w : Nat} {xs a b : List D} (h : sz (d + 1) w (.tup xs) = true) (ha : ∀ x ∈ a, x ∈ xs) (hb : ∀ x ∈ b, x ∈ xs) (la : a.length ≤ xs.length) (lb : b.length ≤ xs.length) (hl : a.length + b.length ≤ xs.length + 1) : sz (d + 4) (w + 3) (.tup (a ++ b)) = true := by
  simp only [sz, Bool.and_eq_true, decide_eq_true_eq, List.all_eq_true] at h ⊢
  refine ⟨by rw [List.length_append]; omega, fun x hx => ?_⟩
  rcases List.mem_append.mp hx with hx | hx
  · exact sz_mono (h.2 x (ha x hx)) (by omega) (by omega)
  · exact sz_mono (h.2 x (hb x hx)) (by omega) (by omega)
theorem sz_app1 {d w : Nat} {xs a b : List D} {y : D} (h : sz (d + 1) w (.tup xs) = true) (hy : sz (d + 3) (w + 3) y = true) (ha : ∀ x ∈ a, x ∈ xs) (hb : ∀ x ∈ b, x ∈ xs) (hl : a.length + b.length ≤ xs.length) : sz (d + 4) (w + 3) (.tup (a ++ (y :: b))) = true := by
  simp only [sz, Bool.and_eq_true, decide_eq_true_eq, List.all_eq_true] at h ⊢
  refine ⟨by rw [List.length_append, List.length_cons]; omega, fun x hx => ?_⟩
  rcases List.mem_append.mp hx with hx | hx
  · exact sz_mono (h.2 x (ha x hx)) (by omega) (by omega)
  · rcases List.mem_cons.mp hx with rfl | hx
    · exact hy
    · exact sz_mono (h.2 x (hb x hx)) (by omega) (by omega)
theorem cut_to {α : Type} (xs : List α) {k : Nat} (h : k ≤ xs.length) : cut xs none (some (k : Int)) = xs.take k := by
  unfold cut sIx
  have : min k xs.length = k := by omega
  simp [this]
theorem cut_from {α : Type} (xs : List α) {k : Nat} (h : k ≤ xs.length) : cut xs (some (k : Int)) none = xs.drop k := by
  unfold cut sIx
  have : min k xs.length = k := by omega
  simp [this]
  exact List.take_of_length_le (by rw [List.length_drop]; omega)
theorem ev_spoilt : ∀ (d n w : Nat) {r : Nat} {st : Sto} (v : D), Src st r → sz d w v = true → 3 ≤ w → w ≤ 1000 → ∃ x st', (TB.cx (n + d + 4)).call 25 [.ref r, .d v] st = .ok (.d x) st' ∧ sz (d + 3) (w + 3) x = true ∧ Src st' r := by
  intro d
  induction d with
  | zero =>
    intro n w r st v h hs h3 hw
    obtain ⟨x, st', e, hx, s⟩ := ev_odd n h
    refine ⟨x, st', ?_, sz_mono hx (by omega) (by omega), s⟩
    rw [call_open (f := f_law_spoilt) rfl rfl rfl]
    cases v with
    | tup xs => simp [sz] at hs
    | _ => simp [f_law_spoilt, b_law_spoilt, begin_, En.get, bltD, blt1, isiD, e]
  | succ d ih =>
    intro n w r st v h hs h3 hw
    have odd : ∀ {st : Sto}, Src st r → ∃ x st', (TB.cx (n + (d + 1) + 3)).call 24 [.ref r] st = .ok (.d x) st' ∧ sz 2 3 x = true ∧ Src st' r := fun {st} h => ev_odd (n + (d + 1)) h
    rw [call_open (f := f_law_spoilt) rfl rfl rfl]
    cases v with
    | tup xs =>
      cases xs with
      | nil =>
        obtain ⟨x, st', e, hx, s⟩ := odd h
        exact ⟨x, st', by simp [f_law_spoilt, b_law_spoilt, begin_, En.get, bltD, blt1, isiD, cmpV, copD, D.depth, D.depths, D.eqv, D.eqvs, e], sz_mono hx (by omega) (by omega), s⟩
      | cons y ys =>
        have hne : copD .eq (.tup (y :: ys)) (.tup []) = some false := cop_eqD (by
          have : D.depth (.tup []) = 1 := rfl
          omega)
        obtain ⟨k0, st1, e0, k1, k2, s1⟩ := ev_draw (n + (d + 1) + 2) (m := 6) h (by decide) (by decide)
        by_cases h0 : k0 = 0
        · subst h0
          obtain ⟨x, st', e, hx, s⟩ := odd s1
          exact ⟨x, st', by simp [f_law_spoilt, b_law_spoilt, begin_, En.get, bltD, blt1, isiD, cmpV_d, cop_eq, hne, e0, e], sz_mono hx (by omega) (by omega), s⟩
        · have hxs : sz (d + 1) w (.tup (y :: ys)) = true := hs
          have hl1 : (y :: ys).length ≤ w := by
            simp only [sz, Bool.and_eq_true, decide_eq_true_eq] at hs
            exact hs.1
          obtain ⟨at_, st2, e1, a1, a2, s2⟩ := ev_draw (n + (d + 1) + 2) (m := ((y :: ys).length : Int)) s1 (by simp only [List.length_cons]; omega) (by omega)
          obtain ⟨j, rfl⟩ := Int.eq_ofNat_of_zero_le a1
          have hj : j < (y :: ys).length := by omega
          obtain ⟨md, st3, e2, m1, m2, s3⟩ := ev_draw (n + (d + 1) + 2) (m := 9) s2 (by decide) (by decide)
          have hix : ixN (y :: ys).length (j : Int) = some j := by
            unfold ixN
            rw [if_pos (by omega), if_pos (by omega)]
            simp
          obtain ⟨z, hz⟩ : ∃ z, (y :: ys)[j]? = some z := ⟨(y :: ys)[j], List.getElem?_eq_getElem hj⟩
          have hzm := List.mem_of_getElem? hz
          have hzs : sz d w z = true := by
            simp only [sz, Bool.and_eq_true, List.all_eq_true] at hs
            exact hs.2 z hzm
          have hlen : ((y :: ys).length : Int) = (ys.length : Int) + 1 := by simp
          obtain ⟨xs, hxe⟩ : ∃ xs, xs = y :: ys := ⟨_, rfl⟩
          rw [← hxe] at hne hxs hl1 e1 a2 hj hix hz hzm ⊢
          have t1 : cutD (.tup xs) none (some (j : Int)) = some (.tup (xs.take j)) := by
            show some (D.tup (cut xs none (some (j : Int)))) = _
            rw [cut_to xs (by omega)]
          have t2 : cutD (.tup xs) none (some ((j : Int) + 1)) = some (.tup (xs.take (j + 1))) := by
            show some (D.tup (cut xs none (some ((j + 1 : Nat) : Int)))) = _
            rw [cut_to xs (by omega)]
          have t3 : cutD (.tup xs) (some (j : Int)) none = some (.tup (xs.drop j)) := by
            show some (D.tup (cut xs (some (j : Int)) none)) = _
            rw [cut_from xs (by omega)]
          have t4 : cutD (.tup xs) (some ((j : Int) + 1)) none = some (.tup (xs.drop (j + 1))) := by
            show some (D.tup (cut xs (some ((j + 1 : Nat) : Int)) none)) = _
            rw [cut_from xs (by omega)]
          have add : ∀ a b : List D, a.length + b.length ≤ 3000 → opD .add (.tup a) (.tup b) = some (.tup (a ++ b)) := fun a b hl => if_pos (Nat.le_trans hl (by decide))
          have ln : ∀ i : Nat, (xs.take i).length ≤ xs.length ∧ (xs.drop i).length ≤ xs.length := fun i => by
            rw [List.length_take, List.length_drop]
            omega
          have l1 := ln j
          have l2 := ln (j + 1)
          have q1 : opD .add (.tup (xs.take j)) (.tup (xs.drop (j + 1))) = some (.tup (xs.take j ++ xs.drop (j + 1))) := add _ _ (by omega)
          have q2 : opD .add (.tup (xs.take (j + 1))) (.tup (xs.drop j)) = some (.tup (xs.take (j + 1) ++ xs.drop j)) := add _ _ (by omega)
          have q3 : ∀ u, opD .add (.tup (xs.take j)) (.tup [u]) = some (.tup (xs.take j ++ [u])) := fun u => add _ _ (by simp only [List.length_singleton]; omega)
          have q4 : ∀ u, opD .add (.tup (xs.take j ++ [u])) (.tup (xs.drop j)) = some (.tup (xs.take j ++ [u] ++ xs.drop j)) := fun u => add _ _ (by rw [List.length_append, List.length_singleton]; omega)
          have q5 : ∀ u, opD .add (.tup (xs.take j ++ [u])) (.tup (xs.drop (j + 1))) = some (.tup (xs.take j ++ [u] ++ xs.drop (j + 1))) := fun u => add _ _ (by rw [List.length_append, List.length_singleton]; omega)
          have mt : ∀ i x, x ∈ xs.take i → x ∈ xs := fun i x hx => List.mem_of_mem_take hx
          have mdr : ∀ i x, x ∈ xs.drop i → x ∈ xs := fun i x hx => List.mem_of_mem_drop hx
          have lt : ∀ i, (xs.take i).length = min i xs.length := fun i => List.length_take
          have ld : ∀ i, (xs.drop i).length = xs.length - i := fun i => List.length_drop
          have sAt : ∀ u, sz (d + 3) (w + 3) u = true → sz (d + 4) (w + 3) (.tup (xs.take j ++ [u] ++ xs.drop (j + 1))) = true := fun u hu => by
            rw [List.append_assoc]
            show sz (d + 4) (w + 3) (.tup (xs.take j ++ (u :: xs.drop (j + 1)))) = true
            exact sz_app1 hxs hu (mt j) (mdr (j + 1)) (by rw [lt, ld]; omega)
          have h0' : (k0 == 0) = false := by rw [beq_eq_false_iff_ne]; exact h0
          by_cases c0 : md = 0
          · refine ⟨.tup (xs.take j ++ xs.drop (j + 1)), st3, ?_, sz_app hxs (mt _) (mdr _) (ln _).1 (ln _).2 (by rw [lt, ld]; omega), s3⟩
            simp [f_law_spoilt, b_law_spoilt, begin_, En.get, En.put, bltD, blt1, isiD, bLen, cmpV_d, cop_eq, op_addI, hne, e0, h0', e1, e2, c0, t1, t4, q1]
          · have c0' : (md == 0) = false := by rw [beq_eq_false_iff_ne]; exact c0
            by_cases c1 : md = 1
            · refine ⟨.tup (xs.take (j + 1) ++ xs.drop j), st3, ?_, sz_app hxs (mt _) (mdr _) (ln _).1 (ln _).2 (by rw [lt, ld]; omega), s3⟩
              simp [f_law_spoilt, b_law_spoilt, begin_, En.get, En.put, bltD, blt1, isiD, bLen, cmpV_d, cop_eq, op_addI, hne, e0, h0', e1, e2, c1, t2, t3, q2]
            · have c1' : (md == 1) = false := by rw [beq_eq_false_iff_ne]; exact c1
              by_cases c2 : md = 2
              · obtain ⟨u, st4, e4, hu, s4⟩ := odd s3
                refine ⟨.tup (xs.take j ++ [u] ++ xs.drop j), st4, ?_, ?_, s4⟩
                · have q4' := q4 u
                  rw [List.append_assoc] at q4' ⊢
                  simp [f_law_spoilt, b_law_spoilt, begin_, En.get, En.put, bltD, blt1, isiD, bLen, cmpV_d, cop_eq, op_addI, hne, e0, h0', e1, e2, c2, t1, t3, q3, q4, e4]
                · rw [List.append_assoc]
                  show sz (d + 4) (w + 3) (.tup (xs.take j ++ (u :: xs.drop j))) = true
                  exact sz_app1 hxs (sz_mono hu (by omega) (by omega)) (mt j) (mdr j) (by rw [lt, ld]; omega)
              · have c2' : (md == 2) = false := by rw [beq_eq_false_iff_ne]; exact c2
                by_cases c3 : md = 3
                · refine ⟨.lst xs, st3, ?_, by rfl, s3⟩
                  simp [f_law_spoilt, b_law_spoilt, begin_, En.get, En.put, bltD, blt1, isiD, bLen, bList, cmpV_d, cop_eq, op_addI, hne, e0, h0', e1, e2, c3]
                · have c3' : (md == 3) = false := by rw [beq_eq_false_iff_ne]; exact c3
                  have hidx : idxD (.tup xs) (.int (j : Int)) = some z := by
                    show (match ixN xs.length (j : Int) with
                      | some j => xs[j]?
                      | none => none) = _
                    rw [hix]
                    exact hz
                  have ist : isiD .tuple (.tup xs) = true := rfl
                  by_cases hno : isiD .int z = true ∧ md < 6
                  · obtain ⟨hz1, hm6⟩ := hno
                    obtain ⟨k3, st4, e4, p1, p2, s4⟩ := ev_draw (n + (d + 1) + 2) (m := 3) s3 (by decide) (by decide)
                    obtain ⟨t, ht⟩ : ∃ t, opD .add z (.int k3) = some (.int t) := by
                      cases z with
                      | int i => exact ⟨_, rfl⟩
                      | bl b => exact ⟨_, rfl⟩
                      | _ => cases hz1
                    refine ⟨.tup (xs.take j ++ [.int (t - 1)] ++ xs.drop (j + 1)), st4, ?_, sAt _ rfl, s4⟩
                    simp [f_law_spoilt, begin_, b_law_spoilt, En.get, En.put, bltD, blt1, ist, bLen, cmpV_d, cop_eq, cop_lt, op_addI, op_subI, idxV_d, hidx, hne, e0, h0', e1, e2, c0', c1', c2', c3', hz1, hm6, e4, ht, t1, t4, q3]
                    have := q5 (.int (t - 1))
                    rw [List.append_assoc] at this
                    simp [this]
                  · obtain ⟨u, st4, e4, hu, s4⟩ := ih n w z s3 hzs h3 hw
                    have e4' : (TB.cx (n + (d + 1) + 3)).call 25 [.ref r, .d z] st3 = .ok (.d u) st4 := e4
                    refine ⟨.tup (xs.take j ++ [u] ++ xs.drop (j + 1)), st4, ?_, sAt u hu, s4⟩
                    have := q5 u
                    rw [List.append_assoc] at this
                    cases hz1 : isiD .int z
                    · simp [f_law_spoilt, begin_, b_law_spoilt, En.get, En.put, bltD, blt1, ist, bLen, cmpV_d, cop_eq, cop_lt, op_addI, op_subI, idxV_d, hidx, hne, e0, h0', e1, e2, c0', c1', c2', c3', hz1, e4', t1, t4, q3]
                      simp [this]
                    · have hm6 : ¬ md < 6 := fun h => hno ⟨hz1, h⟩
                      simp [f_law_spoilt, begin_, b_law_spoilt, En.get, En.put, bltD, blt1, ist, bLen, cmpV_d, cop_eq, cop_lt, op_addI, op_subI, idxV_d, hidx, hne, e0, h0', e1, e2, c0', c1', c2', c3', hz1, hm6, e4', t1, t4, q3]
                      simp [this]
    | _ =>
      obtain ⟨x, st', e, hx, s⟩ := odd h
      exact ⟨x, st', by simp [f_law_spoilt, b_law_spoilt, begin_, En.get, bltD, blt1, isiD, e], sz_mono hx (by omega) (by omega), s⟩
end Law

namespace Law
open Ev
theorem ev_law_walker (n : Nat) {r : Nat} {st : Sto} (h : Src st r) : ∃ x st', (TB.cx (n + 3)).call 18 [.ref r] st = .ok (.d x) st' ∧ sz 2 4 x = true ∧ Src st' r := by
  rw [call_open (f := f_law_walker) rfl rfl rfl]
  have hit : evIt (TB.cx (n + 2)) i_law_walker_1 [some (.ref r), some (.d (.tup [])), none] st = .ok (rangeD 1 4) st := rfl
  obtain ⟨ρ', st1, hf, xs, t, rfl, hx, hl, s1⟩ := ev_for_inv (t := .nm 2) (b := l_law_walker_1)
    (fun i ρ st => ∃ xs t, ρ = [some (.ref r), some (.d (.tup xs)), t] ∧ xs.all (sz 0 0) = true ∧ xs.length ≤ 3 ∧ Src st r) hit
    (fun i x ρ st hx ⟨xs, t, hρ, ha, hl, hsrc⟩ => by
      subst hρ
      obtain ⟨hlt, rfl⟩ := range_lt hx
      by_cases h3 : xs.length < 3
      · obtain ⟨k, st2, e2, k1, k2, s2⟩ := ev_draw (n + 1) (m := 2) hsrc (by decide) (by decide)
        have e2' : (TB.cx (n + 2)).call 14 [.ref r, .d (.int 2)] st = .ok (.d (.int k)) st2 := e2
        have h3' : (xs.length : Int) < 3 := by omega
        by_cases hk : k = 0
        · subst hk
          have hadd : opD .add (.tup xs) (.tup [.int (1 + (i : Int))]) = some (.tup (xs ++ [.int (1 + (i : Int))])) := if_pos (by show xs.length + 1 ≤ 16777216; omega)
          refine ⟨_, [some (.ref r), some (.d (.tup (xs ++ [.int (1 + (i : Int))]))), some (.d (.int (1 + (i : Int))))], st2, rfl, .inl ?_, _, _, rfl, by rw [List.all_append, ha]; rfl, by rw [List.length_append]; simp; omega, s2⟩
          simp [l_law_walker_1, En.get, En.put, bltD, blt1, bLen, cmpV_d, cop_lt, cop_eq, h3', e2', hadd]
        · have hk' : (k == 0) = false := by rw [beq_eq_false_iff_ne]; exact hk
          refine ⟨_, [some (.ref r), some (.d (.tup xs)), some (.d (.int (1 + (i : Int))))], st2, rfl, .inl ?_, _, _, rfl, ha, hl, s2⟩
          simp [l_law_walker_1, En.get, En.put, bltD, blt1, bLen, cmpV_d, cop_lt, cop_eq, h3', e2', hk']
      · have h3' : ¬ (xs.length : Int) < 3 := by omega
        refine ⟨_, [some (.ref r), some (.d (.tup xs)), some (.d (.int (1 + (i : Int))))], st, rfl, .inl ?_, _, _, rfl, ha, hl, hsrc⟩
        simp [l_law_walker_1, En.get, En.put, bltD, blt1, bLen, cmpV_d, cop_lt, cop_eq, h3'])
    ⟨[], none, rfl, rfl, by decide, h⟩
  have hf' : evS (TB.cx (n + 2)) (.for_ (.nm 2) i_law_walker_1 l_law_walker_1) [some (.ref r), some (.d (.tup [])), none] st = _ := hf
  have key : ∀ (ys : List D) (st2 : Sto), Src st2 r → ys.all (sz 0 0) = true → ys.length ≤ 3 → ∃ y st3, (TB.cx (n + 2)).call 15 [.ref r, .d (.lst [.int 5, .int 5, .int 4, .int 3, .int 2, .int 1])] st2 = .ok (.d y) st3 ∧ sz 2 4 (.tup [.tup ys, y]) = true ∧ Src st3 r := fun ys st2 hs ha hl => by
    obtain ⟨y, st3, e3, hy, s3⟩ := ev_of n (xs := [.int 5, .int 5, .int 4, .int 3, .int 2, .int 1]) hs (by simp) (by decide)
    refine ⟨y, st3, e3, ?_, s3⟩
    have hy2 : sz 1 4 y = true := by
      simp at hy
      rcases hy with h | h | h | h | h <;> subst h <;> rfl
    have h4 : sz 1 4 (.tup ys) = true := by
      simp only [sz, Bool.and_eq_true, decide_eq_true_eq]
      exact ⟨by omega, List.all_eq_true.mpr fun x hx => sz_mono (List.all_eq_true.mp ha x hx) (Nat.le_refl _) (by omega)⟩
    have e : sz 2 4 (.tup [.tup ys, y]) = (decide (2 ≤ 4) && (sz 1 4 (.tup ys) && (sz 1 4 y && true))) := rfl
    rw [e, h4, hy2]
    rfl
  cases xs with
  | nil =>
    obtain ⟨k, st2, e2, k1, k2, s2⟩ := ev_draw (n + 1) (m := 4) s1 (by decide) (by decide)
    have e2' : (TB.cx (n + 2)).call 14 [.ref r, .d (.int 4)] st1 = .ok (.d (.int k)) st2 := e2
    obtain ⟨y, st3, e3, hy, s3⟩ := key [.int (1 + k)] st2 s2 rfl (by simp)
    refine ⟨_, st3, ?_, hy, s3⟩
    have hc : copD .eq (.tup []) (.tup []) = some true := rfl
    simp [f_law_walker, b_law_walker, begin_, En.get, En.put, hf', cmpV_d, hc, e2', op_addI, e3]
  | cons x xs =>
    obtain ⟨y, st3, e3, hy, s3⟩ := key (x :: xs) st1 s1 hx hl
    refine ⟨_, st3, ?_, hy, s3⟩
    have hc : copD .eq (.tup (x :: xs)) (.tup []) = some false := cop_eqD (by
      have : D.depth (.tup []) = 1 := rfl
      omega)
    simp [f_law_walker, b_law_walker, begin_, En.get, En.put, hf', cmpV_d, hc, e3]
theorem rep_app {α : Type} (b : List α) : ∀ k, rep k b ++ b = b ++ rep k b
  | 0 => by simp [rep]
  | k + 1 => by
    show (b ++ rep k b) ++ b = b ++ (b ++ rep k b)
    rw [List.append_assoc, rep_app b k]
theorem rep_rev {α : Type} (b : List α) : ∀ k, (rep k b).reverse = rep k b.reverse
  | 0 => rfl
  | k + 1 => by
    show (b ++ rep k b).reverse = b.reverse ++ rep k b.reverse
    rw [List.reverse_append, rep_rev b k, rep_app]
theorem signs_rev (a b c : List Nat) (k : Nat) : signs c.reverse b.reverse a.reverse k = (signs a b c k).reverse := by
  unfold signs
  rw [List.reverse_append, List.reverse_append, rep_rev, List.append_assoc]
theorem eqvD_br (a b c : List Nat) : D.eqv (brD a b c) (brD a b c) = true := by simp [brD, D.eqv, D.eqvs]
/-- five turns of spoiling -/
theorem ev_turns {r : Nat} {st : Sto} {v : D} {a0 a1 a3 a4 a5 a7 : Option Vl} (h : Src st r) (hv : sz 2 4 v = true) : ∃ b6 b7 st', evSs (TB.cx 40) l_law_2 [a0, a1, some (.ref r), a3, a4, a5, some (.d v), a7] st = .nx [a0, a1, some (.ref r), a3, a4, a5, b6, b7] st' ∧ Src st' r := by
  have hit : evIt (TB.cx 40) i_law_1 [a0, a1, some (.ref r), a3, a4, a5, some (.d v), a7] st = .ok (rangeD 0 5) st := rfl
  obtain ⟨ρ', st1, hf, x, t, rfl, hx, s1⟩ := ev_for_inv (t := .nm 7) (b := l_law_1)
    (fun i ρ st => ∃ v t, ρ = [a0, a1, some (.ref r), a3, a4, a5, some (.d v), t] ∧ sz (2 + 3 * i) (4 + 3 * i) v = true ∧ Src st r) hit
    (fun i x ρ st hx ⟨v, t, hρ, hv, hsrc⟩ => by
      subst hρ
      obtain ⟨hlt, rfl⟩ := range_lt hx
      obtain ⟨u, st2, e2, hu, s2⟩ := ev_spoilt (2 + 3 * i) (36 - (2 + 3 * i)) (4 + 3 * i) v hsrc hv (by omega) (by omega)
      rw [show 36 - (2 + 3 * i) + (2 + 3 * i) + 4 = 40 by omega] at e2
      have g1 : ∀ st, (TB.cx 40).call 9 [.d v] st = .ok (.d (.bl (gbB v))) st := fun st => ev_is_bridge 37 v st
      have g2 : ∀ st, (TB.cx 40).call 22 [.d v] st = .ok (.d (.bl (gbB v))) st := fun st => ev_law_is_bridge 38 v st
      have g3 : ∀ st, (TB.cx 40).call 10 [.d v] st = .ok (.d (.bl (gwB v))) st := fun st => ev_is_walker 37 v st
      have g4 : ∀ st, (TB.cx 40).call 23 [.d v] st = .ok (.d (.bl (gwB v))) st := fun st => ev_law_is_walker 38 v st
      refine ⟨_, [a0, a1, some (.ref r), a3, a4, a5, some (.d u), some (.d (.int (0 + (i : Int))))], st2, rfl, .inl ?_, u, _, rfl, sz_mono hu (by omega) (by omega), s2⟩
      simp [l_law_1, En.get, En.put, g1, g2, g3, g4, cmpV_d, cop_neB, e2])
    ⟨v, a7, rfl, hv, h⟩
  have hf' : evS (TB.cx 40) (.for_ (.nm 7) i_law_1 l_law_1) [a0, a1, some (.ref r), a3, a4, a5, some (.d v), a7] st = _ := hf
  refine ⟨some (.d x), t, st1, ?_, s1⟩
  simp [l_law_2, hf']
theorem ev_round {ns : List Int} {k : Nat} {st : Sto} {t2 t3 t4 t5 t6 t7 : Option Vl} (hk : k ≤ 1000) : ∃ b2 b3 b4 b5 b6 b7 st', evSs (TB.cx 40) l_law_3 [some (.d (.lst (ns.map D.int))), some (.d (.int k)), t2, t3, t4, t5, t6, t7] st = .nx [some (.d (.lst (ns.map D.int))), some (.d (.int k)), b2, b3, b4, b5, b6, b7] st' := by
  obtain ⟨x, y, e0⟩ := ev_source 39 ns k st hk
  have s0 : Src (st ++ [.lst [.int x, .int y]]) st.length := src_new
  have e0' : (TB.cx 40).call 13 [.d (.lst (ns.map D.int)), .d (.int k)] st = .ok (.ref st.length) (st ++ [.lst [.int x, .int y]]) := e0
  generalize st ++ [.lst [.int x, .int y]] = st0 at s0 e0'
  generalize st.length = r at s0 e0'
  obtain ⟨a, b, c, st1, e1, hb, s1⟩ := ev_law_bridge 36 s0
  have e1' : (TB.cx 40).call 17 [.ref r] st0 = .ok (.d (brD a b c)) st1 := e1
  obtain ⟨m, st2, e2, m1, m2, s2⟩ := ev_draw 39 (m := 101) s1 (by decide) (by decide)
  have e2' : (TB.cx 40).call 14 [.ref r, .d (.int 101)] st1 = .ok (.d (.int m)) st2 := e2
  obtain ⟨j, rfl⟩ := Int.eq_ofNat_of_zero_le m1
  have hj : j ≤ 100 := by omega
  have g1 : ∀ st, (TB.cx 40).call 11 [.d (brD a b c), .d (.int (j : Int))] st = .ok (.d (.str (signs a b c j))) st := fun st => ev_planks 36 st hb hj
  have g2 : ∀ st, (TB.cx 40).call 19 [.d (brD a b c), .d (.int (j : Int))] st = .ok (.d (.str (signs a b c j))) st := fun st => ev_law_signs 39 st hb hj
  have g3 : ∀ st, (TB.cx 40).call 12 [.d (brD a b c)] st = .ok (.d (brD c.reverse b.reverse a.reverse)) st := fun st => ev_turned 36 st hb
  have g4 : ∀ st, (TB.cx 40).call 11 [.d (brD c.reverse b.reverse a.reverse), .d (.int (j : Int))] st = .ok (.d (.str (signs a b c j).reverse)) st := fun st => by
    rw [← signs_rev]
    exact ev_planks 36 st hb.rev hj
  have g5 : ∀ st, (TB.cx 40).call 12 [.d (brD c.reverse b.reverse a.reverse)] st = .ok (.d (brD a b c)) st := fun st => by
    have := ev_turned 36 st hb.rev
    simp only [List.reverse_reverse] at this
    exact this
  obtain ⟨w1, st3, e3, hw1, s3⟩ := ev_law_walker 37 s2
  obtain ⟨w2, st4, e4, hw2, s4⟩ := ev_law_walker 37 s3
  have e3' : (TB.cx 40).call 18 [.ref r] st2 = .ok (.d w1) st3 := e3
  have e4' : (TB.cx 40).call 18 [.ref r] st3 = .ok (.d w2) st4 := e4
  have hcb : copD .ne (brD a b c) (brD a b c) = some false := by
    rw [cop_neD, eqvD_br]
    · rfl
    · simp [brD, D.depth, D.depths]
  have hbs : sz 2 4 (brD a b c) = true := by simp [brD, sz]
  have hit : evIt (TB.cx 40) i_law_2 [some (.d (.lst (ns.map D.int))), some (.d (.int k)), some (.ref r), some (.d (brD a b c)), some (.d (.int (j : Int))), some (.d (brD c.reverse b.reverse a.reverse)), t6, t7] st2 = .ok [brD a b c, brD a b c, w1, w2] st4 := by
    simp [i_law_2, En.get, e3', e4', itemsD]
  obtain ⟨ρ', st5, hf, b6, b7, rfl, s5⟩ := ev_for_inv (t := .nm 6) (b := l_law_2)
    (fun i ρ st => ∃ b6 b7, ρ = [some (.d (.lst (ns.map D.int))), some (.d (.int k)), some (.ref r), some (.d (brD a b c)), some (.d (.int (j : Int))), some (.d (brD c.reverse b.reverse a.reverse)), b6, b7] ∧ Src st r) hit
    (fun i x ρ st hx ⟨b6, b7, hρ, hsrc⟩ => by
      subst hρ
      have hx2 : sz 2 4 x = true := by
        have := List.mem_of_getElem? hx
        simp at this
        rcases this with h | h | h <;> subst h <;> assumption
      obtain ⟨c6, c7, st6, h6, s6⟩ := ev_turns (a0 := some (.d (.lst (ns.map D.int)))) (a1 := some (.d (.int k))) (a3 := some (.d (brD a b c))) (a4 := some (.d (.int (j : Int)))) (a5 := some (.d (brD c.reverse b.reverse a.reverse))) (a7 := b7) hsrc hx2
      exact ⟨_, _, st6, rfl, .inl h6, c6, c7, rfl, s6⟩)
    ⟨t6, t7, rfl, s4⟩
  refine ⟨some (.ref r), some (.d (brD a b c)), some (.d (.int (j : Int))), some (.d (brD c.reverse b.reverse a.reverse)), b6, b7, st5, ?_⟩
  have hf' : evS (TB.cx 40) (.for_ (.nm 6) i_law_2 l_law_2) [some (.d (.lst (ns.map D.int))), some (.d (.int k)), some (.ref r), some (.d (brD a b c)), some (.d (.int (j : Int))), some (.d (brD c.reverse b.reverse a.reverse)), t6, t7] st2 = _ := hf
  simp [l_law_3, En.get, En.put, e0', e1', e2', g1, g2, g3, g4, g5, cmpV_d, cop_neS, hcb, revD, hf']
def deep : Nat := 40
theorem data (ns : List Int) (hl : ns.length ≤ 63) : ∃ st, (TB.cx (deep + 1)).call 26 [.d (.lst (ns.map D.int))] [] = .ok (.d (.bl true)) st := by
  refine ⟨[], ?_⟩
  rw [call_alone (f := f_law) rfl rfl rfl rfl]
  show (evSs (TB.cx 40) b_law [some (.d (.lst (ns.map D.int))), none, none, none, none, none, none, none] []).res.back [] = _
  have hm : bMin2 (.int (ns.length : Int)) (.int 10) = some (.int (min ns.length 10 : Nat)) := by
    show some (D.int (if (10 : Int) < (ns.length : Int) then 10 else (ns.length : Int))) = _
    by_cases h : (10 : Int) < (ns.length : Int)
    · rw [if_pos h, show min ns.length 10 = 10 by omega]
      rfl
    · rw [if_neg h, show min ns.length 10 = ns.length by omega]
  have hit : evIt (TB.cx 40) i_law_3 [some (.d (.lst (ns.map D.int))), none, none, none, none, none, none, none] [] = .ok (rangeD 0 (1 + min ns.length 10)) [] := by
    have e1 : ((1 : Int) + ((min ns.length 10 : Nat) : Int)).natAbs ≤ 16777216 := by omega
    have e2 : ((1 : Int) + ((min ns.length 10 : Nat) : Int)).toNat = 1 + min ns.length 10 := by omega
    simp only [i_law_3, it_rng1, e_bin, e_cst, bind_ok, e_blt, es_cons, es_nil, e_var]
    simp [En.get, bltD, blt1, bLen, blt2, hm, op_addI, line, e1, e2]
  obtain ⟨ρ', st1, hf, b1, b2, b3, b4, b5, b6, b7, rfl⟩ := ev_for_inv (t := .nm 1) (b := l_law_3)
    (fun i ρ st => ∃ b1 b2 b3 b4 b5 b6 b7, ρ = [some (.d (.lst (ns.map D.int))), b1, b2, b3, b4, b5, b6, b7]) hit
    (fun i x ρ st hx ⟨b1, b2, b3, b4, b5, b6, b7, hρ⟩ => by
      subst hρ
      obtain ⟨hlt, rfl⟩ := range_lt hx
      obtain ⟨c2, c3, c4, c5, c6, c7, st2, h2⟩ := ev_round (ns := ns) (k := i) (st := st) (t2 := b2) (t3 := b3) (t4 := b4) (t5 := b5) (t6 := b6) (t7 := b7) (by omega)
      have h2' : evSs (TB.cx 40) l_law_3 [some (.d (.lst (ns.map D.int))), some (.d (.int (0 + (i : Int)))), b2, b3, b4, b5, b6, b7] st = .nx [some (.d (.lst (ns.map D.int))), some (.d (.int (i : Int))), c2, c3, c4, c5, c6, c7] st2 := by
        rw [Int.zero_add]
        exact h2
      exact ⟨_, _, st2, rfl, .inl h2', _, _, _, _, _, _, _, rfl⟩)
    ⟨_, _, _, _, _, _, _, rfl⟩
  have g1 : ∀ v st, (TB.cx 40).call 9 [.d v] st = .ok (.d (.bl (gbB v))) st := fun v st => ev_is_bridge 37 v st
  have g3 : ∀ v st, (TB.cx 40).call 10 [.d v] st = .ok (.d (.bl (gwB v))) st := fun v st => ev_is_walker 37 v st
  have p1 : ∀ st, (TB.cx 40).call 11 [.d (.tup [.str [35], .str [46, 46, 35], .str [35]]), .d (.int 2)] st = .ok (.d (.str [35, 46, 46, 35, 46, 46, 35, 35])) st := fun st => ev_planks 36 (a := [35]) (b := [46, 46, 35]) (c := [35]) (k := 2) st ⟨by decide, by decide, by decide, by decide, by decide, by decide, by decide⟩ (by decide)
  have p2 : ∀ st, (TB.cx 40).call 12 [.d (.tup [.str [35], .str [46, 35, 126], .str [46, 46]])] st = .ok (.d (.tup [.str [46, 46], .str [126, 35, 46], .str [35]])) st := fun st => ev_turned 36 (a := [35]) (b := [46, 35, 126]) (c := [46, 46]) st ⟨by decide, by decide, by decide, by decide, by decide, by decide, by decide⟩
  simp [b_law, hf, g1, g3, p1, p2, cmpV_d]
  rfl
end Law

namespace Law
open PySem PySem.Spec PyProof.Rows L2 Ev EvS
abbrev rowL : PySem.W.OpenLaw := PySem.Challenge.rw_gapplanks_k01_values_recognized
def top (i : Nat) : Stmt := PySem.Challenge.pw_gapplanks_k01_values_recognized.main.body.getD i (.Pass ⟨0, 0, 0, 0⟩)
def d_is_number : Df := ⟨"is_number", defArgs (top 5), defBody (top 5), defScope (top 5), ["value", "least", "most"], ["value", "least", "most"], f_is_number⟩
def d_is_tuple : Df := ⟨"is_tuple", defArgs (top 6), defBody (top 6), defScope (top 6), ["value", "least", "most"], ["value", "least", "most"], f_is_tuple⟩
def d_are_signs : Df := ⟨"are_signs", defArgs (top 7), defBody (top 7), defScope (top 7), ["value", "least", "most", "sign"], ["value", "least", "most"], f_are_signs⟩
def d_is_good_bridge : Df := ⟨"is_good_bridge", defArgs (top 8), defBody (top 8), defScope (top 8), ["value"], ["value"], f_is_good_bridge⟩
def d_is_good_walker : Df := ⟨"is_good_walker", defArgs (top 9), defBody (top 9), defScope (top 9), ["value", "left", "right", "length"], ["value"], f_is_good_walker⟩
def d_need_bridge : Df := ⟨"need_bridge", defArgs (top 10), defBody (top 10), defScope (top 10), ["value"], ["value"], f_need_bridge⟩
def d_need_n : Df := ⟨"need_n", defArgs (top 11), defBody (top 11), defScope (top 11), ["value", "most"], ["value", "most"], f_need_n⟩
def d_signs_of : Df := ⟨"signs_of", defArgs (top 12), defBody (top 12), defScope (top 12), ["bridge", "n"], ["bridge", "n"], f_signs_of⟩
def d_round_about : Df := ⟨"round_about", defArgs (top 13), defBody (top 13), defScope (top 13), ["bridge"], ["bridge"], f_round_about⟩
def d_is_bridge : Df := ⟨"is_bridge", defArgs (top 14), defBody (top 14), defScope (top 14), ["value"], ["value"], f_is_bridge⟩
def d_is_walker : Df := ⟨"is_walker", defArgs (top 15), defBody (top 15), defScope (top 15), ["value"], ["value"], f_is_walker⟩
def d_planks : Df := ⟨"planks", defArgs (top 16), defBody (top 16), defScope (top 16), ["bridge", "n"], ["bridge", "n"], f_planks⟩
def d_turned : Df := ⟨"turned", defArgs (top 17), defBody (top 17), defScope (top 17), ["bridge"], ["bridge"], f_turned⟩
def d_law_source : Df := ⟨"_law_source", defArgs (top 19), defBody (top 19), defScope (top 19), ["script", "k", "cell"], ["script", "k"], f_law_source⟩
def d_law_draw : Df := ⟨"_law_draw", defArgs (top 20), defBody (top 20), defScope (top 20), ["source", "many", "found"], ["source", "many"], f_law_draw⟩
def d_law_of : Df := ⟨"_law_of", defArgs (top 21), defBody (top 21), defScope (top 21), ["source", "items"], ["source", "items"], f_law_of⟩
def d_law_text_of : Df := ⟨"_law_text_of", defArgs (top 22), defBody (top 22), defScope (top 22), ["source", "least", "most", "found", "turn"], ["source", "least", "most"], f_law_text_of⟩
def d_law_bridge : Df := ⟨"_law_bridge", defArgs (top 23), defBody (top 23), defScope (top 23), ["source"], ["source"], f_law_bridge⟩
def d_law_walker : Df := ⟨"_law_walker", defArgs (top 24), defBody (top 24), defScope (top 24), ["source", "lengths", "length"], ["source"], f_law_walker⟩
def d_law_signs : Df := ⟨"_law_signs", defArgs (top 25), defBody (top 25), defScope (top 25), ["bridge", "n"], ["bridge", "n"], f_law_signs⟩
def d_law_is_int : Df := ⟨"_law_is_int", defArgs (top 26), defBody (top 26), defScope (top 26), ["value", "least", "top"], ["value", "least", "top"], f_law_is_int⟩
def d_law_are_signs : Df := ⟨"_law_are_signs", defArgs (top 27), defBody (top 27), defScope (top 27), ["value", "least", "sign"], ["value", "least"], f_law_are_signs⟩
def d_law_is_bridge : Df := ⟨"_law_is_bridge", defArgs (top 28), defBody (top 28), defScope (top 28), ["value"], ["value"], f_law_is_bridge⟩
def d_law_is_walker : Df := ⟨"_law_is_walker", defArgs (top 29), defBody (top 29), defScope (top 29), ["value", "one"], ["value"], f_law_is_walker⟩
def d_law_odd : Df := ⟨"_law_odd", defArgs (top 30), defBody (top 30), defScope (top 30), ["source", "items"], ["source"], f_law_odd⟩
def d_law_spoilt : Df := ⟨"_law_spoilt", defArgs (top 31), defBody (top 31), defScope (top 31), ["source", "value", "at", "mode"], ["source", "value"], f_law_spoilt⟩
def d_law : Df := ⟨"law", defArgs (top 32), defBody (top 32), defScope (top 32), ["script", "k", "source", "bridge", "n", "back", "value", "turn"], ["script"], f_law⟩
def ds : List Df := [d_is_number, d_is_tuple, d_are_signs, d_is_good_bridge, d_is_good_walker, d_need_bridge, d_need_n, d_signs_of, d_round_about, d_is_bridge, d_is_walker, d_planks, d_turned, d_law_source, d_law_draw, d_law_of, d_law_text_of, d_law_bridge, d_law_walker, d_law_signs, d_law_is_int, d_law_are_signs, d_law_is_bridge, d_law_is_walker, d_law_odd, d_law_spoilt, d_law]
theorem k_is_number : DfOk (nmOf ds) d_is_number := ⟨by decide +kernel, fun _ _ _ _ _ _ us hl => match us, hl with | [_, _, _], _ => rfl⟩
theorem k_is_tuple : DfOk (nmOf ds) d_is_tuple := ⟨by decide +kernel, fun _ _ _ _ _ _ us hl => match us, hl with | [_, _, _], _ => rfl⟩
theorem k_are_signs : DfOk (nmOf ds) d_are_signs := ⟨by decide +kernel, fun _ _ _ _ _ _ us hl => match us, hl with | [_, _, _], _ => rfl⟩
theorem k_is_good_bridge : DfOk (nmOf ds) d_is_good_bridge := ⟨by decide +kernel, fun _ _ _ _ _ _ us hl => match us, hl with | [_], _ => rfl⟩
theorem k_is_good_walker : DfOk (nmOf ds) d_is_good_walker := ⟨by decide +kernel, fun _ _ _ _ _ _ us hl => match us, hl with | [_], _ => rfl⟩
theorem k_need_bridge : DfOk (nmOf ds) d_need_bridge := ⟨by decide +kernel, fun _ _ _ _ _ _ us hl => match us, hl with | [_], _ => rfl⟩
theorem k_need_n : DfOk (nmOf ds) d_need_n := ⟨by decide +kernel, fun _ _ _ _ _ _ us hl => match us, hl with | [_, _], _ => rfl⟩
theorem k_signs_of : DfOk (nmOf ds) d_signs_of := ⟨by decide +kernel, fun _ _ _ _ _ _ us hl => match us, hl with | [_, _], _ => rfl⟩
theorem k_round_about : DfOk (nmOf ds) d_round_about := ⟨by decide +kernel, fun _ _ _ _ _ _ us hl => match us, hl with | [_], _ => rfl⟩
theorem k_is_bridge : DfOk (nmOf ds) d_is_bridge := ⟨by decide +kernel, fun _ _ _ _ _ _ us hl => match us, hl with | [_], _ => rfl⟩
theorem k_is_walker : DfOk (nmOf ds) d_is_walker := ⟨by decide +kernel, fun _ _ _ _ _ _ us hl => match us, hl with | [_], _ => rfl⟩
theorem k_planks : DfOk (nmOf ds) d_planks := ⟨by decide +kernel, fun _ _ _ _ _ _ us hl => match us, hl with | [_, _], _ => rfl⟩
theorem k_turned : DfOk (nmOf ds) d_turned := ⟨by decide +kernel, fun _ _ _ _ _ _ us hl => match us, hl with | [_], _ => rfl⟩
theorem k_law_source : DfOk (nmOf ds) d_law_source := ⟨by decide +kernel, fun _ _ _ _ _ _ us hl => match us, hl with | [_, _], _ => rfl⟩
theorem k_law_draw : DfOk (nmOf ds) d_law_draw := ⟨by decide +kernel, fun _ _ _ _ _ _ us hl => match us, hl with | [_, _], _ => rfl⟩
theorem k_law_of : DfOk (nmOf ds) d_law_of := ⟨by decide +kernel, fun _ _ _ _ _ _ us hl => match us, hl with | [_, _], _ => rfl⟩
theorem k_law_text_of : DfOk (nmOf ds) d_law_text_of := ⟨by decide +kernel, fun _ _ _ _ _ _ us hl => match us, hl with | [_, _, _], _ => rfl⟩
theorem k_law_bridge : DfOk (nmOf ds) d_law_bridge := ⟨by decide +kernel, fun _ _ _ _ _ _ us hl => match us, hl with | [_], _ => rfl⟩
theorem k_law_walker : DfOk (nmOf ds) d_law_walker := ⟨by decide +kernel, fun _ _ _ _ _ _ us hl => match us, hl with | [_], _ => rfl⟩
theorem k_law_signs : DfOk (nmOf ds) d_law_signs := ⟨by decide +kernel, fun _ _ _ _ _ _ us hl => match us, hl with | [_, _], _ => rfl⟩
theorem k_law_is_int : DfOk (nmOf ds) d_law_is_int := ⟨by decide +kernel, fun _ _ _ _ _ _ us hl => match us, hl with | [_, _, _], _ => rfl⟩
theorem k_law_are_signs : DfOk (nmOf ds) d_law_are_signs := ⟨by decide +kernel, fun _ _ _ _ _ _ us hl => match us, hl with | [_, _], _ => rfl⟩
theorem k_law_is_bridge : DfOk (nmOf ds) d_law_is_bridge := ⟨by decide +kernel, fun _ _ _ _ _ _ us hl => match us, hl with | [_], _ => rfl⟩
theorem k_law_is_walker : DfOk (nmOf ds) d_law_is_walker := ⟨by decide +kernel, fun _ _ _ _ _ _ us hl => match us, hl with | [_], _ => rfl⟩
theorem k_law_odd : DfOk (nmOf ds) d_law_odd := ⟨by decide +kernel, fun _ _ _ _ _ _ us hl => match us, hl with | [_], _ => rfl⟩
theorem k_law_spoilt : DfOk (nmOf ds) d_law_spoilt := ⟨by decide +kernel, fun _ _ _ _ _ _ us hl => match us, hl with | [_, _], _ => rfl⟩
theorem k_law : DfOk (nmOf ds) d_law := ⟨by decide +kernel, fun _ _ _ _ _ _ us hl => match us, hl with | [_], _ => rfl⟩
theorem ds_ok : ∀ d ∈ ds, DfOk (nmOf ds) d := by
  intro d hd
  simp only [ds, List.mem_cons, List.not_mem_nil, or_false] at hd
  rcases hd with rfl | rfl | rfl | rfl | rfl | rfl | rfl | rfl | rfl | rfl | rfl | rfl | rfl | rfl | rfl | rfl | rfl | rfl | rfl | rfl | rfl | rfl | rfl | rfl | rfl | rfl | rfl
  · exact k_is_number
  · exact k_is_tuple
  · exact k_are_signs
  · exact k_is_good_bridge
  · exact k_is_good_walker
  · exact k_need_bridge
  · exact k_need_n
  · exact k_signs_of
  · exact k_round_about
  · exact k_is_bridge
  · exact k_is_walker
  · exact k_planks
  · exact k_turned
  · exact k_law_source
  · exact k_law_draw
  · exact k_law_of
  · exact k_law_text_of
  · exact k_law_bridge
  · exact k_law_walker
  · exact k_law_signs
  · exact k_law_is_int
  · exact k_law_are_signs
  · exact k_law_is_bridge
  · exact k_law_is_walker
  · exact k_law_odd
  · exact k_law_spoilt
  · exact k_law
abbrev fn : List He.DefD := ds.map Df.D
abbrev R : PySem.W.OpenRow := PySem.W.OpenLaw.row rowL
abbrev hk : PySem.W.Hook := He.hookD 4 (faOf ds) fn
def ob (s : PySem.W.SharedT) : He.AlD := He.obsDG 4 (faOf ds) fn (HandSHeadRun.getT s)
theorem ob_eq (s : PySem.W.SharedT) : ob s = hk.obs s.abs := He.obsDG_eq (HandSHeadRun.getT_eq s)
def loose : List Str := ["PlankError", "InvalidBridge", "InvalidNumber", "is_number", "is_tuple", "are_signs", "is_good_bridge", "is_good_walker", "need_bridge", "need_n", "signs_of", "round_about", "is_bridge", "is_walker", "planks", "turned", "_law_source", "_law_draw", "_law_of", "_law_text_of", "_law_bridge", "_law_walker", "_law_signs", "_law_is_int", "_law_are_signs", "_law_is_bridge", "_law_is_walker", "_law_odd", "_law_spoilt"]
theorem run (w : World) : HandSHeadRun.RunEq R (PySem.W.view R.prog [32]) hk ob 3000 loose w := by
  intro os
  kernel_rfl
end Law
open PySem PySem.W PySem.Calls PyProof.Rows
theorem PySem.Challenge.cw_gapplanks_k01_values_recognized_holds : PySem.Challenge.rw_gapplanks_k01_values_recognized.Holds := by
  w_on; o_law
  refine HandSHeadRun.head_any (r := Law.R) (q := view Law.R.prog [32]) (H := Law.hk) (ob := Law.ob) (M := 3000) (loose := Law.loose) (d := HandSHeadRun.topDef Law.R.prog 32) (kwd := []) Law.ob_eq
    (by kernel_rfl) (fun s => by kernel_rfl) Law.run (by kernel_rfl) (by kernel_rfl) (by kernel_rfl) (by rfl) (by first | assumption | decide +kernel) (by decide +kernel) ⟨rfl, rfl, rfl, rfl, rfl, by decide +kernel⟩ ?hw ?hc
  case hw => w_witness2
  case hc =>
    refine LamX.walk_ofTsE (l := Law.rowL) (n := 63) (k := Law.deep + 1) (x := "script") (CX := fun w => L2.CX Law.rowL.prog w) (by rfl) (by decide) (by kernel_rfl) ⟨rfl, by decide, by decide⟩ ?F ?hCX
    · intro w mg fa h Y G hmg0
      obtain ⟨K, KX, c⟩ := Y
      have hmg : mg ("law" : PySem.Str) = some (.ref fa) := by
        have e : (HandSHeadRun.topDef Law.R.prog 32).name = ("law" : PySem.Str) := by kernel_rfl
        rw [← e]
        exact hmg0
      exact ⟨K, KX, EvS.law_at (n := Law.deep) (d := Law.d_law) (g := 26) KX G c Law.ds_ok rfl rfl hmg (by decide) (fun ns hl hb => Law.data ns hl)⟩
    · rintro w H s e s' ⟨_, _, _, _, _, _, _, _, _, _, _, _, z⟩
      exact z
