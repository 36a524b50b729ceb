import PyProof.Rows.All
import Wide.All
import OpenK.AllK
import Wide.FinOn
import HandS.ForMost
import HandS.Exc
import HandS.TryOnly
import HandS.ExcOwn
import HandS.WordsExc
import HandS.Walk
import HandS.Zip
import HandS.Deep
import HandS.Style
import HandS.TupAny
import HandS.TupMul
import HandS.IsInst
import HandS.Wide
import PyProof.Rows.IntBool
import KE.KDictKeyed
import KE.KDictDisplayH
import KE.KLam
import HandS.TupSets
import KE.KeyNested
import KE.SortData
import HandS.SetFor
import HandS.CallSlots
import HandS.Lambda
import HandS.Strs
import HandS.Defaults
import HandS.HeadWalk
import HandS.Head0
import HandS.Head1
import HandS.Head2
import HandS.HeadEnd
import HandS.HeadHook1
import HandS.HeadHook2
import HandS.HeadHook3
import HandS.HeadHook4
import PySem.Challenge.RW_gapplanks_k19_whole_known_mistakes
set_option Elab.async false
set_option linter.all false
set_option maxRecDepth 1000000
set_option maxHeartbeats 4000000
/-! The evaluator: an own small tree of expressions and statements, and what it means over plain data. -/
namespace Ev

/-- plain data -/
inductive D where
  | non | bl (b : Bool) | int (i : Int) | str (s : List Nat) | tup (xs : List D) | lst (xs : List D)

/-- a value: data, a def of the table, a lambda with what it captured, a cell of the store, a written dict of texts that stands as it is -/
inductive Vl where
  | d (x : D) | fn (g : Nat) | clo (l : Nat) (caps : List Vl) | ref (r : Nat) | dct (kvs : List (List Nat × Int))

inductive Cell where
  | lst (xs : List D) | dic (kvs : List (D × D)) | ins (c : Nat) (fs : List (Nat × Vl)) | dead | fz (xs : List D) | fdic (kvs : List (D × D))

abbrev Sto := List Cell
abbrev En := List (Option Vl)

inductive R (α : Type) where
  | ok (a : α) (s : Sto) | ex (c : Nat) (fs : List D) (s : Sto) | no

def R.bind {α β : Type} (r : R α) (f : α → Sto → R β) : R β := match r with
  | .ok a s => f a s
  | .ex c fs s => .ex c fs s
  | .no => .no

def line : Nat := 16777216

/-! ### equality, order -/
def D.num : D → Option Int
  | .int i => some i
  | .bl b => some (if b then 1 else 0)
  | _ => none

mutual
def D.eqv : D → D → Bool
  | .non, .non => true
  | .bl a, .bl b => a == b
  | .int a, .int b => a == b
  | .bl a, .int b => (if a then 1 else 0) == b
  | .int a, .bl b => a == (if b then 1 else 0)
  | .str a, .str b => a == b
  | .tup xs, .tup ys => D.eqvs xs ys
  | .lst xs, .lst ys => D.eqvs xs ys
  | _, _ => false
def D.eqvs : List D → List D → Bool
  | [], [] => true
  | x :: xs, y :: ys => D.eqv x y && D.eqvs xs ys
  | _, _ => false
end

mutual
def D.depth : D → Nat
  | .tup xs => D.depths xs + 1
  | .lst xs => D.depths xs + 1
  | _ => 0
def D.depths : List D → Nat
  | [] => 0
  | x :: xs => max x.depth (D.depths xs)
end

/-- codes in order -/
def ltS : List Nat → List Nat → Bool
  | [], [] => false
  | [], _ :: _ => true
  | _ :: _, [] => false
  | a :: x, b :: y => if a < b then true else if b < a then false else ltS x y

mutual
/-- Python's < between alike things -/
def D.lt : D → D → Bool
  | .int a, .int b => decide (a < b)
  | .bl a, .bl b => !a && b
  | .str a, .str b => ltS a b
  | .tup xs, .tup ys => D.lts xs ys
  | _, _ => false
def D.lts : List D → List D → Bool
  | [], [] => false
  | [], _ :: _ => true
  | _ :: _, [] => false
  | x :: xs, y :: ys => if D.eqv x y then D.lts xs ys else D.lt x y
end
mutual
/-- alike, place by place: < is one there -/
def D.alk : D → D → Bool
  | .non, .non => true
  | .int _, .int _ => true
  | .bl _, .bl _ => true
  | .str _, .str _ => true
  | .tup xs, .tup ys => D.alks xs ys
  | _, _ => false
def D.alks : List D → List D → Bool
  | x :: xs, y :: ys => D.alk x y && D.alks xs ys
  | _, _ => true
end
/-- put in ahead of what is not less -/
def insF (x : D) : List D → List D
  | [] => [x]
  | y :: ys => if D.lt y x then y :: insF x ys else x :: y :: ys
/-- sorted, stable -/
def sortD : List D → List D
  | [] => []
  | x :: xs => insF x (sortD xs)
def D.tp : D → Bool
  | .tup (_ :: _) => true
  | _ => false
/-- may be sorted: tuples, alike, not too deep -/
def sortB (xs : List D) : Bool := xs.all D.tp && xs.all (fun x => xs.all fun y => D.alk x y) && xs.all fun x => decide (x.depth ≤ 60)

def inD (x : D) : List D → Bool
  | [] => false
  | y :: ys => D.eqv y x || inD x ys
/-- each once, the first of equal ones -/
def onceD : List D → List D
  | [] => []
  | x :: xs => x :: (onceD xs).filter fun y => !D.eqv y x

/-- may be a key: a tuple without lists, not too deep -/
def D.kf : Nat → D → Bool
  | 0, .tup _ => false
  | n + 1, .tup xs => xs.all (D.kf n)
  | _, .lst _ => false
  | _, _ => true
def D.key : D → Bool
  | .tup xs => xs.all (D.kf 7)
  | _ => false
/-- no text within -/
def D.nt : D → Bool
  | .tup xs => xs.all (ntk 8)
  | _ => false
where
  /-- to the depth n -/
  ntk : Nat → D → Bool
  | 0, .tup _ => false
  | n + 1, .tup xs => xs.all (ntk n)
  | _, .str _ => false
  | _, .lst _ => false
  | _, _ => true
/-! ### dicts -/
def getD (k : D) : List (D × D) → Option D
  | [] => none
  | (k', v) :: r => if D.eqv k' k then some v else getD k r
def putD (k v : D) : List (D × D) → List (D × D)
  | [] => [(k, v)]
  | (k', v') :: r => if D.eqv k' k then (k', v) :: r else (k', v') :: putD k v r

/-! ### the tree -/
inductive Op | add | sub | mul | fdiv | mod | pow
inductive Cop | lt | le | gt | ge | eq | ne | isin | notin
inductive Ty | int | bool | str | tuple | list
inductive Bf | isi (t : Ty) | len | all | any | sorted | tuple | list | int | bool | str | abs | min | max
inductive Mf | append | pop | get2 | index | join | split | lstrip | repl2 | repl3

mutual
inductive Tg where
  | nm (i : Nat) | tp (ts : Tgs)
inductive Tgs where
  | nil | cons (t : Tg) (ts : Tgs)
end
mutual
inductive E where
  | cst (d : D) | var (i : Nat) | glo (k : Nat) | frz (i : Nat)
  | tup (es : Es) | lst (es : Es) | new (es : Es) | dic (ks vs : Es) | tdic (kvs : List (List Nat × Int))
  | bin (o : Op) (a b : E) | neg (a : E)
  | cmp (o : Cop) (a b : E) | chain (o o' : Cop) (a b c : E) | isN (a : E) | notN (a : E)
  | and (a : E) (es : Es) | or (a : E) (es : Es) | not (a : E) | ife (c a b : E)
  | idx (a i : E) | slc (a : E) (lo hi : Po) | rev (a : E)
  | call (g : Nat) (es : Es) | calll (g : Nat) (es : Es) | callv (i : Nat) (es : Es) | blt (b : Bf) (es : Es) | sset (a : E) | lset (a : E) | mth (m : Mf) (o : E) (es : Es)
  | lc (elt : E) (t : Tg) (it : It) (c : Po) (own : List Nat)
  | lam (l : Nat) (caps : List Nat)
inductive Es where
  | nil | cons (e : E) (es : Es)
inductive Po where
  | no | e (a : E)
inductive It where
  | val (a : E) | rng1 (a : E) | rng2 (a b : E) | enum (a : E) | zip (a b : E) | keys (a : E)
end

mutual
def Tg.slots : Tg → List Nat
  | .nm i => [i]
  | .tp ts => Tgs.slots ts
def Tgs.slots : Tgs → List Nat
  | .nil => []
  | .cons t ts => t.slots ++ Tgs.slots ts
end
def Tgs.len : Tgs → Nat
  | .nil => 0
  | .cons _ ts => ts.len + 1

/-! ### what the operations do -/
def rawV (st : Sto) : Vl → Option D
  | .d x => some x
  | .ref r => match st[r]? with
    | some (.lst xs) => some (.lst xs)
    | some (.fz xs) => some (.lst xs)
    | _ => none
  | _ => none
def rawVs (st : Sto) : List Vl → Option (List D)
  | [] => some []
  | v :: vs => match rawV st v with
    | none => none
    | some x => match rawVs st vs with
      | none => none
      | some xs => some (x :: xs)
/-- data alone, no cell -/
def datVs : List Vl → Option (List D)
  | [] => some []
  | .d x :: vs => match datVs vs with
    | none => none
    | some xs => some (x :: xs)
  | _ :: _ => none

def rep (k : Nat) {α : Type} (xs : List α) : List α := match k with
  | 0 => []
  | k + 1 => xs ++ rep k xs

def opD : Op → D → D → Option D
  | .add, .int a, .int b => some (.int (a + b))
  | .add, .bl a, .int b => some (.int ((if a then 1 else 0) + b))
  | .add, .int a, .bl b => some (.int (a + (if b then 1 else 0)))
  | .add, .str a, .str b => if a.length + b.length ≤ line then some (.str (a ++ b)) else none
  | .add, .tup a, .tup b => if a.length + b.length ≤ line then some (.tup (a ++ b)) else none
  | .add, .lst a, .lst b => if a.length + b.length ≤ line then some (.lst (a ++ b)) else none
  | .sub, .int a, .int b => some (.int (a - b))
  | .mul, .int a, .int b => if a.natAbs < 18446744073709551616 ∨ b.natAbs < 18446744073709551616 then some (.int (a * b)) else none
  | .mul, .str a, .int b => if b.natAbs < 1000000 ∧ a.length * b.toNat ≤ line then some (.str (rep b.toNat a)) else none
  | .mul, .tup (a :: as), .int b => if 1 ≤ b ∧ b ≤ 1000 ∧ (a :: as).length ≤ 1000 then some (.tup (rep b.toNat (a :: as))) else none
  | .mul, .lst a, .int b => if b.natAbs < 1000000 ∧ a.length * b.toNat ≤ line then some (.lst (rep b.toNat a)) else none
  | .fdiv, .int a, .int b => if b ≠ 0 ∧ b.natAbs < 1073741824 then some (.int (Int.fdiv a b)) else none
  | .mod, .int a, .int b => if b ≠ 0 then some (.int (Int.fmod a b)) else none
  | .pow, .int a, .int b => if 0 ≤ b ∧ b ≤ 1000 ∧ a.natAbs < 18446744073709551616 then some (.int (a ^ b.toNat)) else none
  | _, _, _ => none

/-- a sign among signs -/
def inS (c : List Nat) (s : List Nat) : Option Bool := match c with
  | [x] => some (s.contains x)
  | _ => none

def copD : Cop → D → D → Option Bool
  | .lt, .int a, .int b => some (decide (a < b))
  | .le, .int a, .int b => some (decide (a ≤ b))
  | .gt, .int a, .int b => some (decide (b < a))
  | .ge, .int a, .int b => some (decide (b ≤ a))
  | .eq, a, b => if min a.depth b.depth ≤ 64 then some (D.eqv a b) else none
  | .ne, a, b => if min a.depth b.depth ≤ 64 then some (!D.eqv a b) else none
  | .isin, .str c, .str s => inS c s
  | .notin, .str c, .str s => match inS c s with
    | some b => some (!b)
    | none => none
  | .isin, x, .tup xs => if x.depth ≤ 64 then some (inD x xs) else none
  | .isin, x, .lst xs => if x.depth ≤ 64 then some (inD x xs) else none
  | .notin, x, .tup xs => if x.depth ≤ 64 then some (!inD x xs) else none
  | .notin, x, .lst xs => if x.depth ≤ 64 then some (!inD x xs) else none
  | _, _, _ => none

def isiD : Ty → D → Bool
  | .int, .int _ => true
  | .int, .bl _ => true
  | .bool, .bl _ => true
  | .str, .str _ => true
  | .tuple, .tup _ => true
  | .list, .lst _ => true
  | _, _ => false

def ixN (n : Nat) (i : Int) : Option Nat := if 0 ≤ i then (if i < n then some i.toNat else none) else if -(n : Int) ≤ i then some (i + n).toNat else none
def idxD : D → D → Option D
  | .tup xs, .int i => match ixN xs.length i with
    | some j => xs[j]?
    | none => none
  | .lst xs, .int i => match ixN xs.length i with
    | some j => xs[j]?
    | none => none
  | .str s, .int i => match ixN s.length i with
    | some j => match s[j]? with
      | some c => some (.str [c])
      | none => none
    | none => none
  | _, _ => none

/-- a bound of a slice -/
def sIx (n d : Nat) : Option Int → Nat
  | none => d
  | some i => if 0 ≤ i then min i.toNat n else (i + n).toNat
def cut {α : Type} (xs : List α) (lo hi : Option Int) : List α := (xs.drop (sIx xs.length 0 lo)).take (sIx xs.length xs.length hi - sIx xs.length 0 lo)
def cutD (x : D) (lo hi : Option Int) : Option D := match x with
  | .str s => some (.str (cut s lo hi))
  | .tup xs => some (.tup (cut xs lo hi))
  | .lst xs => some (.lst (cut xs lo hi))
  | _ => none
def revD : D → Option D
  | .str s => some (.str s.reverse)
  | .lst s => some (.lst s.reverse)
  | _ => none

def boolsD : List D → Option (List Bool)
  | [] => some []
  | .bl b :: xs => match boolsD xs with
    | some bs => some (b :: bs)
    | none => none
  | _ => none
def intsD : List D → Option (List Int)
  | [] => some []
  | .int b :: xs => match intsD xs with
    | some bs => some (b :: bs)
    | none => none
  | _ => none
def signsD (s : List Nat) : List D := s.map fun c => .str [c]

/-- the items that a for, a comprehension goes through -/
def itemsD : D → Option (List D)
  | .tup xs => some xs
  | .lst xs => some xs
  | .str s => some (signsD s)
  | _ => none
def enumFrom : Nat → List D → List D
  | _, [] => []
  | k, x :: xs => .tup [.int k, x] :: enumFrom (k + 1) xs
def zipD : List D → List D → List D
  | x :: xs, y :: ys => .tup [x, y] :: zipD xs ys
  | _, _ => []
def rangeD (lo : Int) : Nat → List D
  | 0 => []
  | n + 1 => .int lo :: rangeD (lo + 1) n

/-- put in order, once -/
def insI (x : Int) : List Int → List Int
  | [] => [x]
  | y :: ys => if x < y then x :: y :: ys else if x = y then y :: ys else y :: insI x ys
def setI : List Int → List Int
  | [] => []
  | x :: xs => insI x (setI xs)
def minI : List Int → Option Int
  | [] => none
  | x :: xs => some (xs.foldl (fun a b => if b < a then b else a) x)
def maxI : List Int → Option Int
  | [] => none
  | x :: xs => some (xs.foldl (fun a b => if b > a then b else a) x)

/-- sorted(set(..)) -/
def ssetD : D → Option D
  | .tup xs => match intsD xs with
    | some is => if is.length < 64 then some (.lst ((setI is).map D.int)) else none
    | none => none
  | .lst xs => if sortB xs && xs.all D.key && xs.all D.nt && decide (xs.length ≤ line) && decide ((onceD xs).length ≤ 70) then some (.lst (sortD (onceD xs))) else none
  | _ => none
def bSorted : D → Option D
  | .lst xs => if sortB xs then some (.lst (sortD xs)) else none
  | _ => none
def bLen : D → Option D
  | .tup xs => some (.int xs.length)
  | .lst xs => some (.int xs.length)
  | .str s => some (.int s.length)
  | _ => none
def bAll : D → Option D
  | .lst xs => match boolsD xs with
    | some bs => some (.bl (bs.all id))
    | none => none
  | _ => none
def bAny : D → Option D
  | .lst xs => match boolsD xs with
    | some bs => some (.bl (bs.any id))
    | none => none
  | _ => none
def bTuple : D → Option D
  | .lst xs => some (.tup xs)
  | .tup xs => some (.tup xs)
  | _ => none
def bList : D → Option D
  | .lst xs => some (.lst xs)
  | .tup xs => some (.lst xs)
  | _ => none
def bInt : D → Option D
  | .int i => some (.int i)
  | .bl b => some (.int (if b then 1 else 0))
  | _ => none
def bBool : D → Option D
  | .bl b => some (.bl b)
  | _ => none
def bAbs : D → Option D
  | .int i => some (.int (if i < 0 then -i else i))
  | _ => none
def bMin : D → Option D
  | .lst xs => match intsD xs with
    | some is => match minI is with
      | some m => some (.int m)
      | none => none
    | none => none
  | _ => none
def blt1 (b : Bf) (x : D) : Option D := match b with
  | .isi t => some (.bl (isiD t x))
  | .len => bLen x
  | .all => bAll x
  | .any => bAny x
  | .tuple => bTuple x
  | .list => bList x
  | .int => bInt x
  | .bool => bBool x
  | .abs => bAbs x
  | .min => bMin x
  | .sorted => bSorted x
  | _ => none
def bMin2 : D → D → Option D
  | .int a, .int b => some (.int (if b < a then b else a))
  | _, _ => none
def bMax2 : D → D → Option D
  | .int a, .int b => some (.int (if b > a then b else a))
  | _, _ => none
def blt2 (b : Bf) (x y : D) : Option D := match b with
  | .min => bMin2 x y
  | .max => bMax2 x y
  | _ => none
def bltD (b : Bf) : List D → Option D
  | [x] => blt1 b x
  | [x, y] => blt2 b x y
  | _ => none

/-! ### the store -/
def En.get (ρ : En) (i : Nat) : Option Vl := match ρ[i]? with
  | some (some v) => some v
  | _ => none
def En.put (ρ : En) (i : Nat) (v : Vl) : En := ρ.set i (some v)
def En.wipe (ρ : En) : List Nat → En
  | [] => ρ
  | i :: is => (En.wipe ρ is).set i none

mutual
def bindT : Tg → D → En → Option En
  | .nm i, x, ρ => some (ρ.put i (.d x))
  | .tp ts, .tup xs, ρ => bindTs ts xs ρ
  | .tp _, _, _ => none
def bindTs : Tgs → List D → En → Option En
  | .nil, [], ρ => some ρ
  | .cons t ts, x :: xs, ρ => match bindT t x ρ with
    | some ρ' => bindTs ts xs ρ'
    | none => none
  | _, _, _ => none
end

/-- what stands around an expression: the defs, the lambdas, the module's constants -/
structure Ctx where
  call : Nat → List Vl → Sto → R Vl
  lam : Nat → List Vl → List Vl → Sto → R Vl
  con : Nat → Option Vl

/-- a call's own store: data alone goes in and comes out -/
def ofO (o : Option D) (s : Sto) : R Vl := match o with
  | some x => .ok (.d x) s
  | none => .no

def capsOf (ρ : En) : List Nat → Option (List Vl)
  | [] => some []
  | i :: is => match ρ.get i with
    | some v => match capsOf ρ is with
      | some vs => some (v :: vs)
      | none => none
    | none => none

def getT (k : List Nat) : List (List Nat × Int) → Option Int
  | [] => none
  | (k', v) :: r => if k' == k then some v else getT k r
def mAppend (o : Vl) (vs : List Vl) (st : Sto) : R Vl := match o, vs with
  | .ref r, [.d x] => match st[r]? with
    | some (.lst xs) => if xs.length < line then .ok (.d .non) (st.set r (.lst (xs ++ [x]))) else .no
    | _ => .no
  | _, _ => .no
def mPop (o : Vl) (vs : List Vl) (st : Sto) : R Vl := match o, vs with
  | .ref r, [] => match st[r]? with
    | some (.lst xs) => match xs[xs.length - 1]? with
      | some x => .ok (.d x) (st.set r (.lst xs.dropLast))
      | none => .no
    | _ => .no
  | _, _ => .no
def mGet2 (o : Vl) (vs : List Vl) (st : Sto) : R Vl := match o, vs with
  | .ref r, [.d k, .d x] => match st[r]? with
    | some (.dic kvs) => if k.key then .ok (.d ((getD k kvs).getD x)) st else .no
    | _ => .no
  | _, _ => .no
def mthD (m : Mf) (o : Vl) (vs : List Vl) (st : Sto) : R Vl := match m with
  | .append => mAppend o vs st
  | .pop => mPop o vs st
  | .get2 => mGet2 o vs st
  | _ => .no

/-- what a method is called on -/
def kindM (m : Mf) (u : Vl) (st : Sto) : Bool := match m, u with
  | .append, .ref r => match st[r]? with
    | some (.lst _) => true
    | _ => false
  | .pop, .ref r => match st[r]? with
    | some (.lst _) => true
    | _ => false
  | .get2, .ref r => match st[r]? with
    | some (.dic _) => true
    | _ => false
  | _, _ => false
def zipV : D → D → Option (List D)
  | .lst xs, .lst ys => some (zipD xs ys)
  | .tup xs, .tup ys => some (zipD xs ys)
  | _, _ => none

/-- no lambda -/
def Vl.flat : Vl → Bool
  | .clo _ _ => false
  | _ => true
def flats (vs : List Vl) : Bool := vs.all Vl.flat
/-- the turns of a comprehension -/
def lcLoop (step : D → Sto → R (Option D)) : List D → Sto → R (List D)
  | [], st => .ok [] st
  | x :: xs, st => match step x st with
    | .ok o st => match lcLoop step xs st with
      | .ok ys st => .ok (match o with
        | some y => y :: ys
        | none => ys) st
      | _ => .no
    | _ => .no

def pairsD : List D → List D → List (D × D) → List (D × D)
  | k :: ks, v :: vs, acc => pairsD ks vs (putD k v acc)
  | _, _, acc => acc


def ofB (o : Option Bool) (s : Sto) : R Vl := match o with
  | some b => .ok (.d (.bl b)) s
  | none => .no
def noneV : Vl → Bool
  | .d .non => true
  | _ => false
/-- a comparison: in of a dict's keys, or of data -/
def cmpV (o : Cop) (u v : Vl) (st : Sto) : R Vl := match o, v with
  | .isin, .dct kvs => match u with
    | .d (.str k) => .ok (.d (.bl (getT k kvs).isSome)) st
    | _ => .no
  | .isin, .ref r => match st[r]? with
    | some (.dic kvs) => match u with
      | .d k => if k.key then .ok (.d (.bl (getD k kvs).isSome)) st else .no
      | _ => .no
    | some (.lst xs) => match u with
      | .d k => ofB (copD .isin k (.lst xs)) st
      | _ => .no
    | some (.fz xs) => match u with
      | .d k => ofB (copD .isin k (.lst xs)) st
      | _ => .no
    | some (.fdic kvs) => match u with
      | .d k => if k.key then .ok (.d (.bl (getD k kvs).isSome)) st else .no
      | _ => .no
    | _ => .no
  | .notin, .ref r => match st[r]? with
    | some (.dic kvs) => match u with
      | .d k => if k.key then .ok (.d (.bl (!(getD k kvs).isSome))) st else .no
      | _ => .no
    | some (.lst xs) => match u with
      | .d k => ofB (copD .notin k (.lst xs)) st
      | _ => .no
    | some (.fz xs) => match u with
      | .d k => ofB (copD .notin k (.lst xs)) st
      | _ => .no
    | some (.fdic kvs) => match u with
      | .d k => if k.key then .ok (.d (.bl (!(getD k kvs).isSome))) st else .no
      | _ => .no
    | _ => .no
  | o, v => match rawV st u, rawV st v with
    | some x, some y => ofB (copD o x y) st
    | _, _ => .no
/-- an item: a dict's by its key, a list's, a tuple's, a text's by its place -/
def idxV (u v : Vl) (st : Sto) : R Vl := match u with
  | .ref r => match st[r]? with
    | some (.dic kvs) => match v with
      | .d k => if k.key then ofO (getD k kvs) st else .no
      | _ => .no
    | some (.lst xs) => match v with
      | .d i => ofO (idxD (.lst xs) i) st
      | _ => .no
    | some (.fz xs) => match v with
      | .d i => ofO (idxD (.lst xs) i) st
      | _ => .no
    | some (.fdic kvs) => match v with
      | .d k => if k.key then ofO (getD k kvs) st else .no
      | _ => .no
    | _ => .no
  | .d x => match v with
    | .d i => ofO (idxD x i) st
    | _ => .no
  | .dct kvs => match v with
    | .d (.str k) => match getT k kvs with
      | some i => .ok (.d (.int i)) st
      | none => .no
    | _ => .no
  | _ => .no
def onD {α : Type} (o : Option α) (f : α → R Vl) : R Vl := match o with
  | some x => f x
  | none => .no
/-- by a truth -/
def onB {α : Type} (v : Vl) (t f : R α) : R α := match v with
  | .d (.bl true) => t
  | .d (.bl false) => f
  | _ => .no

mutual
def evE (C : Ctx) : E → En → Sto → R Vl
  | .cst d, _, st => .ok (.d d) st
  | .var i, ρ, st => match ρ.get i with
    | some v => .ok v st
    | none => .no
  | .glo k, _, st => match C.con k with
    | some v => .ok v st
    | none => .no
  | .frz i, ρ, st => match ρ.get i with
    | some (.ref r) => match st[r]? with
      | some (.lst xs) => .ok (.d (.lst xs)) (st.set r (.fz xs))
      | some (.fz xs) => .ok (.d (.lst xs)) st
      | _ => .no
    | _ => .no
  | .tup es, ρ, st => (evEs C es ρ st).bind fun vs st => onD (datVs vs) fun xs => .ok (.d (.tup xs)) st
  | .lst es, ρ, st => (evEs C es ρ st).bind fun vs st => onD (datVs vs) fun xs => .ok (.d (.lst xs)) st
  | .new es, ρ, st => (evEs C es ρ st).bind fun vs st => onD (datVs vs) fun xs => .ok (.ref st.length) (st ++ [.lst xs])
  | .dic ks vs, ρ, st => (evEs C ks ρ st).bind fun kl st => (evEs C vs ρ st).bind fun vl st => onD (datVs kl) fun ks => onD (datVs vl) fun vs =>
      if ks.length = vs.length ∧ ks.length ≤ 15 ∧ ks.all D.key then .ok (.ref st.length) (st ++ [.dic (pairsD ks vs [])]) else .no
  | .tdic kvs, _, st => .ok (.dct kvs) st
  | .bin o a b, ρ, st => (evE C a ρ st).bind fun u st => (evE C b ρ st).bind fun v st => onD (rawV st u) fun x => onD (rawV st v) fun y => ofO (opD o x y) st
  | .neg a, ρ, st => (evE C a ρ st).bind fun v st => match v with
    | .d (.int i) => .ok (.d (.int (-i))) st
    | _ => .no
  | .cmp o a b, ρ, st => (evE C a ρ st).bind fun u st => (evE C b ρ st).bind fun v st => cmpV o u v st
  | .chain o o' a b c, ρ, st => (evE C a ρ st).bind fun u st => (evE C b ρ st).bind fun v st => (cmpV o u v st).bind fun k st =>
      onB k ((evE C c ρ st).bind fun w st => cmpV o' v w st) (.ok (.d (.bl false)) st)
  | .isN a, ρ, st => (evE C a ρ st).bind fun v st => .ok (.d (.bl (noneV v))) st
  | .notN a, ρ, st => (evE C a ρ st).bind fun v st => .ok (.d (.bl (!noneV v))) st
  | .and a es, ρ, st => (evE C a ρ st).bind fun v st => onB v (evAnd C es ρ st) (.ok (.d (.bl false)) st)
  | .or a es, ρ, st => (evE C a ρ st).bind fun v st => onB v (.ok (.d (.bl true)) st) (evOr C es ρ st)
  | .not a, ρ, st => (evE C a ρ st).bind fun v st => match v with
    | .d (.bl b) => .ok (.d (.bl (!b))) st
    | _ => .no
  | .ife c a b, ρ, st => (evE C c ρ st).bind fun v st => onB v (evE C a ρ st) (evE C b ρ st)
  | .idx a i, ρ, st => (evE C a ρ st).bind fun u st => (evE C i ρ st).bind fun v st => idxV u v st
  | .slc a lo hi, ρ, st => (evE C a ρ st).bind fun u st => (evPo C lo ρ st).bind fun l st => (evPo C hi ρ st).bind fun h st =>
      onD (rawV st u) fun x => ofO (cutD x l h) st
  | .rev a, ρ, st => (evE C a ρ st).bind fun u st => onD (rawV st u) fun x => ofO (revD x) st
  | .call g es, ρ, st => (evEs C es ρ st).bind fun vs st => C.call g vs st
  | .calll g es, ρ, st => (evEs C es ρ st).bind fun vs st => (C.call g vs st).bind fun v st => if v.flat then .ok v st else .no
  | .callv i es, ρ, st => match ρ.get i with
    | some (.fn g) => (evEs C es ρ st).bind fun vs st => C.call g vs st
    | some (.clo l cs) => (evEs C es ρ st).bind fun vs st => C.lam l cs vs st
    | _ => .no
  | .blt b es, ρ, st => (evEs C es ρ st).bind fun vs st => onD (rawVs st vs) fun xs => ofO (bltD b xs) st
  | .sset a, ρ, st => (evE C a ρ st).bind fun v st => onD (rawV st v) fun x => ofO (ssetD x) st
  | .lset a, ρ, st => (evE C a ρ st).bind fun v st => onD (rawV st v) fun x => onD (itemsD x) fun xs => onD (intsD xs) fun _ =>
      if (onceD xs).length ≤ 64 then .ok (.d (.int (onceD xs).length)) st else .no
  | .mth m o es, ρ, st => (evE C o ρ st).bind fun u st => if kindM m u st then (evEs C es ρ st).bind fun vs st => mthD m u vs st else .no
  | .lc elt t it c own, ρ, st => (evIt C it ρ st).bind fun xs st => (lcLoop (fun x st => match bindT t x (ρ.wipe own) with
      | none => .no
      | some ρ' => (evPoB C c ρ' st).bind fun k st => match k with
        | false => .ok none st
        | true => (evE C elt ρ' st).bind fun v st => match v with
          | .d y => .ok (some y) st
          | _ => .no) xs st).bind fun ys st => .ok (.d (.lst ys)) st
  | .lam l caps, ρ, st => onD (capsOf ρ caps) fun vs => .ok (.clo l vs) st
def evEs (C : Ctx) : Es → En → Sto → R (List Vl)
  | .nil, _, st => .ok [] st
  | .cons e es, ρ, st => (evE C e ρ st).bind fun v st => (evEs C es ρ st).bind fun vs st => .ok (v :: vs) st
def evAnd (C : Ctx) : Es → En → Sto → R Vl
  | .nil, _, _ => .no
  | .cons e .nil, ρ, st => evE C e ρ st
  | .cons e (.cons e2 es), ρ, st => (evE C e ρ st).bind fun v st => onB v (evAnd C (.cons e2 es) ρ st) (.ok (.d (.bl false)) st)
def evOr (C : Ctx) : Es → En → Sto → R Vl
  | .nil, _, _ => .no
  | .cons e .nil, ρ, st => evE C e ρ st
  | .cons e (.cons e2 es), ρ, st => (evE C e ρ st).bind fun v st => onB v (.ok (.d (.bl true)) st) (evOr C (.cons e2 es) ρ st)
def evPo (C : Ctx) : Po → En → Sto → R (Option Int)
  | .no, _, st => .ok none st
  | .e a, ρ, st => (evE C a ρ st).bind fun v st => match v with
    | .d (.int i) => .ok (some i) st
    | _ => .no
def evPoB (C : Ctx) : Po → En → Sto → R Bool
  | .no, _, st => .ok true st
  | .e a, ρ, st => (evE C a ρ st).bind fun v st => match v with
    | .d (.bl i) => .ok i st
    | _ => .no
def evIt (C : Ctx) : It → En → Sto → R (List D)
  | .val a, ρ, st => (evE C a ρ st).bind fun v st => match v with
    | .d x => match itemsD x with
      | some xs => .ok xs st
      | none => .no
    | _ => .no
  | .rng1 a, ρ, st => (evE C a ρ st).bind fun v st => match v with
    | .d (.int i) => if i.natAbs ≤ line then .ok (rangeD 0 i.toNat) st else .no
    | _ => .no
  | .rng2 a b, ρ, st => (evE C a ρ st).bind fun u st => (evE C b ρ st).bind fun v st => match u, v with
    | .d (.int i), .d (.int j) => if i.natAbs ≤ line / 2 && j.natAbs ≤ line / 2 then .ok (rangeD i (j - i).toNat) st else .no
    | _, _ => .no
  | .enum a, ρ, st => (evE C a ρ st).bind fun v st => match v with
    | .d x => match itemsD x with
      | some xs => .ok (enumFrom 0 xs) st
      | none => .no
    | _ => .no
  | .zip a b, ρ, st => (evE C a ρ st).bind fun u st => (evE C b ρ st).bind fun v st => match u, v with
    | .d x, .d y => match zipV x y with
      | some zs => .ok zs st
      | none => .no
    | _, _ => .no
  | .keys a, ρ, st => (evE C a ρ st).bind fun v st => match v with
    | .ref r => match st[r]? with
      | some (.dic kvs) => .ok (kvs.map (·.1)) (st.set r (.fdic kvs))
      | some (.fdic kvs) => .ok (kvs.map (·.1)) st
      | _ => .no
    | _ => .no
end

/-! ### statements -/
/-- how a statement ends -/
inductive O where
  | nx (ρ : En) (s : Sto) | rt (v : Vl) (s : Sto) | bk (ρ : En) (s : Sto) | ct (ρ : En) (s : Sto) | ex (c : Nat) (fs : List D) (ρ : En) (s : Sto) | no
def R.out {α : Type} (r : R α) (ρ : En) (f : α → Sto → O) : O := match r with
  | .ok a s => f a s
  | .ex c fs s => .ex c fs ρ s
  | .no => .no
def O.then (o : O) (f : En → Sto → O) : O := match o with
  | .nx ρ s => f ρ s
  | o => o

mutual
inductive S where
  | set (i : Nat) (e : E) | unp (ts : Tgs) (e : E) | par2 (i j : Nat) (a b : E) | par3 (i j k : Nat) (a b c : E) | idx (o i e : E) | exp (e : E)
  | ite (c : E) (a b : Ss) | for_ (t : Tg) (it : It) (b : Ss) | whl (c : E) (b : Ss) | ret (e : E) | retN | brk | cnt | pas
  | rse (c : Nat) | nev
inductive Ss where
  | nil | cons (s : S) (r : Ss)
end

def setV (o i v : Vl) (st : Sto) : Option Sto := match o, i, v with
  | .ref r, .d k, .d x => match st[r]? with
    | some (.dic kvs) => if k.key && kvs.length < 1000000 then some (st.set r (.dic (putD k x kvs))) else none
    | some (.lst xs) => match k with
      | .int n => match ixN xs.length n with
        | some j => some (st.set r (.lst (xs.set j x)))
        | none => none
      | _ => none
    | _ => none
  | _, _, _ => none

/-- the turns of a for -/
def forLoop (step : D → En → Sto → O) : List D → En → Sto → O
  | [], ρ, st => .nx ρ st
  | x :: xs, ρ, st => match step x ρ st with
    | .nx ρ st => forLoop step xs ρ st
    | .ct ρ st => forLoop step xs ρ st
    | .bk ρ st => .nx ρ st
    | .rt v st => .rt v st
    | .ex c fs ρ st => .ex c fs ρ st
    | .no => .no
/-- the turns of a while, so many at most -/
def whlLoop (test : En → Sto → R Vl) (body : En → Sto → O) : Nat → En → Sto → O
  | 0, _, _ => .no
  | n + 1, ρ, st => (test ρ st).out ρ fun v st => match v with
    | .d (.bl true) => match body ρ st with
      | .nx ρ st => whlLoop test body n ρ st
      | .ct ρ st => whlLoop test body n ρ st
      | .bk ρ st => .nx ρ st
      | .rt v st => .rt v st
      | .ex c fs ρ st => .ex c fs ρ st
      | .no => .no
    | .d (.bl false) => .nx ρ st
    | _ => .no
def turns : Nat := 1000000

mutual
def evS (C : Ctx) : S → En → Sto → O
  | .set i e, ρ, st => (evE C e ρ st).out ρ fun v st => .nx (ρ.put i v) st
  | .unp ts e, ρ, st => (evE C e ρ st).out ρ fun v st => match v with
    | .d (.tup xs) => match bindTs ts xs ρ with
      | some ρ' => .nx ρ' st
      | none => .no
    | _ => .no
  | .par2 i j a b, ρ, st => (evE C a ρ st).out ρ fun u st => (evE C b ρ st).out ρ fun v st => .nx ((ρ.put i u).put j v) st
  | .par3 i j k a b c, ρ, st => (evE C a ρ st).out ρ fun u st => (evE C b ρ st).out ρ fun v st => (evE C c ρ st).out ρ fun w st => .nx (((ρ.put i u).put j v).put k w) st
  | .idx o i e, ρ, st => (evE C e ρ st).out ρ fun v st => (evE C o ρ st).out ρ fun u st => (evE C i ρ st).out ρ fun k st => match setV u k v st with
    | some st' => .nx ρ st'
    | none => .no
  | .exp e, ρ, st => (evE C e ρ st).out ρ fun _ st => .nx ρ st
  | .ite c a b, ρ, st => (evE C c ρ st).out ρ fun v st => match v with
    | .d (.bl true) => evSs C a ρ st
    | .d (.bl false) => evSs C b ρ st
    | _ => .no
  | .for_ t it b, ρ, st => (evIt C it ρ st).out ρ fun xs st => forLoop (fun x ρ st => match bindT t x ρ with
    | some ρ' => evSs C b ρ' st
    | none => .no) xs ρ st
  | .whl c b, ρ, st => whlLoop (fun ρ st => evE C c ρ st) (fun ρ st => evSs C b ρ st) turns ρ st
  | .ret e, ρ, st => (evE C e ρ st).out ρ fun v st => .rt v st
  | .retN, _, st => .rt (.d .non) st
  | .brk, ρ, st => .bk ρ st
  | .cnt, ρ, st => .ct ρ st
  | .pas, ρ, st => .nx ρ st
  | .rse c, ρ, st => .ex c [] ρ st
  | .nev, _, _ => .no
def evSs (C : Ctx) : Ss → En → Sto → O
  | .nil, ρ, st => .nx ρ st
  | .cons s r, ρ, st => (evS C s ρ st).then fun ρ st => evSs C r ρ st
end

/-! ### defs -/
/-- a def: how many parameters, how many names, its body; alone: data in, data out, a store of its own -/
structure Fd where
  np : Nat
  nn : Nat
  alone : Bool
  body : Ss
/-- a lambda: the captured names' slots and its parameters' in its own list of names, its body -/
structure Ld where
  nc : Nat
  np : Nat
  alone : Bool
  body : E

mutual
def Vl.pure : Vl → Bool
  | .d _ => true
  | .fn _ => true
  | .clo _ cs => Vl.pures cs
  | .ref _ => false
  | .dct _ => true
def Vl.pures : List Vl → Bool
  | [] => true
  | v :: vs => v.pure && Vl.pures vs
end

def begin_ (nn : Nat) (vs : List Vl) : En := vs.map some ++ List.replicate (nn - vs.length) none

/-- what a body hands back -/
def O.res : O → R Vl
  | .nx _ s => .ok (.d .non) s
  | .rt v s => .ok v s
  | .ex c fs _ s => .ex c fs s
  | _ => .no
/-- from a store of its own: data alone comes out, the store is as it was -/
def R.back (r : R Vl) (st : Sto) : R Vl := match r with
  | .ok (.d x) _ => .ok (.d x) st
  | .ex c fs _ => .ex c fs st
  | _ => .no

structure Tab where
  fns : List Fd
  lams : List Ld
  cons : List Vl

/-- calls nested at most n deep -/
def Tab.cx (T : Tab) : Nat → Ctx
  | 0 => ⟨fun _ _ _ => .no, fun _ _ _ _ => .no, fun k => T.cons[k]?⟩
  | n + 1 => ⟨fun g vs st => match T.fns[g]? with
      | none => .no
      | some f => if vs.length = f.np then
          (if f.alone then (if Vl.pures vs then (evSs (T.cx n) f.body (begin_ f.nn vs) []).res.back st else .no)
          else (evSs (T.cx n) f.body (begin_ f.nn vs) st).res)
          else .no,
    fun l cs vs st => match T.lams[l]? with
      | none => .no
      | some f => if cs.length = f.nc ∧ flats cs ∧ flats vs then if vs.length = f.np then
          (if f.alone then (if Vl.pures cs && Vl.pures vs then (evE (T.cx n) f.body ((cs ++ vs).map some) []).back st else .no)
          else evE (T.cx n) f.body ((cs ++ vs).map some) st)
          else .no else .no,
    fun k => T.cons[k]?⟩
end Ev

namespace EvS
open PySem PySem.Spec PyProof.Rows L2 Ev

/-! ### data in the heap -/
mutual
def toPy : D → PyData
  | .non => .none
  | .bl b => .bool b
  | .int i => .int i
  | .str s => .str ⟨s.toArray⟩
  | .tup xs => .tuple (toPys xs)
  | .lst xs => .list (toPys xs)
def toPys : List D → List PyData
  | [] => []
  | x :: xs => toPy x :: toPys xs
end

/-- a list that stands as it is: locked, or of the written part -/
def FzL (K : PySem.W.Frag) (H : Hp) (a : Addr) (xs : List V) : Prop :=
  (∃ o, H a = some (.frz o (.lst xs))) ∨
    ∃ (o : Obj) (its : Array Value) (n : Nat), K.lookup a = some o ∧ o.cls = .type "list" ∧ o.dict = none ∧ o.data = .seq its n ∧ its.size ≤ sizeLine ∧ Vals xs its.toList
theorem FzL.sq {K : PySem.W.Frag} {H : Hp} {a : Addr} {xs : List V} (h : FzL K H a xs) : SqL K H a xs := by
  rcases h with h | h
  · exact .inl (.inr h)
  · exact .inr h

mutual
/-- the data x stands at v -/
def RD (K : PySem.W.Frag) (H : Hp) : D → V → Prop
  | .non, v => v = .non
  | .bl b, v => v = .bl b
  | .int i, v => v = .int i
  | .str s, v => v = .str ⟨s.toArray⟩ ∧ s.length ≤ line ∧ ∀ c ∈ s, c < 128
  | .tup xs, v => ∃ a vs, v = .ref a ∧ SqT K H a vs ∧ xs.length ≤ line ∧ RDs K H xs vs
  | .lst xs, v => ∃ a vs, v = .ref a ∧ FzL K H a vs ∧ xs.length ≤ line ∧ RDs K H xs vs
def RDs (K : PySem.W.Frag) (H : Hp) : List D → List V → Prop
  | [], vs => vs = []
  | x :: xs, vs => ∃ v r, vs = v :: r ∧ RD K H x v ∧ RDs K H xs r
end

/-- never written -/
def Fix : HO → Prop
  | .tup _ => True
  | .frz _ _ => True
  | _ => False

theorem line_eq : line = sizeLine := by rw [sizeLine_eq]; rfl

section
variable {K : PySem.W.Frag} {H H' : Hp}
theorem sqT_fix {a : Addr} {vs : List V} (h : SqT K H a vs) (e : ∀ a o, H a = some o → Fix o → H' a = some o) : SqT K H' a vs := by
  rcases h with (h | ⟨o, h⟩) | h
  · exact .inl (.inl (e _ _ h trivial))
  · exact .inl (.inr ⟨o, e _ _ h trivial⟩)
  · exact .inr h
theorem FzL.fix {a : Addr} {vs : List V} (h : FzL K H a vs) (e : ∀ a o, H a = some o → Fix o → H' a = some o) : FzL K H' a vs := by
  rcases h with ⟨o, h⟩ | h
  · exact .inl ⟨o, e _ _ h trivial⟩
  · exact .inr h
mutual
theorem RD.fix (e : ∀ a o, H a = some o → Fix o → H' a = some o) : ∀ {x : D} {v : V}, RD K H x v → RD K H' x v
  | .non, _, h => h
  | .bl _, _, h => h
  | .int _, _, h => h
  | .str _, _, h => h
  | .tup _, _, ⟨a, vs, h1, h2, h3, h4⟩ => ⟨a, vs, h1, sqT_fix h2 e, h3, RDs.fix e h4⟩
  | .lst _, _, ⟨a, vs, h1, h2, h3, h4⟩ => ⟨a, vs, h1, FzL.fix h2 e, h3, RDs.fix e h4⟩
theorem RDs.fix (e : ∀ a o, H a = some o → Fix o → H' a = some o) : ∀ {x : List D} {v : List V}, RDs K H x v → RDs K H' x v
  | [], _, h => h
  | _ :: _, _, ⟨v, r, h1, h2, h3⟩ => ⟨v, r, h1, RD.fix e h2, RDs.fix e h3⟩
end
theorem RDs.len : ∀ {xs : List D} {vs : List V}, RDs K H xs vs → vs.length = xs.length
  | [], _, h => by
    have e : _ = [] := h
    rw [e]
    rfl
  | _ :: _, _, ⟨v, r, h1, _, h3⟩ => by rw [h1, List.length_cons, RDs.len h3]; rfl
theorem RDs.get : ∀ {xs : List D} {vs : List V} {i : Nat} {x : D}, RDs K H xs vs → xs[i]? = some x → ∃ v, vs[i]? = some v ∧ RD K H x v
  | [], _, i, x, _, e => by simp at e
  | y :: ys, _, 0, x, ⟨v, r, h1, h2, _⟩, e => by
    simp at e
    subst e h1
    exact ⟨v, rfl, h2⟩
  | y :: ys, _, i + 1, x, ⟨v, r, h1, _, h3⟩, e => by
    subst h1
    obtain ⟨w, e1, e2⟩ := RDs.get (i := i) h3 (by simpa using e)
    exact ⟨w, by simpa using e1, e2⟩
theorem RDs.app : ∀ {xs ys : List D} {vs us : List V}, RDs K H xs vs → RDs K H ys us → RDs K H (xs ++ ys) (vs ++ us)
  | [], _, vs, _, h, h' => by
    have e : vs = [] := h
    subst e
    exact h'
  | _ :: _, _, _, _, ⟨v, r, h1, h2, h3⟩, h' => by
    subst h1
    exact ⟨v, _, rfl, h2, RDs.app h3 h'⟩
theorem RDs.nil : RDs K H [] [] := rfl
theorem RDs.one {x : D} {v : V} (h : RD K H x v) : RDs K H [x] [v] := ⟨v, [], rfl, h, rfl⟩
theorem RDs.take : ∀ {xs : List D} {vs : List V} (n : Nat), RDs K H xs vs → RDs K H (xs.take n) (vs.take n)
  | _, _, 0, _ => by simp; exact RDs.nil
  | [], vs, n + 1, h => by
    have e : vs = [] := h
    subst e
    exact RDs.nil
  | _ :: _, _, n + 1, ⟨v, r, h1, h2, h3⟩ => by
    subst h1
    exact ⟨v, _, rfl, h2, RDs.take n h3⟩
theorem RDs.drop : ∀ {xs : List D} {vs : List V} (n : Nat), RDs K H xs vs → RDs K H (xs.drop n) (vs.drop n)
  | _, _, 0, h => h
  | [], vs, n + 1, h => by
    have e : vs = [] := h
    subst e
    exact RDs.nil
  | _ :: _, _, n + 1, ⟨v, r, h1, h2, h3⟩ => by
    subst h1
    exact RDs.drop n h3
theorem RDs.rev : ∀ {xs : List D} {vs : List V}, RDs K H xs vs → RDs K H xs.reverse vs.reverse
  | [], vs, h => by
    have e : vs = [] := h
    subst e
    exact RDs.nil
  | _ :: _, _, ⟨v, r, h1, h2, h3⟩ => by
    subst h1
    rw [List.reverse_cons, List.reverse_cons]
    exact RDs.app (RDs.rev h3) (RDs.one h2)
theorem RDs.set : ∀ {xs : List D} {vs : List V} (i : Nat) {x : D} {v : V}, RDs K H xs vs → RD K H x v → RDs K H (xs.set i x) (vs.set i v)
  | [], vs, i, _, _, h, _ => by
    have e : vs = [] := h
    subst e
    exact RDs.nil
  | _ :: _, _, 0, x, v, ⟨w, r, h1, h2, h3⟩, h => by
    subst h1
    exact ⟨v, _, rfl, h, h3⟩
  | _ :: _, _, i + 1, x, v, ⟨w, r, h1, h2, h3⟩, h => by
    subst h1
    exact ⟨w, _, rfl, h2, RDs.set i h3 h⟩
theorem RDs.rep {xs : List D} {vs : List V} (h : RDs K H xs vs) : ∀ k : Nat, RDs K H (Ev.rep k xs) (List.replicate k vs).flatten
  | 0 => RDs.nil
  | k + 1 => by
    show RDs K H (xs ++ Ev.rep k xs) _
    rw [List.replicate_succ, List.flatten_cons]
    exact RDs.app h (RDs.rep h k)

/-! data that may be read: also a tracked list -/
def RW (K : PySem.W.Frag) (H : Hp) (x : D) (v : V) : Prop := RD K H x v ∨ ∃ xs a vs, x = .lst xs ∧ v = .ref a ∧ SqL K H a vs ∧ xs.length ≤ line ∧ RDs K H xs vs
mutual
theorem RD.dp : ∀ {x : D} {v : V}, RD K H x v → Dp K H v (toPy x)
  | .non, v, h => by
    have e : v = .non := h
    subst e
    exact .non
  | .bl b, v, h => by
    have e : v = .bl b := h
    subst e
    exact .bl b
  | .int b, v, h => by
    have e : v = .int b := h
    subst e
    exact .int b
  | .str b, v, h => by
    obtain ⟨e, _⟩ := h
    subst e
    exact .str _
  | .tup _, _, ⟨a, vs, h1, h2, h3, h4⟩ => by
    subst h1
    exact .tup h2 (RDs.dp h4)
  | .lst _, _, ⟨a, vs, h1, h2, h3, h4⟩ => by
    subst h1
    exact .lst h2.sq (RDs.dp h4)
theorem RDs.dp : ∀ {x : List D} {v : List V}, RDs K H x v → DpAll K H v (toPys x)
  | [], v, h => by
    have e : v = [] := h
    subst e
    exact .nil
  | _ :: _, _, ⟨v, r, h1, h2, h3⟩ => by
    subst h1
    exact .cons (RD.dp h2) (RDs.dp h3)
end
theorem RW.dp {x : D} {v : V} (h : RW K H x v) : Dp K H v (toPy x) := by
  rcases h with h | ⟨xs, a, vs, rfl, rfl, h1, _, h2⟩
  · exact h.dp
  · exact .lst h1 h2.dp
mutual
theorem RD.lay : ∀ {x : D} {v : V}, RD K H x v → (toPy x).canLay0 = true
  | .non, _, _ => rfl
  | .bl _, _, _ => rfl
  | .int _, _, _ => rfl
  | .str s, v, ⟨_, _, h⟩ => by
    show PyData.strOk ⟨s.toArray⟩ = true
    unfold PyData.strOk
    rw [Array.all_eq_true']
    intro c hc
    have h' := h c (by simpa using hc)
    exact decide_eq_true (by omega)
  | .tup _, _, ⟨a, vs, h1, h2, h3, h4⟩ => by
    show PyData.canLayAll0 _ = true
    exact RDs.lay h4
  | .lst _, _, ⟨a, vs, h1, h2, h3, h4⟩ => by
    show PyData.canLayAll0 _ = true
    exact RDs.lay h4
theorem RDs.lay : ∀ {x : List D} {v : List V}, RDs K H x v → PyData.canLayAll0 (toPys x) = true
  | [], _, _ => rfl
  | _ :: _, _, ⟨v, r, h1, h2, h3⟩ => by
    show (PyData.canLay0 _ && PyData.canLayAll0 _) = true
    rw [RD.lay h2, RDs.lay h3]
    rfl
end
theorem RW.lay {x : D} {v : V} (h : RW K H x v) : (toPy x).canLay0 = true := by
  rcases h with h | ⟨xs, a, vs, rfl, rfl, h1, _, h2⟩
  · exact h.lay
  · exact h2.lay
end
mutual
theorem toPy_depth : ∀ x : D, (toPy x).depth = x.depth
  | .non => rfl
  | .bl _ => rfl
  | .int _ => rfl
  | .str _ => rfl
  | .tup xs => by show PyData.depthAll (toPys xs) + 1 = D.depths xs + 1; rw [toPys_depth xs]
  | .lst xs => by show PyData.depthAll (toPys xs) + 1 = D.depths xs + 1; rw [toPys_depth xs]
theorem toPys_depth : ∀ xs : List D, PyData.depthAll (toPys xs) = D.depths xs
  | [] => rfl
  | x :: xs => by show max (PyData.depth (toPy x)) (PyData.depthAll (toPys xs)) = max x.depth (D.depths xs); rw [toPy_depth x, toPys_depth xs]
end
theorem str_beq (a b : List Nat) : ((⟨a.toArray⟩ : Str) == ⟨b.toArray⟩) = (a == b) := by
  by_cases h : a = b
  · subst h; simp
  · have h' : ¬ ((⟨a.toArray⟩ : Str) = ⟨b.toArray⟩) := fun e => h (by simpa using congrArg (fun z : Str => z.cps.toList) e)
    rw [beq_eq_false_iff_ne.mpr h, beq_eq_false_iff_ne.mpr h']
mutual
theorem toPy_eqv : ∀ x y : D, PyData.eqv (toPy x) (toPy y) = D.eqv x y
  | .tup xs, .tup ys => toPys_eqv xs ys
  | .lst xs, .lst ys => toPys_eqv xs ys
  | .str a, .str b => str_beq a b
  | .non, .non => rfl | .non, .bl _ => rfl | .non, .int _ => rfl | .non, .str _ => rfl | .non, .tup _ => rfl | .non, .lst _ => rfl
  | .bl _, .non => rfl | .bl _, .bl _ => rfl | .bl _, .int _ => rfl | .bl _, .str _ => rfl | .bl _, .tup _ => rfl | .bl _, .lst _ => rfl
  | .int _, .non => rfl | .int _, .bl _ => rfl | .int _, .int _ => rfl | .int _, .str _ => rfl | .int _, .tup _ => rfl | .int _, .lst _ => rfl
  | .str _, .non => rfl | .str _, .bl _ => rfl | .str _, .int _ => rfl | .str _, .tup _ => rfl | .str _, .lst _ => rfl
  | .tup _, .non => rfl | .tup _, .bl _ => rfl | .tup _, .int _ => rfl | .tup _, .str _ => rfl | .tup _, .lst _ => rfl
  | .lst _, .non => rfl | .lst _, .bl _ => rfl | .lst _, .int _ => rfl | .lst _, .str _ => rfl | .lst _, .tup _ => rfl
theorem toPys_eqv : ∀ xs ys : List D, PyData.eqvAll (toPys xs) (toPys ys) = D.eqvs xs ys
  | [], [] => rfl
  | [], _ :: _ => rfl
  | _ :: _, [] => rfl
  | x :: xs, y :: ys => by
    show (PyData.eqv (toPy x) (toPy y) && PyData.eqvAll (toPys xs) (toPys ys)) = (D.eqv x y && D.eqvs xs ys)
    rw [toPy_eqv x y, toPys_eqv xs ys]
end
end EvS

namespace EvS
open PySem PySem.Spec PyProof.Rows L2 Ev

/-- the law at hand: the text's written part, the defs' addresses, the lambdas, the code tables -/
structure Lw where
  P : Program
  w : World
  K : PySem.W.Frag
  mg : Str → Option Value
  base : Heap
  T : Tab
  fa : Nat → Addr
  ec : Nat → Addr
  lamOk : Nat → List Str → List Str → List Str → Arguments → Expr → Scope → Prop
  tabs : List (Addr × Str)

/-! ### keys -/
mutual
def toK : D → PySem.NestedKey
  | .non => .none
  | .bl b => .num (if b then 1 else 0)
  | .int i => .num i
  | .str s => .text ⟨s.toArray⟩
  | .tup xs => .tup (toKs xs)
  | .lst xs => .tup (toKs xs)
def toKs : List D → List PySem.NestedKey
  | [] => []
  | x :: xs => toK x :: toKs xs
end

/-- a dict with tuple keys, as it is laid: each entry's key, the key's place, its value -/
def DicO (P : Program) (w : World) (d : Addr) (xs : List (PySem.NestedKey × Addr × Value)) : HO :=
  .ext fun h => (d == sysModules) = false ∧ ∃ o es ep, h.get? d = some o ∧ o.ExactDict ∧ o.data = .dict es ep ∧ es.toList = xs.map (entryOfKey (nestedKind P w)) ∧ (xs.map (·.1)).Nodup

/-- an object that stands as it is -/
def stillO (a : Addr) (o : Obj) : HO := .frz o (.own a)
def Still (H : Hp) (a : Addr) (o : Obj) : Prop := H a = some (stillO a o)

/-- a code object of the name q, locked -/
def CodeAt (H : Hp) (c : Addr) (q : Str) : Prop := ∃ oc u vs t, H c = some (.frz oc u) ∧ oc.data = .fields vs ∧ vs[1]? = some (.str q t)
/-- a table of code objects: each one that it tells bears the name q -/
def TabF (H : Hp) (p : Addr × Str) : Prop := ∃ ps : Array Value, H p.1 = some (.tbl ps) ∧ TriplesOk ps.toList ∧ ∀ (pos : Pos) (cv : Value), codeAmong pos ps.toList = some cv → ∃ c, cv = .ref c ∧ CodeAt H c p.2
theorem CodeAt.fix {H H' : Hp} (e : ∀ a o, H a = some o → (∃ ob u, o = .frz ob u) → H' a = some o) {c : Addr} {q : Str} (h : CodeAt H c q) : CodeAt H' c q := by
  obtain ⟨oc, u, vs, t, h1, h2⟩ := h
  exact ⟨oc, u, vs, t, e _ _ h1 ⟨_, _, rfl⟩, h2⟩

section
variable (L : Lw)
/-- the object o is the lambda l with the cells cl, caps the captured names -/
def IsLam (H : Hp) (l : Nat) (caps : List Str) (o : Obj) (cl : List (Str × Addr)) : Prop := ∃ (ps N : List Str) (params : Arguments) (body : Expr) (scope : Scope) (qual : Str) (pm ctv : Value) (c' : Addr),
  L.lamOk l caps ps N params body scope ∧ (∀ x c, cl.lookup x = some c → x ∈ caps) ∧ (∀ x y c, cl.lookup x = some c → cl.lookup y = some c → x = y) ∧
  o = PySem.W.kla_obj "<lambda>" qual params body scope cl pm c' ctv ∧ CodeAt H c' qual
abbrev Mu := List (Option Addr)
mutual
/-- the value v stands at u -/
def RV (H : Hp) (μ : Mu) : Vl → V → Prop
  | .d x, u => RD L.K H x u
  | .fn g, u => g < L.T.fns.length ∧ u = .ref (L.fa g)
  | .ref r, u => r < μ.length ∧ (∀ a : Addr, μ[r]? = some (some a) → u = .ref a) ∧ ∃ a : Addr, u = .ref a
  | .dct kvs, u => ∃ a o, u = .ref a ∧ H a = some (.frz o (.dK (kvs.map fun p => (Sum.inr ⟨p.1.toArray⟩, V.int p.2))))
  | .clo l cs, u => ∃ f o cl caps, u = .ref f ∧ Still H f o ∧ IsLam L H l caps o cl ∧ RCl H μ cs caps cl
/-- the captured values stand in the cells -/
def RCl (H : Hp) (μ : Mu) : List Vl → List Str → List (Str × Addr) → Prop
  | [], ns, _ => ns = []
  | v :: vs, ns, cl => ∃ n r c oc val u, ns = n :: r ∧ cl.lookup n = some c ∧ Still H c oc ∧ oc.data = .cell (some val) ∧ RelV u val ∧ RV H μ v u ∧ RCl H μ vs r cl
end
def RVs (H : Hp) (μ : Mu) : List Vl → List V → Prop
  | [], us => us = []
  | v :: vs, us => ∃ u r, us = u :: r ∧ RV L H μ v u ∧ RVs H μ vs r

/-- the dict's pairs and its entries -/
def KVs (H : Hp) : List (D × D) → List (PySem.NestedKey × Addr × Value) → Prop
  | [], xs => xs = []
  | (k, v) :: r, xs => ∃ a val u xr, xs = (toK k, a, val) :: xr ∧ k.key = true ∧ RD L.K H k (.ref a) ∧ RelV u val ∧ RD L.K H v u ∧ KVs H r xr

/-- what stands in a cell of the store -/
def CellR (H : Hp) (μ : Mu) (r : Nat) : Cell → Prop
  | .dead => False
  | .lst xs => ∃ a vs, μ[r]? = some (some a) ∧ H a = some (.lst vs) ∧ xs.length ≤ line ∧ RDs L.K H xs vs
  | .dic kvs => ∃ a xs, μ[r]? = some (some a) ∧ H a = some (DicO L.P L.w a xs) ∧ kvs.length ≤ line ∧ KVs L H kvs xs
  | .ins _ _ => False
  | .fz xs => ∃ a o vs, μ[r]? = some (some a) ∧ H a = some (.frz o (.lst vs)) ∧ xs.length ≤ line ∧ RDs L.K H xs vs
  | .fdic kvs => ∃ a o xs, μ[r]? = some (some a) ∧ H a = some (.frz o (DicO L.P L.w a xs)) ∧ kvs.length ≤ line ∧ KVs L H kvs xs
/-- no table -/
def NoTbl : HO → Prop
  | .tbl _ => False
  | _ => True
/-- the store stands in the heap -/
structure Sim (H : Hp) (μ : Mu) (st : Sto) : Prop where
  len : μ.length = st.length
  inj : ∀ (i j : Nat) (a : Addr), μ[i]? = some (some a) → μ[j]? = some (some a) → i = j
  cell : ∀ (r : Nat) (c : Cell), st[r]? = some c → CellR L H μ r c
  some_ : ∀ (r : Nat) (a : Addr), μ[r]? = some (some a) → ∃ o, H a = some o ∧ NoTbl o
  tab : ∀ p ∈ L.tabs, TabF H p
end

/-- what a step may do: what is fixed stays; what no cell of ours stands at stays; cells may die, new ones come -/
structure Ext (H : Hp) (μ : Mu) (H' : Hp) (μ' : Mu) : Prop where
  im : ∀ a o, H a = some o → Fix o → H' a = some o
  fr : ∀ a o, H a = some o → NoTbl o → (∀ r : Nat, μ[r]? ≠ some (some a)) → H' a = some o
  ln : μ.length ≤ μ'.length
  al : ∀ (r : Nat) (a : Addr), r < μ.length → μ'[r]? = some (some a) → μ[r]? = some (some a)
  nw : ∀ (r : Nat) (a : Addr), μ'[r]? = some (some a) → (∃ r' : Nat, μ[r']? = some (some a)) ∨ H a = none
  tb : ∀ a ps, H a = some (.tbl ps) → ∃ ps', H' a = some (.tbl ps')

theorem Fix.noTbl {o : HO} (h : Fix o) : NoTbl o := by
  cases o <;> first | trivial | exact h.elim
section
variable {L : Lw} {H H1 H2 H' : Hp} {μ μ1 μ2 μ' : Mu}
theorem Ext.refl (H : Hp) (μ : Mu) : Ext H μ H μ := ⟨fun _ _ h _ => h, fun _ _ h _ _ => h, Nat.le_refl _, fun _ _ _ h => h, fun r _ h => .inl ⟨r, h⟩, fun _ ps h => ⟨ps, h⟩⟩
theorem Ext.trans (a : Ext H μ H1 μ1) (b : Ext H1 μ1 H2 μ2) : Ext H μ H2 μ2 where
  im := fun c o h f => b.im c o (a.im c o h f) f
  fr := fun c o h nt n => b.fr c o (a.fr c o h nt n) nt fun r e => by
    rcases a.nw r c e with ⟨r', e'⟩ | e'
    · exact n r' e'
    · rw [h] at e'
      cases e'
  ln := Nat.le_trans a.ln b.ln
  al := fun r c h e => a.al r c h (b.al r c (Nat.lt_of_lt_of_le h a.ln) e)
  nw := fun r c e => by
    rcases b.nw r c e with ⟨r', e'⟩ | e'
    · exact a.nw r' c e'
    · by_cases hm : ∃ r' : Nat, μ[r']? = some (some c)
      · exact .inl hm
      · cases q : H c with
        | none => exact .inr rfl
        | some o =>
          by_cases nt : NoTbl o
          · have z := a.fr c o q nt fun r' e2 => hm ⟨r', e2⟩
            rw [e'] at z
            cases z
          · cases o with
            | tbl ps =>
              obtain ⟨ps', z⟩ := a.tb c ps q
              rw [e'] at z
              cases z
            | _ => exact absurd trivial nt
  tb := fun c ps h => by
    obtain ⟨ps', h'⟩ := a.tb c ps h
    exact b.tb c ps' h'
theorem RD.ext {K : PySem.W.Frag} (e : Ext H μ H' μ') {x : D} {v : V} (h : RD K H x v) : RD K H' x v := h.fix e.im
theorem RDs.ext {K : PySem.W.Frag} (e : Ext H μ H' μ') {x : List D} {v : List V} (h : RDs K H x v) : RDs K H' x v := h.fix e.im
theorem Still.ext (e : Ext H μ H' μ') {a : Addr} {o : Obj} (h : Still H a o) : Still H' a o := e.im _ _ h trivial
theorem IsLam.ext (e : Ext H μ H' μ') {l : Nat} {caps : List Str} {o : Obj} {cl : List (Str × Addr)} (h : IsLam L H l caps o cl) : IsLam L H' l caps o cl := by
  obtain ⟨ps, N, params, body, scope, qual, pm, ctv, c', h0, h1, h2, h3, h4⟩ := h
  exact ⟨ps, N, params, body, scope, qual, pm, ctv, c', h0, h1, h2, h3, h4.fix fun a o h z => e.im a o h (by obtain ⟨_, _, rfl⟩ := z; trivial)⟩
mutual
theorem RV.ext (e : Ext H μ H' μ') : ∀ {v : Vl} {u : V}, RV L H μ v u → RV L H' μ' v u
  | .d _, _, h => RD.ext e h
  | .fn _, _, h => h
  | .ref r, _, ⟨h1, h2, h3⟩ => ⟨Nat.lt_of_lt_of_le h1 e.ln, fun a q => h2 a (e.al r a h1 q), h3⟩
  | .dct _, _, ⟨a, o, h1, h2⟩ => ⟨a, o, h1, e.im _ _ h2 trivial⟩
  | .clo _ _, _, ⟨f, o, cl, caps, h1, h2, h3, h4⟩ => ⟨f, o, cl, caps, h1, h2.ext e, h3.ext e, RCl.ext e h4⟩
theorem RCl.ext (e : Ext H μ H' μ') : ∀ {vs : List Vl} {ns : List Str} {cl : List (Str × Addr)}, RCl L H μ vs ns cl → RCl L H' μ' vs ns cl
  | [], _, _, h => h
  | _ :: _, _, _, ⟨n, r, c, oc, val, u, h1, h2, h3, h4, h5, h6, h7⟩ => ⟨n, r, c, oc, val, u, h1, h2, h3.ext e, h4, h5, RV.ext e h6, RCl.ext e h7⟩
end
theorem RVs.ext (e : Ext H μ H' μ') : ∀ {vs : List Vl} {us : List V}, RVs L H μ vs us → RVs L H' μ' vs us
  | [], _, h => h
  | _ :: _, _, ⟨u, r, h1, h2, h3⟩ => ⟨u, r, h1, RV.ext e h2, RVs.ext e h3⟩
theorem KVs.ext (e : Ext H μ H' μ') : ∀ {kvs : List (D × D)} {xs : List (PySem.NestedKey × Addr × Value)}, KVs L H kvs xs → KVs L H' kvs xs
  | [], _, h => h
  | (_, _) :: _, _, ⟨a, val, u, xr, h1, h2, h3, h4, h5, h6⟩ => ⟨a, val, u, xr, h1, h2, h3.ext e, h4, h5.ext e, KVs.ext e h6⟩
end
end EvS

namespace EvS
open PySem PySem.Spec PyProof.Rows L2 Ev

section
variable (L : Lw)
/-- an exception of the class c with the fields fs -/
def ExR (H : Hp) (c : Nat) (fs : List D) (cls : Value) (d : Option Addr) : Prop := cls = .ref (L.ec c) ∧ fs = [] ∧ d = none

/-- what is wanted of a result -/
def RQ {α : Type} (H : Hp) (μ : Mu) (E : XK) (r : R α) (Q : α → Sto → Hp → Mu → Prop) : Prop := match r with
  | .ok a st => ∀ H' μ', Ext H μ H' μ' → Sim L H' μ' st → Q a st H' μ'
  | .ex c fs st => ∀ H' μ' cls d, Ext H μ H' μ' → Sim L H' μ' st → ExR L H' c fs cls d → E cls d H'
  | .no => False
/-- a value is handed on -/
abbrev QV (Q : VK) : Vl → Sto → Hp → Mu → Prop := fun v _ H' μ' => ∀ u, RV L H' μ' v u → Q u H'
/-- the names' values -/
def EnR (H : Hp) (μ : Mu) (ρ : En) (σ : L2.St) : Prop := ρ.length = σ.length ∧ ∀ (i : Nat) (v : Vl), ρ[i]? = some (some v) → ∃ u, σ[i]? = some (some u) ∧ RV L H μ v u
end

section
variable {L : Lw} {H H1 H' : Hp} {μ μ1 μ' : Mu} {E : XK}
theorem RQ.mono {α : Type} {r : R α} {Q Q' : α → Sto → Hp → Mu → Prop} (h : RQ L H μ E r Q) (hq : ∀ a st H' μ', Ext H μ H' μ' → Sim L H' μ' st → Q a st H' μ' → Q' a st H' μ') : RQ L H μ E r Q' := by
  cases r with
  | ok a st => exact fun H' μ' e s => hq a st H' μ' e s (h H' μ' e s)
  | ex c fs st => exact h
  | no => exact h
theorem RQ.ext {α : Type} {r : R α} {Q : α → Sto → Hp → Mu → Prop} (e : Ext H μ H1 μ1) (h : RQ L H μ E r Q) : RQ L H1 μ1 E r Q := by
  cases r with
  | ok a st => exact fun H' μ' e' s => h H' μ' (e.trans e') s
  | ex c fs st => exact fun H' μ' cls d e' s x => h H' μ' cls d (e.trans e') s x
  | no => exact h
theorem RQ.bind {α β : Type} {r : R α} {f : α → Sto → R β} {Q : β → Sto → Hp → Mu → Prop} (h : RQ L H μ E (r.bind f) Q) :
    RQ L H μ E r fun a st H' μ' => RQ L H' μ' E (f a st) Q := by
  cases r with
  | ok a st => exact fun H' μ' e _ => RQ.ext e h
  | ex c fs st => exact h
  | no => exact h
theorem RQ.ok {α : Type} {a : α} {st : Sto} {Q : α → Sto → Hp → Mu → Prop} (h : RQ L H μ E (.ok a st) Q) (s : Sim L H μ st) : Q a st H μ := h H μ (Ext.refl _ _) s
theorem EnR.ext {ρ : En} {σ : L2.St} (e : Ext H μ H' μ') (h : EnR L H μ ρ σ) : EnR L H' μ' ρ σ := ⟨h.1, fun i v hv => by
  obtain ⟨u, h1, h2⟩ := h.2 i v hv
  exact ⟨u, h1, h2.ext e⟩⟩
theorem En.get_some {ρ : En} {i : Nat} {v : Vl} (h : ρ.get i = some v) : ρ[i]? = some (some v) := by
  unfold En.get at h
  cases e : ρ[i]? with
  | none => rw [e] at h; cases h
  | some o =>
    rw [e] at h
    cases o with
    | none => cases h
    | some w => cases h; rfl

/-! ### new things -/
/-- a fixed thing is laid -/
theorem Ext.fix {p : Addr} {o : HO} (hp : H p = none) : Ext H μ (upd H p o) μ :=
  ⟨fun a u h _ => by rw [upd_ne (ne_of_none h hp)]; exact h, fun a u h _ _ => by rw [upd_ne (ne_of_none h hp)]; exact h, Nat.le_refl _, fun _ _ _ h => h, fun r _ h => .inl ⟨r, h⟩, fun a ps h => ⟨ps, by rw [upd_ne (ne_of_none h hp)]; exact h⟩⟩
theorem TabF.ext (e : ∀ a o, H a = some o → Fix o → H' a = some o) (t : ∀ a ps, H a = some (.tbl ps) → H' a = some (.tbl ps)) {p : Addr × Str} (h : TabF H p) : TabF H' p := by
  obtain ⟨ps, h1, h2, h3⟩ := h
  refine ⟨ps, t _ _ h1, h2, fun pos cv hc => ?_⟩
  obtain ⟨c, e1, e2⟩ := h3 pos cv hc
  exact ⟨c, e1, e2.fix fun a o h z => e a o h (by obtain ⟨_, _, rfl⟩ := z; trivial)⟩
theorem CellR.keep {r : Nat} {c : Cell} (e : Ext H μ H' μ') (hμ : ∀ a : Addr, μ[r]? = some (some a) → μ'[r]? = some (some a) ∧ ∀ o, H a = some o → H' a = some o) (h : CellR L H μ r c) : CellR L H' μ' r c := by
  cases c with
  | dead => exact h
  | lst xs =>
    obtain ⟨a, vs, h1, h2, h3, h4⟩ := h
    obtain ⟨h5, h6⟩ := hμ a h1
    exact ⟨a, vs, h5, h6 _ h2, h3, h4.ext e⟩
  | dic kvs =>
    obtain ⟨a, xs, h1, h2, h3, h4⟩ := h
    obtain ⟨h5, h6⟩ := hμ a h1
    exact ⟨a, xs, h5, h6 _ h2, h3, h4.ext e⟩
  | ins c fs => exact h.elim
  | fz xs =>
    obtain ⟨a, o, vs, h1, h2, h3, h4⟩ := h
    obtain ⟨h5, h6⟩ := hμ a h1
    exact ⟨a, o, vs, h5, h6 _ h2, h3, h4.ext e⟩
  | fdic kvs =>
    obtain ⟨a, o, vs, h1, h2, h3, h4⟩ := h
    obtain ⟨h5, h6⟩ := hμ a h1
    exact ⟨a, o, vs, h5, h6 _ h2, h3, h4.ext e⟩
theorem Sim.fix {p : Addr} {o : HO} {st : Sto} (hp : H p = none) (s : Sim L H μ st) : Sim L (upd H p o) μ st where
  len := s.len
  inj := s.inj
  cell := fun r c h => CellR.keep (Ext.fix hp) (fun a h => ⟨h, fun u q => by rw [upd_ne (ne_of_none q hp)]; exact q⟩) (s.cell r c h)
  some_ := fun r a h => by
    obtain ⟨u, h1, h2⟩ := s.some_ r a h
    exact ⟨u, by rw [upd_ne (ne_of_none h1 hp)]; exact h1, h2⟩
  tab := fun q hq => TabF.ext (fun a u h _ => by rw [upd_ne (ne_of_none h hp)]; exact h) (fun a ps h => by rw [upd_ne (ne_of_none h hp)]; exact h) (s.tab q hq)
/-- a new cell is laid -/
theorem Ext.new {p : Addr} {o : HO} (hp : H p = none) : Ext H μ (upd H p o) (μ ++ [some p]) :=
  ⟨fun a u h _ => by rw [upd_ne (ne_of_none h hp)]; exact h, fun a u h _ _ => by rw [upd_ne (ne_of_none h hp)]; exact h, by simp, fun r a h e => by rw [List.getElem?_append_left h] at e; exact e, fun r a h => by
    by_cases hr : r < μ.length
    · rw [List.getElem?_append_left hr] at h
      exact .inl ⟨r, h⟩
    · rw [List.getElem?_append_right (by omega)] at h
      have : r - μ.length = 0 := by
        cases q : r - μ.length with
        | zero => rfl
        | succ n => rw [q] at h; simp at h
      rw [this] at h
      simp at h
      subst h
      exact .inr hp, fun a ps h => ⟨ps, by rw [upd_ne (ne_of_none h hp)]; exact h⟩⟩
theorem Sim.new {p : Addr} {o : HO} {c : Cell} {st : Sto} (hp : H p = none) (hm : NoTbl o) (s : Sim L H μ st) (hc : CellR L (upd H p o) (μ ++ [some p]) μ.length c) : Sim L (upd H p o) (μ ++ [some p]) (st ++ [c]) where
  len := by simp [s.len]
  inj := fun i j a h1 h2 => by
    have lt : ∀ {i : Nat}, (μ ++ [some p])[i]? = some (some a) → (i < μ.length ∧ μ[i]? = some (some a)) ∨ (i = μ.length ∧ a = p) := fun {i} h => by
      by_cases hr : i < μ.length
      · rw [List.getElem?_append_left hr] at h
        exact .inl ⟨hr, h⟩
      · rw [List.getElem?_append_right (by omega)] at h
        cases q : i - μ.length with
        | zero => rw [q] at h; simp at h; exact .inr ⟨by omega, h.symm⟩
        | succ n => rw [q] at h; simp at h
    have np : ∀ {i : Nat}, μ[i]? = some (some p) → False := fun {i} h => by
      obtain ⟨u, h1, _⟩ := s.some_ i p h
      rw [hp] at h1
      cases h1
    rcases lt h1 with ⟨l1, e1⟩ | ⟨l1, e1⟩ <;> rcases lt h2 with ⟨l2, e2⟩ | ⟨l2, e2⟩
    · exact s.inj i j a e1 e2
    · subst e2; exact (np e1).elim
    · subst e1; exact (np e2).elim
    · omega
  cell := fun r c' h => by
    by_cases hr : r < st.length
    · rw [List.getElem?_append_left hr] at h
      exact CellR.keep (Ext.new hp) (fun a h => ⟨by rw [List.getElem?_append_left (by rw [s.len]; exact hr)]; exact h, fun u q => by rw [upd_ne (ne_of_none q hp)]; exact q⟩) (s.cell r c' h)
    · rw [List.getElem?_append_right (by omega)] at h
      cases q : r - st.length with
      | zero =>
        rw [q] at h
        simp at h
        subst h
        have e : r = μ.length := by have := s.len; omega
        rw [e]
        exact hc
      | succ n => rw [q] at h; simp at h
  some_ := fun r a h => by
    by_cases hr : r < μ.length
    · rw [List.getElem?_append_left hr] at h
      obtain ⟨u, h1, h2⟩ := s.some_ r a h
      exact ⟨u, by rw [upd_ne (ne_of_none h1 hp)]; exact h1, h2⟩
    · rw [List.getElem?_append_right (by omega)] at h
      cases q : r - μ.length with
      | zero =>
        rw [q] at h
        simp at h
        subst h
        exact ⟨o, upd_same, hm⟩
      | succ n => rw [q] at h; simp at h
  tab := fun q hq => TabF.ext (fun a u h _ => by rw [upd_ne (ne_of_none h hp)]; exact h) (fun a ps h => by rw [upd_ne (ne_of_none h hp)]; exact h) (s.tab q hq)
/-- a cell is written -/
theorem mut_not_fix {o u : HO} {a : Addr} (h : H a = some o) (hm : Mut (some o)) (h' : H a = some u) : ¬ Fix u := by
  rw [h] at h'
  cases h'
  cases o <;> first | exact hm.elim | exact fun z => z
theorem mut_noTbl {o : HO} (hm : Mut (some o)) : NoTbl o := by
  cases o <;> first | trivial | exact hm.elim
theorem Ext.put {st : Sto} {r : Nat} {a : Addr} {o o0 : HO} (s : Sim L H μ st) (hr : μ[r]? = some (some a)) (h0 : H a = some o0) (hm : Mut (some o0)) : Ext H μ (upd H a o) μ := by
  refine ⟨fun b u h f => ?_, fun b u h _ n => ?_, Nat.le_refl _, fun _ _ _ h => h, fun r _ h => .inl ⟨r, h⟩, fun b ps h => ⟨ps, ?_⟩⟩
  · rw [upd_ne]
    · exact h
    · rintro rfl
      exact mut_not_fix h0 hm h f
  · rw [upd_ne]
    · exact h
    · rintro rfl
      exact n r hr
  · rw [upd_ne]
    · exact h
    · rintro rfl
      rw [h0] at h
      cases h
      exact hm
theorem Sim.put {st : Sto} {r : Nat} {a : Addr} {o o0 : HO} {c : Cell} (s : Sim L H μ st) (hr : μ[r]? = some (some a)) (h0 : H a = some o0) (hm0 : Mut (some o0)) (hm : NoTbl o) (hc : CellR L (upd H a o) μ r c) : Sim L (upd H a o) μ (st.set r c) := by
  have e : Ext H μ (upd H a o) μ := Ext.put s hr h0 hm0
  refine ⟨by simp [s.len], s.inj, fun r' c' h => ?_, fun r' b h => ?_, fun q hq => ?_⟩
  · by_cases hrr : r = r'
    · subst hrr
      by_cases hl : r < st.length
      · rw [List.getElem?_set_self hl] at h
        cases h
        exact hc
      · rw [List.getElem?_eq_none (by simpa using hl)] at h
        cases h
    · rw [List.getElem?_set_ne hrr] at h
      refine CellR.keep e (fun b hb => ⟨hb, fun u q => ?_⟩) (s.cell r' c' h)
      rw [upd_ne]
      · exact q
      · rintro rfl
        exact hrr (s.inj r r' _ hr hb)
  · by_cases hb : b = a
    · subst hb
      exact ⟨o, upd_same, hm⟩
    · obtain ⟨u, h1, h2⟩ := s.some_ r' b h
      exact ⟨u, by rw [upd_ne hb]; exact h1, h2⟩
  · refine TabF.ext (fun b u h f => e.im b u h f) (fun b ps h => ?_) (s.tab q hq)
    rw [upd_ne]
    · exact h
    · rintro rfl
      rw [h0] at h
      cases h
      exact hm0
end
end EvS

namespace EvS
open PySem PySem.Spec PyProof.Rows L2 Ev

/-! ### a new list is locked -/
def QL (Q : VK) : VK := fun v H' => Q v H' ∨ ∃ p u, v = .ref p ∧ H' p = some u ∧ Mut (some u) ∧ ∀ od, Q v (upd H' p (.frz od u))
theorem _root_.L2.EP.lk {X : L2.Cx} {pins : List (Addr × Obj)} {σ : L2.St} {Q : VK} {u : Value} {s : Shared} (h : EP X pins σ (QL Q) u s) : EP X pins σ Q u s := by
  obtain ⟨v, H', I, r, q⟩ := h
  rcases q with q | ⟨p, w, e, h1, h2, q⟩
  · exact ⟨v, H', I, r, q⟩
  · obtain ⟨od, I'⟩ := I.lock h1 h2
    exact ⟨v, _, I', r, q od⟩
theorem EP_lkw {X : L2.Cx} {pins : List (Addr × Obj)} {σ : L2.St} {Q : VK} {A : Around} {M : Model} {t : Sem Value} {E : Value → Shared → Prop} {s : Shared} (h : wpAny M A t (EP X pins σ (QL Q)) E s) : wpAny M A t (EP X pins σ Q) E s := thn h fun _ _ h' => EP.lk h'
theorem _root_.L2.PE.lk {X : L2.Cx} {e : Expr} {t : TE} (h : PE X e t) : PE X e (fun σ H Q => t σ H (QL Q)) :=
  ⟨fun pins s σ H Q I hq => thn (h.run pins s σ H (QL Q) I hq) fun v s' h' => EP.lk h'⟩
theorem _root_.L2.PE.imp {X : L2.Cx} {e : Expr} {t t' : TE} (h : PE X e t) (ht : ∀ σ H Q, t' σ H Q → t σ H Q) : PE X e t' := ⟨fun pins s σ H Q I hq => h.run pins s σ H Q I (ht σ H Q hq)⟩
theorem _root_.L2.PT.imp {X : L2.Cx} {e : Expr} {t t' : TT} (h : PT X e t) (ht : ∀ σ H Q, t' σ H Q → t σ H Q) : PT X e t' := ⟨fun pins s σ H Q I hq => h.run pins s σ H Q I (ht σ H Q hq)⟩
theorem _root_.L2.PW.imp {X : L2.Cx} {e : Expr} {t t' : TT} (h : PW X e t) (ht : ∀ σ H Q, t' σ H Q → t σ H Q) : PW X e t' := ⟨fun wh pins s σ H Q I hq => h.run wh pins s σ H Q I (ht σ H Q hq)⟩
theorem _root_.L2.PA.imp {X : L2.Cx} {e : List Expr} {t t' : TA} (h : PA X e t) (ht : ∀ σ H Q, t' σ H Q → t σ H Q) : PA X e t' := ⟨fun pos pins s σ H Q I hq => h.run pos pins s σ H Q I (ht σ H Q hq)⟩
theorem _root_.L2.PS.imp {X : L2.Cx} {e : Stmt} {t t' : TS} (h : PS X e t) (ht : ∀ D σ H, t' D σ H → t D σ H) : PS X e t' := ⟨fun pins s σ H D I hq => h.run pins s σ H D I (ht D σ H hq)⟩
theorem _root_.L2.PSs.imp {X : L2.Cx} {e : List Stmt} {t t' : TS} (h : PSs X e t) (ht : ∀ D σ H, t' D σ H → t D σ H) : PSs X e t' := ⟨fun pins s σ H D I hq => h.run pins s σ H D I (ht D σ H hq)⟩
theorem _root_.L2.PG.imp {X : L2.Cx} {e : Expr} {t t' : TG} (h : PG X e t) (ht : ∀ v σ H Q, t' v σ H Q → t v σ H Q) : PG X e t' := ⟨fun pins s σ H v u Q I r hq => h.run pins s σ H v u Q I r (ht v σ H Q hq)⟩
theorem _root_.L2.PGs.imp {X : L2.Cx} {e : List Expr} {t t' : TGs} (h : PGs X e t) (ht : ∀ v σ H Q, t' v σ H Q → t v σ H Q) : PGs X e t' := ⟨fun pins s σ H v u Q I r hq => h.run pins s σ H v u Q I r (ht v σ H Q hq)⟩
theorem OpR.lk {X : L2.Cx} {f : Value → Value → Sem Value} {r : R2} (h : OpR X f r) : OpR X f (fun x y H Q => r x y H (QL Q)) :=
  fun pins s σ H x y v u Q I rx ry hq => thn (h pins s σ H x y v u (QL Q) I rx ry hq) fun v s' h' => EP.lk h'
theorem OpR.imp {X : L2.Cx} {f : Value → Value → Sem Value} {r r' : R2} (h : OpR X f r) (hr : ∀ x y H Q, r' x y H Q → r x y H Q) : OpR X f r' :=
  fun pins s σ H x y v u Q I rx ry hq => h pins s σ H x y v u Q I rx ry (hr _ _ _ _ hq)

/-- nothing new, or one fixed thing -/
def New1 (H H' : Hp) : Prop := H' = H ∨ ∃ p o, H p = none ∧ Fix o ∧ H' = upd H p o
/-- the data z is handed on -/
def GD (K : PySem.W.Frag) (H : Hp) (z : D) (Q : VK) : Prop := ∀ H' v, RD K H' z v → New1 H H' → Q v H'
section
variable {K : PySem.W.Frag} {H : Hp} {Q : VK}
theorem GD.val {z : D} {v : V} (h : GD K H z Q) (r : RD K H z v) : Q v H := h H v r (.inl rfl)
theorem New1.fix {H' : Hp} (n : New1 H H') : ∀ a o, H a = some o → H' a = some o := by
  rcases n with rfl | ⟨p, o, h1, h2, rfl⟩
  · exact fun _ _ h => h
  · exact fun a u h => by rw [upd_ne (ne_of_none h h1)]; exact h
theorem GD.tup {xs : List D} {vs : List V} (h : GD K H (.tup xs) Q) (hl : xs.length ≤ line) (r : RDs K H xs vs) {p : Addr} (hp : H p = none) : Q (.ref p) (upd H p (.tup vs)) := by
  refine h _ _ ⟨p, vs, rfl, SqT.of upd_same, hl, r.fix fun a o q _ => ?_⟩ (.inr ⟨p, .tup vs, hp, trivial, rfl⟩)
  rw [upd_ne (ne_of_none q hp)]
  exact q
theorem GD.lst {xs : List D} {vs : List V} (h : GD K H (.lst xs) Q) (hl : xs.length ≤ line) (r : RDs K H xs vs) {p : Addr} (hp : H p = none) : QL Q (.ref p) (upd H p (.lst vs)) := by
  refine .inr ⟨p, .lst vs, rfl, upd_same, trivial, fun od => ?_⟩
  rw [upd_upd]
  refine h _ _ ⟨p, vs, rfl, .inl ⟨od, upd_same⟩, hl, r.fix fun a o q _ => ?_⟩ (.inr ⟨p, .frz od (.lst vs), hp, trivial, rfl⟩)
  rw [upd_ne (ne_of_none q hp)]
  exact q
theorem New1.ext {L : Lw} {H' : Hp} {μ : Mu} {st : Sto} (n : New1 H H') (s : Sim L H μ st) : Ext H μ H' μ ∧ Sim L H' μ st := by
  rcases n with rfl | ⟨p, o, h1, h2, rfl⟩
  · exact ⟨Ext.refl _ _, s⟩
  · exact ⟨Ext.fix h1, s.fix h1⟩
end
theorem len_vs {K : PySem.W.Frag} {H : Hp} {xs : List D} {vs : List V} (r : RDs K H xs vs) (h : xs.length ≤ line) : vs.length ≤ sizeLine := by rw [r.len, ← line_eq]; exact h

/-! ### operators -/
def pyOp : Op → Operator
  | .add => .Add | .sub => .Sub | .mul => .Mult | .fdiv => .FloorDiv | .mod => .Mod | .pow => .Pow
section
variable {X : L2.Cx}
/-- list + list, both read -/
def rCatS (K : PySem.W.Frag) : R2 := fun x y H Q => ∃ l b xs zs, x = .ref l ∧ y = .ref b ∧ SqL K H l xs ∧ SqL K H b zs ∧ xs.length + zs.length ≤ sizeLine ∧ ∀ p, H p = none → Q (.ref p) (upd H p (.lst (xs ++ zs)))
theorem op_catS : OpR X (binaryOp .Add) (rCatS X.K) := by
  intro pins s σ H x y v u Q I rx ry h
  obtain ⟨l, b, xs, zs, rfl, rfl, hl, hb, hz, q⟩ := h
  cases rx
  cases ry
  obtain ⟨vs, r1, ⟨⟨c1, d1, t1, s1⟩, n1, e1, k1, _, a1⟩, z1⟩ := I.list hl
  obtain ⟨ws, r2, ⟨⟨c2, d2, t2, s2⟩, n2, e2, k2, _, a2⟩, z2⟩ := I.list hb
  simp only at k1 a1 k2 a2
  subst k1 a1 k2 a2
  have l1 := r1.length
  have l2 := r2.length
  have e : vs.toArray ++ ws.toArray = (vs ++ ws).toArray := by simp
  refine concat_meets ⟨_, e1, rfl⟩ ⟨_, e2, rfl⟩ noFill_list_add seq_list_add PySem.F.slot_list_add PySem.F.entry_list_add (PySem.F.args_list_add_2 _ _) (list_addW l b vs.toArray ws.toArray n1 n2 d1 d2 s1 s2 (by simp only [List.size_toArray]; omega)) ⟨e1, e2, ?_⟩
  rw [e]
  exact ⟨.ref _, _, I.lnew (t' := s.toks) (r1.append r2) (by rw [List.length_append]; omega), rfl, q _ I.fresh⟩
theorem foldl_app (a : Array Nat) : ∀ (k : Nat) (acc : Array Nat), (List.replicate k a).foldl (· ++ ·) acc = acc ++ (Ev.rep k a.toList).toArray
  | 0, acc => by simp [Ev.rep]
  | k + 1, acc => by
    rw [List.replicate_succ, List.foldl_cons, foldl_app a k]
    show _ = acc ++ (a.toList ++ Ev.rep k a.toList).toArray
    rw [Array.append_assoc]
    refine congrArg (acc ++ ·) (Array.ext' ?_)
    simp
theorem len_rep {α : Type} (xs : List α) : ∀ k : Nat, (Ev.rep k xs).length = xs.length * k
  | 0 => rfl
  | k + 1 => by
    show (xs ++ Ev.rep k xs).length = _
    rw [List.length_append, len_rep xs k, Nat.mul_succ]
    omega
theorem mem_rep {α : Type} {xs : List α} {x : α} : ∀ {k : Nat}, x ∈ Ev.rep k xs → x ∈ xs
  | 0, h => by simp [Ev.rep] at h
  | k + 1, h => by
    rcases List.mem_append.mp (show x ∈ xs ++ Ev.rep k xs from h) with h | h
    · exact h
    · exact mem_rep h
theorem txt_mul (a : List Nat) (b : Int) : Txt.mul ⟨a.toArray⟩ b = ⟨(Ev.rep b.toNat a).toArray⟩ := by
  unfold Txt.mul
  by_cases h : b < 1
  · rw [if_pos h]
    have e : b.toNat = 0 := by omega
    rw [e]
    rfl
  · rw [if_neg h]
    split
    · rename_i h2
      rw [Bool.or_eq_true] at h2
      rcases h2 with h2 | h2
      · have e : b = 1 := by simpa using h2
        subst e
        show _ = (⟨(a ++ []).toArray⟩ : Str)
        rw [List.append_nil]
      · have e : a = [] := by
          have e : a.length = 0 := by
            have := eq_of_beq h2
            simpa [Str.length] using this
          exact List.eq_nil_of_length_eq_zero e
        subst e
        have : Ev.rep b.toNat ([] : List Nat) = [] := by
          apply List.eq_nil_of_length_eq_zero
          rw [len_rep]
          simp
        rw [this]
    · have := foldl_app a.toArray b.toNat #[]
      rw [this]
      simp
/-- text * int -/
def rMulS : R2 := fun x y H Q => ∃ a k, x = .str ⟨a.toArray⟩ ∧ y = .int k ∧ k.natAbs < 1000000 ∧ a.length * k.toNat ≤ line ∧ Q (.str ⟨(Ev.rep k.toNat a).toArray⟩) H
theorem op_mulS : OpR X (binaryOp .Mult) rMulS := by
  intro pins s σ H x y v u Q I rx ry h
  obtain ⟨a, k, rfl, rfl, hk, hz, q⟩ := h
  obtain ⟨t, rfl⟩ := rx
  obtain ⟨t', rfl⟩ := ry
  have hz' : a.length * k.toNat ≤ 16777216 := hz
  refine SB.mul ⟨?_, fun h1 h2 => ?_, fun h1 h2 => ?_⟩ fun t2 k2 => ⟨.str (Txt.mul ⟨a.toArray⟩ k), H, I.tok _, ⟨t2, rfl⟩, ?_⟩
  · rw [Bool.or_eq_false_iff]
    exact ⟨decide_eq_false (by omega), decide_eq_false (by omega)⟩
  · show ¬ (((⟨a.toArray⟩ : Str).length : Int) > (2 ^ 63 - 1) / k)
    have e : (⟨a.toArray⟩ : Str).length = a.length := by simp [Str.length]
    rw [e]
    intro hgt
    have hk1 : 1 ≤ k := by omega
    have h3 : (a.length : Int) * k ≤ 16777216 := by
      have h4 : ((a.length * k.toNat : Nat) : Int) ≤ 16777216 := by omega
      have h5 : ((a.length * k.toNat : Nat) : Int) = (a.length : Int) * k := by
        rw [Int.natCast_mul, Int.toNat_of_nonneg (by omega)]
      omega
    have h6 : ((a.length : Int)) ≤ (2 ^ 63 - 1) / k := by
      rw [Int.le_ediv_iff_mul_le (by omega)]
      omega
    omega
  · show PySem.Builtin.Str.tooLong _ = false
    have e : (⟨a.toArray⟩ : Str).length = a.length := by simp [Str.length]
    rw [e]
    unfold PySem.Builtin.Str.tooLong
    exact decide_eq_false (by rw [sizeLine_eq]; omega)
  · rw [txt_mul]
    exact q
end
end EvS

namespace EvS
open PySem PySem.Spec PyProof.Rows L2 Ev
/-! ### objects held for a while -/
abbrev Hl := List (Addr × Obj)
def held (A : Hl) (H : Hp) : Hp := fun b => match A.lookup b with
  | some o => some (stillO b o)
  | none => H b
def freed (A : Hl) (H : Hp) : Hp := fun b => match A.lookup b with
  | some _ => none
  | none => H b
def kept (A : Hl) (H H' : Hp) : Hp := fun b => match A.lookup b with
  | some _ => H b
  | none => H' b
section
variable {P : Program} {w : World} {A : Hl} {H H' : Hp} {h h' : Heap} {fs ex : List Addr}
theorem held_in {b : Addr} {o : Obj} (e : A.lookup b = some o) : held A H b = some (stillO b o) := by unfold held; rw [e]
theorem held_out {b : Addr} (e : A.lookup b = none) : held A H b = H b := by unfold held; rw [e]
theorem freed_in {b : Addr} {o : Obj} (e : A.lookup b = some o) : freed A H b = none := by unfold freed; rw [e]
theorem freed_out {b : Addr} (e : A.lookup b = none) : freed A H b = H b := by unfold freed; rw [e]
theorem kept_in {b : Addr} {o : Obj} (e : A.lookup b = some o) : kept A H H' b = H b := by unfold kept; rw [e]
theorem kept_out {b : Addr} (e : A.lookup b = none) : kept A H H' b = H' b := by unfold kept; rw [e]
theorem still_ok {b : Addr} {o : Obj} (e : h.get? b = some o) : ObjOk P w H h b (stillO b o) := ⟨e, o, e⟩
/-- they stand, untracked -/
def Stand (A : Hl) (H : Hp) (h : Heap) : Prop := ∀ a o, A.lookup a = some o → h.get? a = some o ∧ H a = none
def Held (A : Hl) (H : Hp) : Prop := ∀ a o, A.lookup a = some o → Still H a o
theorem held_held : Held A (held A H) := fun a o e => held_in e
theorem out_of (S : Stand A H h) {b : Addr} {u : HO} (e : H b = some u) : A.lookup b = none := by
  cases q : A.lookup b with
  | none => rfl
  | some o =>
    rw [(S b o q).2] at e
    cases e
theorem hok_held (k : HOk P w H h) (S : Stand A H h) : HOk P w (held A H) h := fun b u e => by
  cases q : A.lookup b with
  | some o =>
    rw [held_in q] at e
    cases e
    exact still_ok (S b o q).1
  | none =>
    rw [held_out q] at e
    exact (k b u e).stay (fun _ _ _ z => z) (fun c z => by rw [held_out (out_of S z)]; exact z) fun c xs z => by rw [held_out (out_of S z)]; exact z
theorem out_held (K : Held A H) {b : Addr} {u : HO} (e : H b = some u) (n : ∀ o, u ≠ stillO b o) : A.lookup b = none := by
  cases q : A.lookup b with
  | none => rfl
  | some o =>
    have z : H b = some (stillO b o) := K b o q
    rw [z] at e
    exact absurd (Option.some.inj e).symm (n o)
theorem hok_freed (k : HOk P w H h) (K : Held A H) : HOk P w (freed A H) h := fun b u e => by
  cases q : A.lookup b with
  | some o =>
    rw [freed_in q] at e
    cases e
  | none =>
    rw [freed_out q] at e
    exact (k b u e).stay (fun _ _ _ z => z) (fun c z => by rw [freed_out (out_held K z fun o => by intro h; cases h)]; exact z) fun c xs z => by rw [freed_out (out_held K z fun o => by intro h; cases h)]; exact z
theorem held_stays (u : Un fs ex (held A H) H' h h') : Held A H' := fun a o e => u.frzs a o _ (held_in e)
theorem still_get (k : HOk P w H h) {a : Addr} {o : Obj} (e : Still H a o) : h.get? a = some o := (k a _ e).1
/-- behind a run with the objects held -/
theorem un_unheld (S : Stand A H h) (u : Un fs ex (held A H) H' h h') (k : HOk P w H' h') : Un fs ex H (freed A H') h h' where
  keep := fun b o e n hb hx => by
    cases q : A.lookup b with
    | some o' =>
      have z := still_get k (held_stays u b o' q)
      rw [(S b o' q).1] at e
      cases e
      exact z
    | none => exact u.keep b o e (by rw [held_out q]; exact n) hb hx
  slot := fun b o e n hb hx => by
    cases q : A.lookup b with
    | some o' =>
      have z := still_get k (held_stays u b o' q)
      rw [(S b o' q).1] at e
      cases e
      exact ⟨_, z⟩
    | none => exact u.slot b o e (by rw [held_out q]; exact n) hb hx
  free := fun b o e n hx => by
    cases q : A.lookup b with
    | some o' => exact freed_in q
    | none => rw [freed_out q]; exact u.free b o e (by rw [held_out q]; exact n) hx
  there := u.there
  tups := fun b xs e => by
    have q := out_of S e
    rw [freed_out q]
    exact u.tups b xs (by rw [held_out q]; exact e)
  frzs := fun b o v e => by
    have q := out_of S e
    rw [freed_out q]
    exact u.frzs b o v (by rw [held_out q]; exact e)
  tbls := fun b ps e => by
    have q := out_of S e
    obtain ⟨more, z⟩ := u.tbls b ps (by rw [held_out q]; exact e)
    exact ⟨more, by rw [freed_out q]; exact z⟩
/-- behind a run with the objects let go -/
theorem un_kept (K : Held A H) (u : Un fs ex (freed A H) H' h h') : Un fs ex H (kept A H H') h h' where
  keep := fun b o e n hb hx => by
    have q : A.lookup b = none := by
      cases q : A.lookup b with
      | none => rfl
      | some o => rw [K b o q] at n; cases n
    exact u.keep b o e (by rw [freed_out q]; exact n) hb hx
  slot := fun b o e n hb hx => by
    have q : A.lookup b = none := by
      cases q : A.lookup b with
      | none => rfl
      | some o => rw [K b o q] at n; cases n
    exact u.slot b o e (by rw [freed_out q]; exact n) hb hx
  free := fun b o e n hx => by
    have q : A.lookup b = none := by
      cases q : A.lookup b with
      | none => rfl
      | some o => rw [K b o q] at n; cases n
    rw [kept_out q]
    exact u.free b o e (by rw [freed_out q]; exact n) hx
  there := u.there
  tups := fun b xs e => by
    have q := out_held K e fun o h => by cases h
    rw [kept_out q]
    exact u.tups b xs (by rw [freed_out q]; exact e)
  frzs := fun b o v e => by
    cases q : A.lookup b with
    | some o' => rw [kept_in q]; exact e
    | none => rw [kept_out q]; exact u.frzs b o v (by rw [freed_out q]; exact e)
  tbls := fun b ps e => by
    have q := out_held K e fun o h => by cases h
    obtain ⟨more, z⟩ := u.tbls b ps (by rw [freed_out q]; exact e)
    exact ⟨more, by rw [kept_out q]; exact z⟩
theorem hok_kept (k : HOk P w H h) (k' : HOk P w H' h') (K : Held A H) (u : Un fs ex (freed A H) H' h h') (hf : ∀ a o, A.lookup a = some o → a ∉ fs ∧ a ∉ ex) : HOk P w (kept A H H') h' := fun b v e => by
  have nA : ∀ {c : Addr} {v : HO}, H' c = some v → A.lookup c = none := fun {c v} z => by
    cases q : A.lookup c with
    | none => rfl
    | some o =>
      have := u.free c o (still_get k (K c o q)) (freed_in q) (hf c o q).2
      rw [this] at z
      cases z
  cases q : A.lookup b with
  | some o =>
    rw [kept_in q, K b o q] at e
    cases e
    exact still_ok (u.keep b o (still_get k (K b o q)) (freed_in q) (hf b o q).1 (hf b o q).2)
  | none =>
    rw [kept_out q] at e
    exact (k' b v e).stay (fun _ _ _ z => z) (fun c z => by rw [kept_out (nA z)]; exact z) fun c xs z => by rw [kept_out (nA z)]; exact z
end
end EvS

namespace EvS
open PySem PySem.Spec PyProof.Rows L2 Ev
/-- the context of a lambda's body -/
def lamX (P : Program) (w : World) (K : PySem.W.Frag) (mg : Str → Option Value) (base : Heap) (N : List Str) (qual : Str) (scope : Scope) (f c' : Addr) (cl : List (Str × Addr)) (A : Around) (outer : List Env) (s : Shared) (H : Hp) (E : XK) : L2.Cx where
  prog := P
  w := w
  K := K
  mg := mg
  base := base
  A := A.deeper (PySem.W.envX qual scope s.heap.objs.size f (.ref c') cl)
  N := N
  s_0 := s
  H_0 := H
  env := PySem.W.envX qual scope s.heap.objs.size f (.ref c') cl
  outer := outer
  stack := PySem.W.envX qual scope s.heap.objs.size f (.ref c') cl :: outer
  ex := []
  fn := fun _ => false
  calm := true
  pn := []
  xe := fun e s' => wpAny (model P w) (A.deeper (PySem.W.envX qual scope s.heap.objs.size f (.ref c') cl)) (leaving (PySem.W.envX qual scope s.heap.objs.size f (.ref c') cl) e) (fun _ s'' => CX P w outer H s E e s'') (fun e' s'' => CX P w outer H s E e' s'') s'
/-- a lambda's scope: captured names and parameters, no cell of its own -/
structure LamSc (caps ps N : List Str) (scope : Scope) : Prop where
  kind : scope.kind = .function
  co : scope.isCoroutine = false
  gen : scope.isGenerator = false
  nd : N.Nodup
  pre : N.take (caps ++ ps).length = caps ++ ps
  cap : ∀ x ∈ caps, scope.names.lookup x = some .free
  par : ∀ x ∈ ps, scope.names.lookup x = some .local
  nocell : ∀ y ∈ scope.names, y.2 ≠ .cell
  free : ∀ x, scope.names.lookup x = some .free → x ∈ caps
/-- the captured values stand in the cells of cl -/
def CapAt (h : Heap) (caps : List Str) (cs : List V) (cl : List (Str × Addr)) : Prop := ∀ (i : Nat) (n : Str), caps[i]? = some n → ∃ c oc val v, cl.lookup n = some c ∧ h.get? c = some oc ∧ oc.data = .cell (some val) ∧ cs[i]? = some v ∧ RelV v val
theorem lookup_nd {β : Type} : ∀ {l : List (Str × β)} {y : Str} {u : β}, (l.map (·.1)).Nodup → (y, u) ∈ l → l.lookup y = some u
  | [], _, _, _, h => by cases h
  | (a, b) :: l, y, u, nd, h => by
    rw [List.map_cons, List.nodup_cons] at nd
    rcases List.mem_cons.mp h with e | e
    · cases e
      exact List.lookup_cons_self
    · have hne : y ≠ a := fun q => nd.1 (List.mem_map.mpr ⟨(y, u), e, q⟩)
      rw [List.lookup_cons]
      have : (y == a) = false := by
        rw [beq_eq_false_iff_ne]
        exact hne
      rw [this]
      exact lookup_nd nd.2 e
theorem inv_lam {P : Program} {w : World} {K : PySem.W.Frag} {mg : Str → Option Value} {base : Heap} {N caps ps : List Str} {qual : Str} {scope : Scope} {f c' : Addr} {cl : List (Str × Addr)} {A : Around} {outer : List Env} {s : Shared} {H : Hp} {E : XK} {us : List Value} {vs cs : List V} {h₁ : Heap} {tk : Nat}
    (S : LamSc caps ps N scope) (hd : A.handled = none) (e0 : Env0 P w K mg base A outer s H) (hl : vs.length = ps.length) (hc : cs.length = caps.length) (r : Vals vs us) (C : CapAt s.heap caps cs cl)
    (inj : ∀ x y c, cl.lookup x = some c → cl.lookup y = some c → x = y) (clf : ∀ x c, cl.lookup x = some c → H c = none ∧ x ∈ caps)
    (hns : h₁.Ns s.heap.objs.size fun y => (ps.zip us).reverse.lookup y) (kp : ∀ b o, s.heap.get? b = some o → h₁.get? b = some o) :
    Inv (lamX P w K mg base N qual scope f c' cl A outer s H E) [] (L2.start N (cs ++ vs)) H { s with heap := h₁, toks := tk } := by
  have noA : ∀ b : Addr, b ∉ (lamX P w K mg base N qual scope f c' cl A outer s H E).ex := fun b z => absurd (show b ∈ ([] : List Addr) from z) (by simp)
  have cellAt : ∀ x c, cl.lookup x = some c → ∃ v, h₁.IsCell c v := fun x c e => by
    obtain ⟨_, hx⟩ := clf x c e
    obtain ⟨i, hi⟩ := List.getElem?_of_mem hx
    obtain ⟨c2, oc, val, v, e2, h1, h2, _⟩ := C i x hi
    rw [e] at e2
    cases e2
    exact ⟨_, oc, kp _ _ h1, h2⟩
  have pl : (caps ++ ps).length ≤ N.length := by
    have := congrArg List.length S.pre
    rw [List.length_take] at this
    omega
  refine ⟨⟨e0.mod, S.kind, rfl, rfl, Nat.le_refl _, fun y z c h1 h2 => inj y z c h1 h2, fun y hy => ?_, fun y c z _ => ?_, fun _ => hd, Around.frames_deeper e0.frames, .inr ⟨rfl, rfl⟩, fun b z => absurd z (noA b), e0.bs, e0.bsz, fun b _ _ => noA b,
      fun b z => absurd z (noA b), e0.funs, e0.frf⟩,
    rfl, e0.bare, Un.kept kp, ⟨_, hns, fun i y v e1 e2 e3 => ?_⟩, fun y c e => cellAt y c e, e0.hok.fresh (Nat.le_refl _), fun y c e => (clf y c e).1, fun q hq => absurd (show q ∈ ([] : List (Addr × Obj)) ++ [] from hq) (by simp), e0.hok.kept kp, ?_⟩
  · have hy : scope.names.lookup y = some .cell ∨ scope.names.lookup y = some .free := hy
    rcases hy with hy | hy
    · exact absurd rfl (S.nocell _ (PySem.mem_of_lookup hy))
    · obtain ⟨i, hi⟩ := List.getElem?_of_mem (S.free y hy)
      obtain ⟨c, _, _, _, e, _⟩ := C i y hi
      exact ⟨c, e⟩
  · have z : false = true := z
    cases z
  · have hlt : i < (cs ++ vs).length := by
      unfold L2.start at e2
      by_cases h : i < (cs ++ vs).length
      · exact h
      · rw [List.getElem?_append_right (by simpa using h), List.getElem?_replicate] at e2
        split at e2 <;> cases e2
    have hv : (cs ++ vs)[i]? = some v := by
      unfold L2.start at e2
      rw [List.getElem?_append_left (by simpa using hlt), List.getElem?_map] at e2
      cases q : (cs ++ vs)[i]? with
      | none => rw [q] at e2; cases e2
      | some a => rw [q] at e2; cases e2; rfl
    have hn : (caps ++ ps)[i]? = some y := by
      rw [← S.pre, List.getElem?_take_of_lt (by rw [List.length_append] at hlt ⊢; omega)]
      exact e1
    by_cases hi : i < cs.length
    · rw [List.getElem?_append_left hi] at hv
      rw [List.getElem?_append_left (by omega)] at hn
      obtain ⟨c, oc, val, v', h1, h2, h3, h4, h5⟩ := C i y hn
      rw [hv] at h4
      cases h4
      exact ⟨val, h5, .inr ⟨.inr (S.cap y (List.mem_of_getElem? hn)), c, h1, oc, kp _ _ h2, h3⟩⟩
    · rw [List.getElem?_append_right (by omega)] at hv
      rw [List.getElem?_append_right (by omega)] at hn
      rw [hc] at hv
      obtain ⟨u, hu, ru⟩ := r.get hv
      refine ⟨u, ru, .inl ⟨S.par y (List.mem_of_getElem? hn), ?_⟩⟩
      have ndp : ps.Nodup := by
        have : (caps ++ ps).Nodup := by rw [← S.pre]; exact S.nd.sublist (List.take_sublist _ _)
        exact (List.nodup_append.mp this).2.1
      have hm : (y, u) ∈ (ps.zip us).reverse := by
        rw [List.mem_reverse]
        refine List.mem_of_getElem? (i := i - caps.length) ?_
        rw [List.getElem?_zip_eq_some]
        exact ⟨hn, hu⟩
      have hz : ((ps.zip us).map (·.1)).Nodup := by
        rw [List.map_fst_zip (by have := r.length; omega)]
        exact ndp
      exact lookup_nd (by rw [List.map_reverse]; exact ((List.reverse_perm _).nodup_iff).mpr hz) hm
  · unfold L2.start
    show _ = N.length
    rw [List.length_append, List.length_map, List.length_replicate, List.length_append]
    rw [List.length_append] at pl
    omega
end EvS

namespace EvS
open PySem PySem.Spec PyProof.Rows L2 Ev
/-- a closure called: its body runs in lamX -/
theorem run_clo {P : Program} {w : World} {K : PySem.W.Frag} {mg : Str → Option Value} {base : Heap} {k : Nat} {N caps ps : List Str} {name qual : Str} {params : Arguments} {body : Expr} {scope : Scope} {f c' : Addr} {cl : List (Str × Addr)} {pm ctv : Value}
    {A : Around} {outer : List Env} {s : Shared} {H : Hp} {E : XK} {args : Args} {us : List Value} {vs cs : List V} {Q : VK} {tb : TE}
    (S : LamSc caps ps N scope) (hr : Room (k + 1) A) (e0 : Env0 P w K mg base A outer s H) (lim : s.heap.NoLimit)
    (of1 : s.heap.get? f = some (PySem.W.kla_obj name qual params body scope cl pm c' ctv)) (rc : s.heap.CodeRec (.ref c') qual)
    (hb : BindsTo s (PySem.W.kla_fn name qual params body scope cl pm (.ref c') ctv) args (ps.zip us)) (hl : vs.length = ps.length) (hc : cs.length = caps.length) (r : Vals vs us) (C : CapAt s.heap caps cs cl)
    (inj : ∀ x y c, cl.lookup x = some c → cl.lookup y = some c → x = y) (clf : ∀ x c, cl.lookup x = some c → H c = none ∧ x ∈ caps)
    (hbody : Room k (A.deeper (PySem.W.envX qual scope s.heap.objs.size f (.ref c') cl)) → PE (lamX P w K mg base N qual scope f c' cl A outer s H E) body tb)
    (ht : tb (L2.start N (cs ++ vs)) H Q) :
    codeAny (model P w) A (.call (.ref f) args) (CR (L2.CX P w) outer P w H s Q E) s := by
  refine PySem.W.kla_callFunE hr.depth of1 rfl S.co S.gen rfl rc (hb _ _ _ _ ?_)
  refine wpAny_newFunctionEnv (fun y hy => S.nocell y hy) (fun y hy => S.par _ ?_) (fun h₁ hns hsb => ⟨lim.fresh _ hsb, ?_⟩) S.kind
  · obtain ⟨n, v⟩ := y
    exact (List.of_mem_zip hy).1
  · show codeAny _ _ (.expr body (PySem.W.envX qual scope s.heap.objs.size f (.ref c') cl)) _ _
    have kp : ∀ b o, s.heap.get? b = some o → h₁.get? b = some o := fun b o e => hsb.extBut b o (Nat.ne_of_lt (Heap.lt_size e)) (Heap.get?_push_of_some _ e)
    have J := inv_lam (E := E) (f := f) (c' := c') (qual := qual) (tk := s.toks + (ps.zip us).length) S hr.hd e0 hl hc r C inj clf hns kp
    refine PySem.W.kla_codeExpr (wpAny_mono ((hbody (hr.deeper _)).run [] _ _ H Q J ht) (fun v s' hq => ?_) fun e s' hq => hq)
    obtain ⟨w', H', J', rv, q⟩ := hq
    exact ⟨w', H', J'.os, J'.bare, J'.base, J'.hok, rv, q⟩
end EvS

namespace EvS
open PySem PySem.Spec PyProof.Rows L2 Ev
section
variable {P : Program} {w : World} {K : PySem.W.Frag} {mg : Str → Option Value} {base : Heap} {A : Hl} {H : Hp} {Ar : Around} {outer : List Env} {s s' : Shared}
theorem freed_none {b : Addr} (e : H b = none) : freed A H b = none := by
  cases q : A.lookup b with
  | some o => exact freed_in q
  | none => rw [freed_out q]; exact e
theorem held_none (S : ∀ a o, A.lookup a = some o → ¬ ∃ o', base.get? a = some o') {b : Addr} {o : Obj} (e : base.get? b = some o) (n : H b = none) : held A H b = none := by
  cases q : A.lookup b with
  | some o' => exact absurd ⟨o, e⟩ (S b o' q)
  | none => rw [held_out q]; exact n
theorem env0_freed (K' : Held A H) (e : Env0 P w K mg base Ar outer s H) : Env0 P w K mg base Ar outer s (freed A H) :=
  ⟨e.frames, e.mod, fun b o h => ⟨(e.bs b o h).1, freed_none (e.bs b o h).2⟩, e.bsz, e.funs, fun b hb => freed_none (e.frf b hb), hok_freed e.hok K', e.bare⟩
theorem env0_held (S : Stand A H s.heap) (nb : ∀ a o, A.lookup a = some o → ¬ ∃ o', base.get? a = some o') (nf : ∀ a o, A.lookup a = some o → a ∉ frs outer) (e : Env0 P w K mg base Ar outer s H) : Env0 P w K mg base Ar outer s (held A H) :=
  ⟨e.frames, e.mod, fun b o h => ⟨(e.bs b o h).1, held_none nb h (e.bs b o h).2⟩, e.bsz, e.funs, fun b hb => by
    cases q : A.lookup b with
    | some o => exact absurd hb (nf b o q)
    | none => rw [held_out q]; exact e.frf b hb, hok_held e.hok S, e.bare⟩
/-- none of them is tracked -/
def Out (A : Hl) (H : Hp) : Prop := ∀ a o, A.lookup a = some o → H a = none
abbrev QU (A : Hl) (Q : VK) : VK := fun v H' => Held A H' → Q v (freed A H')
abbrev EU (A : Hl) (E : XK) : XK := fun c d H' => Held A H' → E c d (freed A H')
abbrev QK (A : Hl) (H : Hp) (Q : VK) : VK := fun v H' => Out A H' → Q v (kept A H H')
abbrev EK (A : Hl) (H : Hp) (E : XK) : XK := fun c d H' => Out A H' → E c d (kept A H H')
/-- a closure called with its objects let go: they are held again behind it -/
theorem cr_kept {Q : VK} {E : XK} {r : Result} (K' : Held A H) (hok : HOk P w H s.heap) (hf : ∀ a o, A.lookup a = some o → a ∉ frs outer) (c : CR (L2.CX P w) outer P w (freed A H) s (QK A H Q) (EK A H E) r s') : CR (L2.CX P w) outer P w H s Q E r s' := by
  cases r with
  | error e =>
    obtain ⟨a, B, H', cls, d, rfl, fl, k, ub, na, os, bare, z⟩ := c
    have out : Out A H' := fun b o q => ub.free b o (still_get hok (K' b o q)) (freed_in q)
    have inB : ∀ b o, A.lookup b = some o → B.get? b = some o := fun b o q => ub.keep b o (still_get hok (K' b o q)) (freed_in q) (hf b o q)
    have nA : ∀ {c : Addr} {v : HO}, H' c = some v → A.lookup c = none := fun {c v} z => by
      cases q : A.lookup c with
      | none => rfl
      | some o => rw [out c o q] at z; cases z
    have notA : ∀ {b : Addr}, H b = none → A.lookup b = none := fun {b} n => by
      cases q : A.lookup b with
      | none => rfl
      | some o => rw [K' b o q] at n; cases n
    refine ⟨a, B, kept A H H', cls, d, rfl, fl, fun b v e => ?_, ⟨fun b o e n hb => ub.keep b o e (by rw [freed_out (notA n)]; exact n) hb, ub.slot, fun b o e n => ?_, ub.there, fun b xs e => ?_, fun b o v e => ?_, fun b ps e => ?_⟩, ?_, os, bare, z out⟩
    · cases q : A.lookup b with
      | some o =>
        rw [kept_in q, K' b o q] at e
        cases e
        exact still_ok (inB b o q)
      | none =>
        rw [kept_out q] at e
        exact (k b v e).stay (fun _ _ _ z => z) (fun c z => by rw [kept_out (nA z)]; exact z) fun c xs z => by rw [kept_out (nA z)]; exact z
    · rw [kept_out (notA n)]
      exact ub.free b o e (by rw [freed_out (notA n)]; exact n)
    · have q := out_held K' e fun o h => by cases h
      rw [kept_out q]
      exact ub.tups b xs (by rw [freed_out q]; exact e)
    · cases q : A.lookup b with
      | some o' => rw [kept_in q]; exact e
      | none => rw [kept_out q]; exact ub.frzs b o v (by rw [freed_out q]; exact e)
    · have q := out_held K' e fun o h => by cases h
      obtain ⟨more, z⟩ := ub.tbls b ps (by rw [freed_out q]; exact e)
      exact ⟨more, by rw [kept_out q]; exact z⟩
    · cases q : A.lookup a with
      | none => rw [kept_out q]; exact na
      | some o =>
        have h1 := inB a o q
        rw [fl.2.1] at h1
        cases h1
  | ok fl =>
    cases fl with
    | ret u =>
      obtain ⟨v, H', os, bare, un, k, rv, q⟩ := c
      exact ⟨v, kept A H H', os, bare, un_kept K' un, hok_kept hok k K' un fun a o e => ⟨hf a o e, by simp⟩, rv, q fun a o e => un.free a o (still_get hok (K' a o e)) (freed_in e) (by simp)⟩
    | next => exact c
    | brk => exact c
    | cont => exact c
/-- a def called with objects held: behind it they are let go -/
theorem cr_unheld {Q : VK} {r : Result} {E : XK} (S : Stand A H s.heap) (c : CR (L2.CX P w) outer P w (held A H) s (QU A Q) (EU A E) r s') : CR (L2.CX P w) outer P w H s Q E r s' := by
  cases r with
  | error e =>
    obtain ⟨a, B, H', cls, d, rfl, fl, k, ub, na, os, bare, z⟩ := c
    have hs : Held A H' := fun b o q => ub.frzs b o _ (held_in q)
    refine ⟨a, B, freed A H', cls, d, rfl, fl, hok_freed k hs, ⟨fun b o e n hb => ?_, ub.slot, fun b o e n => ?_, ub.there, fun b xs e => ?_, fun b o v e => ?_, fun b ps e => ?_⟩, freed_none na, os, bare, z hs⟩
    · cases q : A.lookup b with
      | some o' =>
        have z := still_get k (hs b o' q)
        rw [(S b o' q).1] at e
        cases e
        exact z
      | none => exact ub.keep b o e (by rw [held_out q]; exact n) hb
    · cases q : A.lookup b with
      | some o' => exact freed_in q
      | none => rw [freed_out q]; exact ub.free b o e (by rw [held_out q]; exact n)
    · have q := out_of S e
      rw [freed_out q]
      exact ub.tups b xs (by rw [held_out q]; exact e)
    · have q := out_of S e
      rw [freed_out q]
      exact ub.frzs b o v (by rw [held_out q]; exact e)
    · have q := out_of S e
      obtain ⟨more, z⟩ := ub.tbls b ps (by rw [held_out q]; exact e)
      exact ⟨more, by rw [freed_out q]; exact z⟩
  | ok fl =>
    cases fl with
    | ret u =>
      obtain ⟨v, H', os, bare, un, k, rv, q⟩ := c
      exact ⟨v, freed A H', os, bare, un_unheld S un k, hok_freed k (held_stays un), rv, q (held_stays un)⟩
    | next => exact c
    | brk => exact c
    | cont => exact c
end
end EvS

namespace EvS
open PySem PySem.Spec PyProof.Rows L2 Ev
variable {L : Lw}
/-- the captured values, read off the heap -/
theorem capAt_of {P : Program} {w : World} {H : Hp} {μ : Mu} {h : Heap} (k : HOk P w H h) : ∀ {vs : List Vl} {ns : List Str} {cl : List (Str × Addr)}, RCl L H μ vs ns cl → ∃ us, CapAt h ns us cl ∧ us.length = ns.length ∧ RVs L H μ vs us
  | [], ns, cl, r => by
    have e : ns = [] := r
    subst e
    refine ⟨[], ⟨fun i n e => ?_, rfl, rfl⟩⟩
    exact absurd e (by simp)
  | v :: vs, ns, cl, r => by
    obtain ⟨n, r', c, oc, val, u, rfl, h1, h2, h3, h4, h5, h6⟩ := r
    obtain ⟨us, C, hl, hr⟩ := capAt_of k h6
    refine ⟨u :: us, fun i m e => ?_, by simp [hl], ⟨u, us, rfl, h5, hr⟩⟩
    cases i with
    | zero =>
      cases e
      exact ⟨c, oc, val, u, h1, still_get k h2, h3, rfl, h4⟩
    | succ i =>
      obtain ⟨c2, oc2, val2, v2, q1, q2, q3, q4, q5⟩ := C i m e
      exact ⟨c2, oc2, val2, v2, q1, q2, q3, q4, q5⟩
/-- the captured cells, to be let go -/
theorem cells_held {H : Hp} {μ : Mu} : ∀ {vs : List Vl} {ns : List Str} {cl : List (Str × Addr)}, RCl L H μ vs ns cl → ∃ A : Hl, Held A H ∧ (∀ n ∈ ns, ∀ c, cl.lookup n = some c → ∃ o, A.lookup c = some o) ∧ ∀ a o, A.lookup a = some o → (∃ n ∈ ns, cl.lookup n = some a) ∧ ∃ v, o.data = .cell v
  | [], ns, cl, r => by
    have e : ns = [] := r
    subst e
    exact ⟨[], fun a o e => absurd e (by simp), fun n hn => absurd hn (by simp), fun a o e => absurd e (by simp)⟩
  | v :: vs, ns, cl, r => by
    obtain ⟨n, r', c, oc, val, u, rfl, h1, h2, h3, h4, h5, h6⟩ := r
    obtain ⟨A, K, B, D⟩ := cells_held h6
    refine ⟨(c, oc) :: A, fun a o e => ?_, fun m hm c2 e => ?_, fun a o e => ?_⟩
    · rw [List.lookup_cons] at e
      split at e
      · rename_i q
        cases e
        rw [eq_of_beq q]
        exact h2
      · exact K a o e
    · rw [List.lookup_cons]
      split
      · exact ⟨_, rfl⟩
      · rcases List.mem_cons.mp hm with q | q
        · rename_i z
          rw [q, h1] at e
          cases e
          simp at z
        · exact B m q c2 e
    · rw [List.lookup_cons] at e
      split at e
      · rename_i q
        exact ⟨⟨n, by simp, by rw [eq_of_beq q]; exact h1⟩, by cases e; exact ⟨_, h3⟩⟩
      · obtain ⟨⟨m, hm, q⟩, w⟩ := D a o e
        exact ⟨⟨m, by simp [hm], q⟩, w⟩
end EvS

namespace EvS
open PySem PySem.Spec PyProof.Rows L2 Ev
section
variable {K : PySem.W.Frag} {H : Hp} {A : Hl}
theorem free_at (k : Held A H) {b : Addr} {u : HO} (e : H b = some u) (n : ∀ o, u ≠ stillO b o) : freed A H b = some u := by
  rw [freed_out (out_held k e n)]
  exact e
/-- data does not lie in what is let go -/
theorem sqT_freed (k : Held A H) {a : Addr} {vs : List V} (h : SqT K H a vs) : SqT K (freed A H) a vs := by
  rcases h with (h | ⟨o, h⟩) | h
  · exact .inl (.inl (free_at k h fun o e => by cases e))
  · exact .inl (.inr ⟨o, free_at k h fun o e => by cases e⟩)
  · exact .inr h
theorem fzL_freed (k : Held A H) {a : Addr} {vs : List V} (h : FzL K H a vs) : FzL K (freed A H) a vs := by
  rcases h with ⟨o, h⟩ | h
  · exact .inl ⟨o, free_at k h fun o e => by cases e⟩
  · exact .inr h
mutual
theorem rd_freed (k : Held A H) : ∀ {x : D} {v : V}, RD K H x v → RD K (freed A H) x v
  | .non, _, h => h
  | .bl _, _, h => h
  | .int _, _, h => h
  | .str _, _, h => h
  | .tup _, _, ⟨a, vs, h1, h2, h3, h4⟩ => ⟨a, vs, h1, sqT_freed k h2, h3, rds_freed k h4⟩
  | .lst _, _, ⟨a, vs, h1, h2, h3, h4⟩ => ⟨a, vs, h1, fzL_freed k h2, h3, rds_freed k h4⟩
theorem rds_freed (k : Held A H) : ∀ {x : List D} {v : List V}, RDs K H x v → RDs K (freed A H) x v
  | [], _, h => h
  | _ :: _, _, ⟨v, r, h1, h2, h3⟩ => ⟨v, r, h1, rd_freed k h2, rds_freed k h3⟩
end
end
end EvS

namespace EvS
open PySem PySem.Spec PyProof.Rows L2 Ev
/-- a closure called whose cells are held -/
theorem run_clo_held {P : Program} {w : World} {K : PySem.W.Frag} {mg : Str → Option Value} {base : Heap} {k : Nat} {N caps ps : List Str} {name qual : Str} {params : Arguments} {body : Expr} {scope : Scope} {f c' : Addr} {cl : List (Str × Addr)} {pm ctv : Value}
    {Ar : Around} {outer : List Env} {s : Shared} {H : Hp} {A : Hl} {E : XK} {args : Args} {us : List Value} {vs cs : List V} {Q : VK} {tb : TE}
    (S : LamSc caps ps N scope) (hr : Room (k + 1) Ar) (e0 : Env0 P w K mg base Ar outer s H) (lim : s.heap.NoLimit)
    (K' : Held A H) (nf : ∀ a o, A.lookup a = some o → a ∉ frs outer)
    (of1 : s.heap.get? f = some (PySem.W.kla_obj name qual params body scope cl pm c' ctv)) (rc : s.heap.CodeRec (.ref c') qual)
    (hb : BindsTo s (PySem.W.kla_fn name qual params body scope cl pm (.ref c') ctv) args (ps.zip us)) (hl : vs.length = ps.length) (hc : cs.length = caps.length) (r : Vals vs us) (C : CapAt s.heap caps cs cl)
    (inj : ∀ x y c, cl.lookup x = some c → cl.lookup y = some c → x = y) (clf : ∀ x c, cl.lookup x = some c → (∃ o, A.lookup c = some o) ∧ x ∈ caps)
  (hbody : Room k (Ar.deeper (PySem.W.envX qual scope s.heap.objs.size f (.ref c') cl)) → PE (lamX P w K mg base N qual scope f c' cl Ar outer s (freed A H) (EK A H E)) body tb)
    (ht : tb (L2.start N (cs ++ vs)) (freed A H) (QK A H Q)) :
    codeAny (model P w) Ar (.call (.ref f) args) (CR (L2.CX P w) outer P w H s Q E) s :=
  codeAny_mono (run_clo S hr (env0_freed K' e0) lim of1 rc hb hl hc r C inj (fun x c e => ⟨by
    obtain ⟨⟨o, h⟩, _⟩ := clf x c e
    exact freed_in h, (clf x c e).2⟩) hbody ht) fun _ _ h => cr_kept K' e0.hok nf h
end EvS

namespace EvS
open PySem PySem.Spec PyProof.Rows L2 Ev
/-! ### more is tracked -/
def Sub (H H' : Hp) : Prop := ∀ b u, H b = some u → H' b = some u
section
variable {L : Lw} {H H' : Hp} {μ μ' : Mu} {st st' : Sto} {A : Hl}
theorem Sub.fix (s : Sub H H') : ∀ a o, H a = some o → Fix o → H' a = some o := fun a o h _ => s a o h
theorem Sub.ext (s : Sub H H') : Ext H μ H' μ :=
  ⟨fun a o h _ => s a o h, fun a o h _ _ => s a o h, Nat.le_refl _, fun _ _ _ h => h, fun r _ h => .inl ⟨r, h⟩, fun a ps h => ⟨ps, s a _ h⟩⟩
theorem Sim.sub (s : Sub H H') (S : Sim L H μ st) : Sim L H' μ st where
  len := S.len
  inj := S.inj
  cell := fun r c h => CellR.keep s.ext (fun a ha => ⟨ha, fun o ho => s a o ho⟩) (S.cell r c h)
  some_ := fun r a h => by
    obtain ⟨o, h1, h2⟩ := S.some_ r a h
    exact ⟨o, s a o h1, h2⟩
  tab := fun q hq => TabF.ext (fun a o h _ => s a o h) (fun a ps h => s a _ h) (S.tab q hq)
theorem sub_held (S : ∀ a o, A.lookup a = some o → H a = none) : Sub H (held A H) := fun b u e => by
  cases q : A.lookup b with
  | some o => rw [S b o q] at e; cases e
  | none => rw [held_out q]; exact e
theorem sub_kept (S : Out A H') : Sub H' (kept A H H') := fun b u e => by
  cases q : A.lookup b with
  | some o => rw [S b o q] at e; cases e
  | none => rw [kept_out q]; exact e

/-! ### what is held is no data -/
/-- functions, cells: no records -/
def NF (A : Hl) : Prop := ∀ a o, A.lookup a = some o → ∀ vs, o.data ≠ .fields vs
theorem kvs_freed {K' : Held A H} : ∀ {kvs : List (D × D)} {xs : List (PySem.NestedKey × Addr × Value)}, KVs L H kvs xs → KVs L (freed A H) kvs xs
  | [], _, h => h
  | (_, _) :: _, _, ⟨a, val, u, xr, h1, h2, h3, h4, h5, h6⟩ => ⟨a, val, u, xr, h1, h2, rd_freed K' h3, h4, rd_freed K' h5, kvs_freed (K' := K') h6⟩
theorem cell_out (K' : Held A H) {r : Nat} {c : Cell} (h : CellR L H μ r c) : ∃ a, μ[r]? = some (some a) ∧ A.lookup a = none := by
  cases c with
  | dead => exact h.elim
  | lst xs =>
    obtain ⟨a, vs, h1, h2, _⟩ := h
    exact ⟨a, h1, out_held K' h2 fun o e => by cases e⟩
  | dic kvs =>
    obtain ⟨a, xs, h1, h2, _⟩ := h
    exact ⟨a, h1, out_held K' h2 fun o e => by cases e⟩
  | ins c fs => exact h.elim
  | fz xs =>
    obtain ⟨a, o, vs, h1, h2, _⟩ := h
    exact ⟨a, h1, out_held K' h2 fun o e => by cases e⟩
  | fdic kvs =>
    obtain ⟨a, o, vs, h1, h2, _⟩ := h
    exact ⟨a, h1, out_held K' h2 fun o e => by cases e⟩
theorem mu_out (K' : Held A H) (S : Sim L H μ st) {r : Nat} {a : Addr} (h : μ[r]? = some (some a)) : A.lookup a = none := by
  have hr : r < st.length := by
    rw [← S.len]
    exact (List.getElem?_eq_some_iff.mp h).1
  obtain ⟨a', h1, h2⟩ := cell_out K' (S.cell r _ (List.getElem?_eq_getElem hr))
  rw [h] at h1
  cases h1
  exact h2
theorem code_out (K' : Held A H) (nf : NF A) {c : Addr} {q : Str} (h : CodeAt H c q) : A.lookup c = none := by
  obtain ⟨oc, u, vs, t, h1, h2, _⟩ := h
  cases q : A.lookup c with
  | none => rfl
  | some o =>
    have z : H c = some (stillO c o) := K' c o q
    rw [z] at h1
    have e : o = oc := by
      injection h1 with h1
      injection h1
    subst e
    exact absurd h2 (nf c o q vs)
theorem code_freed (K' : Held A H) (nf : NF A) {c : Addr} {q : Str} (h : CodeAt H c q) : CodeAt (freed A H) c q := by
  have o := code_out K' nf h
  obtain ⟨oc, u, vs, t, h1, h2⟩ := h
  exact ⟨oc, u, vs, t, (freed_out o).trans h1, h2⟩
theorem tab_freed (K' : Held A H) (nf : NF A) {p : Addr × Str} (h : TabF H p) : TabF (freed A H) p := by
  obtain ⟨ps, h1, h2, h3⟩ := h
  refine ⟨ps, free_at K' h1 (fun o e => by cases e), h2, fun pos cv hc => ?_⟩
  obtain ⟨c, e1, e2⟩ := h3 pos cv hc
  exact ⟨c, e1, code_freed K' nf e2⟩
theorem Sim.freed (K' : Held A H) (nf : NF A) (S : Sim L H μ st) : Sim L (freed A H) μ st where
  len := S.len
  inj := S.inj
  cell := fun r c h => by
    have z := S.cell r c h
    cases c with
    | dead => exact z
    | lst xs =>
      obtain ⟨a, vs, h1, h2, h3, h4⟩ := z
      exact ⟨a, vs, h1, free_at K' h2 (fun o e => by cases e), h3, rds_freed K' h4⟩
    | dic kvs =>
      obtain ⟨a, xs, h1, h2, h3, h4⟩ := z
      exact ⟨a, xs, h1, free_at K' h2 (fun o e => by cases e), h3, kvs_freed (K' := K') h4⟩
    | ins c fs => exact z
    | fz xs =>
      obtain ⟨a, o, vs, h1, h2, h3, h4⟩ := z
      exact ⟨a, o, vs, h1, free_at K' h2 (fun o e => by cases e), h3, rds_freed K' h4⟩
    | fdic kvs =>
      obtain ⟨a, o, vs, h1, h2, h3, h4⟩ := z
      exact ⟨a, o, vs, h1, free_at K' h2 (fun o e => by cases e), h3, kvs_freed (K' := K') h4⟩
  some_ := fun r a h => by
    obtain ⟨o, h1, h2⟩ := S.some_ r a h
    exact ⟨o, by rw [freed_out (mu_out K' S h)]; exact h1, h2⟩
  tab := fun q hq => tab_freed K' nf (S.tab q hq)
theorem RV.freed (K' : Held A H) : ∀ {v : Vl} {u : V}, v.flat = true → RV L H μ v u → RV L (freed A H) μ v u
  | .d _, _, _, h => rd_freed K' h
  | .fn _, _, _, h => h
  | .ref _, _, _, h => h
  | .dct _, _, _, ⟨a, o, h1, h2⟩ => ⟨a, o, h1, free_at K' h2 fun o e => by cases e⟩
  | .clo _ _, _, f, _ => by cases f
theorem RVs.freed (K' : Held A H) : ∀ {vs : List Vl} {us : List V}, flats vs = true → RVs L H μ vs us → RVs L (freed A H) μ vs us
  | [], _, _, h => h
  | v :: vs, _, f, ⟨u, r, h1, h2, h3⟩ => by
    have f : (v.flat && flats vs) = true := f
    rw [Bool.and_eq_true] at f
    exact ⟨u, r, h1, RV.freed K' f.1 h2, RVs.freed K' f.2 h3⟩

/-! ### behind a run -/
/-- behind a run with objects let go -/
theorem Ext.kept (K' : Held A H) (out : Out A H') (S' : Sim L H' μ' st') (e : Ext (freed A H) μ H' μ') : Ext H μ (kept A H H') μ' where
  im := fun a o h f => by
    cases q : A.lookup a with
    | some o' => rw [kept_in q]; exact h
    | none =>
      rw [kept_out q]
      exact e.im a o (by rw [freed_out q]; exact h) f
  fr := fun a o h t n => by
    cases q : A.lookup a with
    | some o' => rw [kept_in q]; exact h
    | none =>
      rw [kept_out q]
      exact e.fr a o (by rw [freed_out q]; exact h) t n
  ln := e.ln
  al := e.al
  nw := fun r a h => by
    rcases e.nw r a h with z | z
    · exact .inl z
    · refine .inr ?_
      cases q : A.lookup a with
      | none => rw [freed_out q] at z; exact z
      | some o =>
        obtain ⟨u, h1, _⟩ := S'.some_ r a h
        rw [out a o q] at h1
        cases h1
  tb := fun a ps h => by
    have q := out_held K' h fun o z => by cases z
    obtain ⟨ps', z⟩ := e.tb a ps (by rw [freed_out q]; exact h)
    exact ⟨ps', by rw [kept_out q]; exact z⟩
/-- behind a run with objects held -/
theorem Ext.unheld (S : ∀ a o, A.lookup a = some o → H a = none) (e : Ext (held A H) μ H' μ') : Ext H μ (freed A H') μ' := by
  have nA : ∀ {b : Addr} {u : HO}, H b = some u → A.lookup b = none := fun {b u} h => by
    cases q : A.lookup b with
    | none => rfl
    | some o => rw [S b o q] at h; cases h
  refine ⟨fun a o h f => ?_, fun a o h t n => ?_, e.ln, e.al, fun r a h => ?_, fun a ps h => ?_⟩
  · rw [freed_out (nA h)]
    exact e.im a o (by rw [held_out (nA h)]; exact h) f
  · rw [freed_out (nA h)]
    exact e.fr a o (by rw [held_out (nA h)]; exact h) t n
  · rcases e.nw r a h with z | z
    · exact .inl z
    · refine .inr ?_
      cases q : A.lookup a with
      | none => rw [held_out q] at z; exact z
      | some o => rw [held_in q] at z; cases z
  · obtain ⟨ps', z⟩ := e.tb a ps (by rw [held_out (nA h)]; exact h)
    exact ⟨ps', by rw [freed_out (nA h)]; exact z⟩
/-- a closure's run, told of the heap with its cells -/
theorem RQ.kept {E : XK} {r : R Vl} {Q : VK} (K' : Held A H) (h : RQ L H μ E r (QV (L := L) Q)) : RQ L (freed A H) μ (EK A H E) r (QV (L := L) (QK A H Q)) := by
  cases r with
  | ok v st =>
    intro H' μ' e S u ru out
    exact h _ _ (Ext.kept K' out S e) (S.sub (sub_kept out)) u (ru.ext (sub_kept (H := H) out).ext)
  | ex c fs st =>
    intro H' μ' cls d e S x out
    exact h _ _ cls d (Ext.kept K' out S e) (S.sub (sub_kept out)) x
  | no => exact h
/-- a call with objects held, told of the heap without them -/
theorem RQ.unheld {E : XK} {r : R Vl} {Q : VK} (S : ∀ a o, A.lookup a = some o → H a = none) (nf : NF A) (h : RQ L H μ E (r.bind fun v st => if v.flat then .ok v st else .no) (QV (L := L) Q)) : RQ L (held A H) μ (EU A E) r (QV (L := L) (QU A Q)) := by
  cases r with
  | ok v st =>
    intro H' μ' e s u ru hd
    have h : RQ L H μ E (if v.flat then .ok v st else .no) (QV (L := L) Q) := h
    by_cases f : v.flat = true
    · rw [if_pos f] at h
      exact h _ _ (Ext.unheld S e) (s.freed hd nf) u (ru.freed hd f)
    · rw [if_neg f] at h
      exact h.elim
  | ex c fs st =>
    intro H' μ' cls d e s x hd
    exact h _ _ cls d (Ext.unheld S e) (s.freed hd nf) x
  | no => exact h
end
end EvS

namespace EvS
open PySem PySem.Spec PyProof.Rows L2 Ev
section
variable {K : PySem.W.Frag} {H : Hp} {x : V}
theorem RW.int {i : Int} (h : RW K H (.int i) x) : x = .int i := by
  rcases h with h | ⟨_, _, _, e, _⟩
  · exact h
  · cases e
theorem RW.bl {i : Bool} (h : RW K H (.bl i) x) : x = .bl i := by
  rcases h with h | ⟨_, _, _, e, _⟩
  · exact h
  · cases e
theorem RW.str {s : List Nat} (h : RW K H (.str s) x) : x = .str ⟨s.toArray⟩ ∧ s.length ≤ line ∧ ∀ c ∈ s, c < 128 := by
  rcases h with h | ⟨_, _, _, e, _⟩
  · exact h
  · cases e
theorem RW.tup {s : List D} (h : RW K H (.tup s) x) : ∃ a vs, x = .ref a ∧ SqT K H a vs ∧ s.length ≤ line ∧ RDs K H s vs := by
  rcases h with h | ⟨_, _, _, e, _⟩
  · exact h
  · cases e
theorem RW.lst {s : List D} (h : RW K H (.lst s) x) : ∃ a vs, x = .ref a ∧ SqL K H a vs ∧ s.length ≤ line ∧ RDs K H s vs := by
  rcases h with ⟨a, vs, h1, h2, h3, h4⟩ | ⟨_, a, vs, e, h1, h2, h3, h4⟩
  · exact ⟨a, vs, h1, h2.sq, h3, h4⟩
  · cases e
    exact ⟨a, vs, h1, h2, h3, h4⟩
theorem str_app (a b : List Nat) : ((⟨a.toArray⟩ : Str) ++ ⟨b.toArray⟩) = ⟨(a ++ b).toArray⟩ := by
  show (⟨a.toArray ++ b.toArray⟩ : Str) = _
  simp
theorem str_len (a : List Nat) : (⟨a.toArray⟩ : Str).length = a.length := by simp [Str.length]
end
/-! ### a tuple once -/
theorem tup_one (l : Addr) (items : Array Value) (n : Nat) (dd : Option Addr) (sl : Array (Option Value)) (u : Tok) :
    Meets (Builtin.«tuple.__mul__» ⟨[.ref l, .int 1 u], []⟩) (fun _ R s => s.heap.get? l = some { cls := .type "tuple", dict := dd, data := .seq items n, slots := sl } ∧ R (.ok (.ret (Value.ref l))) s) :=
  .of_wp fun prog w A R s h => by
    obtain ⟨hp, g, d, tk, os⟩ := s
    obtain ⟨hl, h⟩ := h
    have f1 := AutoSeq1.idx_int
    have c1 : (items.isEmpty || (1 : Int) == 1) = true := by simp
    wp_walk using wpAny_loadPart' hl
    repeat (first
      | (refine wpAny_ite_true (by simp) ?_; wp_walk using wpAny_loadPart' hl))
    exact ⟨_, rfl, h⟩
/-- tuple * 1: itself -/
def rOneT (K : PySem.W.Frag) : R2 := fun x y H Q => ∃ l xs, x = .ref l ∧ y = .int 1 ∧ SqT K H l xs ∧ Q (.ref l) H
theorem op_oneT {X : L2.Cx} : OpR X (binaryOp .Mult) (rOneT X.K) := by
  intro pins s σ H x y v u Q I rx ry h
  obtain ⟨l, xs, rfl, rfl, hT, q⟩ := h
  cases rx
  obtain ⟨t, rfl⟩ := ry
  obtain ⟨its, r, ⟨⟨cls, dd, data, sl⟩, ho, hc, n, hd⟩, hs⟩ := I.tuple hT
  simp only at hc hd
  subst hc hd
  refine wpAny_binaryOp_repeat_ref (T := "tuple") (U := "int") (by decide) ⟨_, ho, rfl⟩ (fun s' => typeIs_int s' 1 t) noFill_tuple_mul F.fills_int_mul F.slot_int_rmul repeat_tuple F.slot_int_index.lookup
    (call_meets F.slot_int_rmul (typeIs_int s 1 t) F.entry_int_rmul (F.args_int_rmul_2 _ _) (int_rmul_tuple 1 t l its.toArray n dd sl)
      ⟨ho, rfl, ⟨_, ho, rfl⟩, call_meets F.slot_tuple_mul ⟨_, ho, rfl⟩ F.entry_tuple_mul (F.args_tuple_mul_2 _ _) (tup_one l its.toArray n dd sl t) ⟨ho, ?_⟩⟩)
  exact ⟨.ref l, H, I, rfl, q⟩
theorem int_rmul_list (a : Int) (t : Tok) (l : Addr) (items : Array Value) (n : Nat) (dd : Option Addr) (sl : Array (Option Value)) :
    Meets (Builtin.«int.__rmul__» ⟨[.int a t, .ref l], []⟩) (fun _ R s => s.heap.get? l = some { cls := .type "list", dict := dd, data := .seq items n, slots := sl } ∧ R (.ok (.ret Value.notImplemented)) s) :=
  .of_wp fun prog w A R s h => by
    obtain ⟨hp, g, d, tk, os⟩ := s
    obtain ⟨hl, h⟩ := h
    wp_walk using wpAny_loadPart' hl
    exact ⟨_, rfl, h⟩
theorem list_mulW (l : Addr) (items : Array Value) (n : Nat) (dd : Option Addr) (sl : Array (Option Value)) (x : Int) (u : Tok) (hc0 : ¬(!Builtin.List.listFitsIndex x) = true) (hc1 : ¬items.size * x.toNat > (2 ^ 63 - 1) / 8) (hc2 : ¬Builtin.List.listTooLong (items.size * x.toNat) = true) :
    Meets (Builtin.«list.__mul__» ⟨[.ref l, .int x u], []⟩) (fun _ R s => s.heap.get? l = some { cls := .type "list", dict := dd, data := .seq items n, slots := sl } ∧ R (.ok (.ret (Value.ref s.heap.objs.size))) { s with heap := s.heap.push { cls := Value.type "list", data := Data.seq (List.foldl (fun x1 x2 => x1 ++ x2) #[] (List.replicate (if items.isEmpty = true then 0 else x.toNat) items)) }, toks := s.toks }) :=
  .of_wp fun prog w A R s h => by
    obtain ⟨hp, g, d, tk, os⟩ := s
    obtain ⟨hl, h⟩ := h
    have f1 := AutoSeq1.idx_int
    have hsz : (List.foldl (fun x1 x2 => x1 ++ x2) #[] (List.replicate (if items.isEmpty = true then 0 else x.toNat) items)).size ≤ sizeLine := AutoListH.joined_fits hc2
    wp_walk using wpAny_loadPart' hl
    repeat (first
      | (refine wpAny_ite_false (decide_eq_false (Nat.not_lt.mpr hsz)) ?_; wp_walk using wpAny_loadPart' hl)
      | (refine wpAny_ite_false (decide_eq_false hc0) ?_; wp_walk using wpAny_loadPart' hl)
      | (refine wpAny_ite_false (decide_eq_false hc1) ?_; wp_walk using wpAny_loadPart' hl)
      | (refine wpAny_ite_false (decide_eq_false hc2) ?_; wp_walk using wpAny_loadPart' hl))
    exact ⟨_, rfl, h⟩
/-- list * int, read -/
def rRepL (K : PySem.W.Frag) : R2 := fun x y H Q => ∃ l k xs, x = .ref l ∧ y = .int k ∧ SqL K H l xs ∧ -(2 ^ 63) ≤ k ∧ k < 2 ^ 63 ∧ xs.length * k.toNat ≤ sizeLine ∧ ∀ p, H p = none → Q (.ref p) (upd H p (.lst (List.replicate k.toNat xs).flatten))
theorem rep_flat {α : Type} (xs : List α) : ∀ k, Ev.rep k xs = (List.replicate k xs).flatten
  | 0 => rfl
  | k + 1 => by
    show xs ++ Ev.rep k xs = _
    rw [rep_flat xs k, List.replicate_succ, List.flatten_cons]
theorem op_repL {X : L2.Cx} : OpR X (binaryOp .Mult) (fun x y H Q => rRepL X.K x y H (QL Q)) := by
  intro pins s σ H x y v u Q I rx ry h
  refine EP_lkw ?_
  obtain ⟨l, k, xs, rfl, rfl, hH, h1, h2, hz, q⟩ := h
  cases rx
  obtain ⟨t, rfl⟩ := ry
  obtain ⟨its, r, ⟨⟨c1, d1, t1, s1⟩, n1, e1, k1, _, a1⟩, z1⟩ := I.list hH
  simp only at k1 a1
  subst k1 a1
  have hl := r.length
  have hlen : its.toArray.size * k.toNat ≤ sizeLine := by rw [List.size_toArray, ← hl]; exact hz
  have hcap : ¬ its.toArray.size * k.toNat > (2 ^ 63 - 1) / 8 := by
    have : (sizeLine : Nat) ≤ (2 ^ 63 - 1) / 8 := by decide
    omega
  have hfit : ¬ (!Builtin.List.listFitsIndex k) = true := by
    rw [fitsIndex_both h1 h2]
    exact Bool.false_ne_true
  have hlong : ¬ Builtin.List.listTooLong (its.toArray.size * k.toNat) = true := by
    rw [notLongL hlen]
    exact Bool.false_ne_true
  have hnew : List.foldl (fun x1 x2 => x1 ++ x2) #[] (List.replicate (if its.toArray.isEmpty = true then 0 else k.toNat) its.toArray) = (Ev.rep k.toNat its).toArray := by
    rw [rep_flat]
    have f0 : ∀ m : Nat, List.foldl (fun x1 x2 => x1 ++ x2) #[] (List.replicate m its.toArray) = (List.replicate m its).flatten.toArray := fun m => by
      have := foldl_rep its m []
      rw [List.nil_append] at this
      exact this
    rw [f0]
    cases its with
    | nil => simp
    | cons a r' => rw [if_neg (by simp)]
  refine wpAny_binaryOp_repeat_ref (T := "list") (U := "int") (by decide) ⟨_, e1, rfl⟩ (fun s' => typeIs_int s' k t) noFill_list_mul F.fills_int_mul F.slot_int_rmul repeat_list F.slot_int_index.lookup
    (call_meets F.slot_int_rmul (typeIs_int s k t) F.entry_int_rmul (F.args_int_rmul_2 _ _) (int_rmul_list k t l its.toArray n1 d1 s1)
      ⟨e1, rfl, ⟨_, e1, rfl⟩, call_meets F.slot_list_mul ⟨_, e1, rfl⟩ F.entry_list_mul (F.args_list_mul_2 _ _) (list_mulW l its.toArray n1 d1 s1 k t hfit hcap hlong) ⟨e1, ?_⟩⟩)
  rw [hnew]
  exact ⟨.ref _, _, I.lnew (t' := s.toks) (by rw [rep_flat]; exact r.rep k.toNat) (by rw [PyProof.Rows.lm_len_rep_flat, Nat.mul_comm]; exact hz), rfl, q _ I.fresh⟩
section
variable {X : L2.Cx}
/-- the operation o over data -/
def rOpD (K : PySem.W.Frag) (o : Op) : R2 := fun x y H Q => ∃ a b z, RW K H a x ∧ RW K H b y ∧ opD o a b = some z ∧ GD K H z Q
theorem opR_D (o : Op) : OpR X (binaryOp (pyOp o)) (rOpD X.K o) := by
  intro pins s σ H x y v u Q I rx ry h
  obtain ⟨a, b, z, ha, hb, hz, q⟩ := h
  unfold opD at hz
  split at hz
  · cases hz
    rw [ha.int] at rx
    rw [hb.int] at ry
    exact op_add pins s σ H _ _ v u Q I rx ry ⟨_, _, rfl, rfl, q.val rfl⟩
  · cases hz
    rw [ha.bl] at rx
    rw [hb.int] at ry
    cases rx
    obtain ⟨t, rfl⟩ := ry
    exact PySem.IntBool.add_bool_int ⟨.int _, H, I.tok _, ⟨_, rfl⟩, q.val rfl⟩
  · cases hz
    rw [ha.int] at rx
    rw [hb.bl] at ry
    exact op_add_ib pins s σ H _ _ v u Q I rx ry ⟨_, _, rfl, rfl, q.val rfl⟩
  · rename_i a b
    split at hz
    · rename_i hl
      cases hz
      obtain ⟨e1, l1, c1⟩ := ha.str
      obtain ⟨e2, l2, c2⟩ := hb.str
      rw [e1] at rx
      rw [e2] at ry
      refine op_add_str pins s σ H _ _ v u Q I rx ry ⟨_, _, rfl, rfl, by rw [str_len, str_len, ← line_eq]; exact hl, ?_⟩
      rw [str_app]
      exact q.val ⟨rfl, by rw [List.length_append]; exact hl, fun c hc => (List.mem_append.mp hc).elim (c1 c) (c2 c)⟩
    · cases hz
  · rename_i a b
    split at hz
    · rename_i hl
      cases hz
      obtain ⟨p, vs, e1, h1, l1, r1⟩ := ha.tup
      obtain ⟨p2, vs2, e2, h2, l2, r2⟩ := hb.tup
      rw [e1] at rx
      rw [e2] at ry
      have ll : vs.length + vs2.length ≤ sizeLine := by rw [r1.len, r2.len, ← line_eq]; exact hl
      refine op_catA pins s σ H _ _ v u Q I rx ry ⟨p, p2, vs, vs2, rfl, rfl, h1, h2, ll, fun e => ?_, fun _ e => ?_, fun _ _ p3 hp => ?_⟩
      · have ea : a = [] := by
          have := r1.len
          rw [e] at this
          exact List.eq_nil_of_length_eq_zero this.symm
        subst ea
        exact q.val ⟨p2, vs2, rfl, h2, l2, r2⟩
      · have eb : b = [] := by
          have := r2.len
          rw [e] at this
          exact List.eq_nil_of_length_eq_zero this.symm
        subst eb
        refine q.val ⟨p, vs, rfl, h1, ?_, ?_⟩
        · rw [List.append_nil]; exact l1
        · rw [List.append_nil]; exact r1
      · exact q.tup (by rw [List.length_append]; exact hl) (r1.app r2) hp
    · cases hz
  · rename_i a b
    split at hz
    · rename_i hl
      cases hz
      obtain ⟨p, vs, e1, h1, l1, r1⟩ := ha.lst
      obtain ⟨p2, vs2, e2, h2, l2, r2⟩ := hb.lst
      rw [e1] at rx
      rw [e2] at ry
      have ll : vs.length + vs2.length ≤ sizeLine := by rw [r1.len, r2.len, ← line_eq]; exact hl
      exact EP_lkw (op_catS pins s σ H _ _ v u (QL Q) I rx ry ⟨p, p2, vs, vs2, rfl, rfl, h1, h2, ll, fun p3 hp => q.lst (by rw [List.length_append]; exact hl) (r1.app r2) hp⟩)
    · cases hz
  · cases hz
    rw [ha.int] at rx
    rw [hb.int] at ry
    exact op_sub pins s σ H _ _ v u Q I rx ry ⟨_, _, rfl, rfl, q.val rfl⟩
  · split at hz
    · rename_i hl
      cases hz
      rw [ha.int] at rx
      rw [hb.int] at ry
      refine op_mul pins s σ H _ _ v u Q I rx ry ⟨_, _, rfl, rfl, ?_, q.val rfl⟩
      rcases hl with hl | hl
      · exact .inl (by omega)
      · exact .inr (by omega)
    · cases hz
  · split at hz
    · rename_i hl
      cases hz
      obtain ⟨e1, l1, c1⟩ := ha.str
      rw [e1] at rx
      rw [hb.int] at ry
      refine op_mulS pins s σ H _ _ v u Q I rx ry ⟨_, _, rfl, rfl, hl.1, hl.2, q.val ⟨rfl, ?_, fun c hc => c1 c (mem_rep hc)⟩⟩
      rw [len_rep]
      exact hl.2
    · cases hz
  · rename_i a as b
    split at hz
    · rename_i hl
      cases hz
      obtain ⟨p, vs, e1, h1, l1, r1⟩ := ha.tup
      rw [e1] at rx
      rw [hb.int] at ry
      by_cases h2 : b = 1
      · subst h2
        refine op_oneT pins s σ H _ _ v u Q I rx ry ⟨p, vs, rfl, rfl, h1, q.val ?_⟩
        show RD X.K H (.tup (Ev.rep 1 (a :: as))) (.ref p)
        have e : Ev.rep 1 (a :: as) = a :: as := by simp [Ev.rep]
        rw [e]
        exact ⟨p, vs, rfl, h1, l1, r1⟩
      refine op_repT pins s σ H _ _ v u Q I rx ry ⟨p, _, vs, rfl, rfl, h1, ?_, by omega, hl.2.1, by rw [r1.len]; exact hl.2.2, fun p3 hp => q.tup ?_ (RDs.rep r1 _) hp⟩
      · intro e
        have := r1.len
        rw [e] at this
        cases this
      · rw [len_rep]
        have h3 : (a :: as).length * b.toNat ≤ 1000 * 1000 := Nat.mul_le_mul hl.2.2 (by omega)
        exact Nat.le_trans h3 (by decide)
    · cases hz
  · rename_i a b
    split at hz
    · rename_i hl
      cases hz
      obtain ⟨p, vs, e1, h1, l1, r1⟩ := ha.lst
      rw [e1] at rx
      rw [hb.int] at ry
      refine op_repL pins s σ H _ _ v u Q I rx ry ⟨p, _, vs, rfl, rfl, h1, by omega, by omega, by rw [r1.len, ← line_eq]; exact hl.2, fun p3 hp => q.lst (by rw [len_rep]; exact hl.2) (RDs.rep r1 _) hp⟩
    · cases hz
  · split at hz
    · rename_i hl
      cases hz
      rw [ha.int] at rx
      rw [hb.int] at ry
      exact op_fdivN pins s σ H _ _ v u Q I rx ry ⟨_, _, rfl, rfl, hl, q.val rfl⟩
    · cases hz
  · split at hz
    · rename_i hl
      cases hz
      rw [ha.int] at rx
      rw [hb.int] at ry
      exact op_modN pins s σ H _ _ v u Q I rx ry ⟨_, _, rfl, rfl, hl, q.val rfl⟩
    · cases hz
  · split at hz
    · rename_i hl
      cases hz
      rw [ha.int] at rx
      rw [hb.int] at ry
      exact op_pow pins s σ H _ _ v u Q I rx ry ⟨_, _, rfl, rfl, ⟨hl.1, by omega, hl.2.2⟩, q.val rfl⟩
    · cases hz
  · cases hz
end
end EvS

namespace EvS
open PySem PySem.Spec PyProof.Rows L2 Ev
def pyCop : Cop → CmpOp
  | .lt => .Lt | .le => .LtE | .gt => .Gt | .ge => .GtE | .eq => .Eq | .ne => .NotEq | .isin => .In | .notin => .NotIn
theorem any_inD (x : D) : ∀ xs : List D, ((toPys xs).any fun y => PyData.eqv y (toPy x)) = inD x xs
  | [] => rfl
  | y :: ys => by
    show (PyData.eqv (toPy y) (toPy x) || (toPys ys).any _) = (D.eqv y x || inD x ys)
    rw [toPy_eqv, any_inD x ys]
section
variable {X : L2.Cx}
/-- the comparison o over data -/
def rCopD (K : PySem.W.Frag) (o : Cop) : R2 := fun x y H Q => ∃ a b k, RW K H a x ∧ RW K H b y ∧ copD o a b = some k ∧ Q (.bl k) H
theorem in_lst {pins : List (Addr × Obj)} {s : Shared} {σ : L2.St} {H : Hp} {x y : V} {v u : Value} {Q : VK} {a : D} {xs : List D} (hu : X.A.units + 70 < cLine) (I : L2.Inv X pins σ H s) (rx : RelV x v) (ry : RelV y u)
    (ha : RW X.K H a x) (hd : a.depth ≤ 64) :
    (RW X.K H (.lst xs) y → (Q (.bl (inD a xs)) H → wpAny (model X.prog X.w) X.A (compareOp .In v u) (EP X pins σ Q) X.xe s) ∧ (Q (.bl (!inD a xs)) H → wpAny (model X.prog X.w) X.A (compareOp .NotIn v u) (EP X pins σ Q) X.xe s)) ∧
    (RW X.K H (.tup xs) y → (Q (.bl (inD a xs)) H → wpAny (model X.prog X.w) X.A (compareOp .In v u) (EP X pins σ Q) X.xe s) ∧ (Q (.bl (!inD a xs)) H → wpAny (model X.prog X.w) X.A (compareOp .NotIn v u) (EP X pins σ Q) X.xe s)) := by
  obtain ⟨as, r1⟩ := Dp.reads I _ x v ha.dp rx
  have hr : X.A.units + 1 + min (PyData.depthAll (toPys xs)) (toPy a).depth < cLine := by
    have := Nat.min_le_right (PyData.depthAll (toPys xs)) (toPy a).depth
    rw [toPy_depth] at this ⊢
    omega
  refine ⟨fun hb => ?_, fun hb => ?_⟩
  · obtain ⟨bs, r2⟩ := Dp.reads I _ y u hb.dp ry
    have hl : PyData.canLayAll0 (toPys xs) = true := hb.lay
    exact ⟨fun q => SeqAt.in_list_reads (xs := toPys xs) r2 r1 hl ha.lay hr ⟨.bl _, H, I, rfl, by rw [any_inD]; exact q⟩,
      fun q => SeqAt.notIn_list_reads (xs := toPys xs) r2 r1 hl ha.lay hr ⟨.bl _, H, I, rfl, by rw [any_inD]; exact q⟩⟩
  · obtain ⟨bs, r2⟩ := Dp.reads I _ y u hb.dp ry
    have hl : PyData.canLayAll0 (toPys xs) = true := hb.lay
    exact ⟨fun q => SeqAt.in_tuple_reads (xs := toPys xs) r2 r1 hl ha.lay hr ⟨.bl _, H, I, rfl, by rw [any_inD]; exact q⟩,
      fun q => SeqAt.notIn_tuple_reads (xs := toPys xs) r2 r1 hl ha.lay hr ⟨.bl _, H, I, rfl, by rw [any_inD]; exact q⟩⟩
theorem inS_some {c s : List Nat} {k : Bool} (h : inS c s = some k) : ∃ x, c = [x] ∧ k = decide (x ∈ s) := by
  unfold inS at h
  split at h
  · rename_i x
    cases h
    exact ⟨x, rfl, by rw [Bool.eq_iff_iff]; simp⟩
  · cases h
theorem copR_D (o : Cop) (hu : X.A.units + 70 < cLine) : OpR X (compareOp (pyCop o)) (rCopD X.K o) := by
  intro pins s σ H x y v u Q I rx ry h
  obtain ⟨a, b, k, ha, hb, hz, q⟩ := h
  unfold copD at hz
  split at hz
  · cases hz
    rw [ha.int] at rx
    rw [hb.int] at ry
    exact op_lt pins s σ H _ _ v u Q I rx ry ⟨_, _, rfl, rfl, q⟩
  · cases hz
    rw [ha.int] at rx
    rw [hb.int] at ry
    exact op_le pins s σ H _ _ v u Q I rx ry ⟨_, _, rfl, rfl, q⟩
  · cases hz
    rw [ha.int] at rx
    rw [hb.int] at ry
    exact op_gt pins s σ H _ _ v u Q I rx ry ⟨_, _, rfl, rfl, q⟩
  · cases hz
    rw [ha.int] at rx
    rw [hb.int] at ry
    exact op_ge pins s σ H _ _ v u Q I rx ry ⟨_, _, rfl, rfl, q⟩
  · split at hz
    · rename_i hd
      cases hz
      obtain ⟨as, r1⟩ := Dp.reads I _ x v ha.dp rx
      obtain ⟨bs, r2⟩ := Dp.reads I _ y u hb.dp ry
      exact SeqAt.compareEq_reads r1 r2 ha.lay hb.lay (by rw [toPy_depth, toPy_depth]; omega) ⟨.bl _, H, I, rfl, by rw [toPy_eqv]; exact q⟩
    · cases hz
  · split at hz
    · rename_i hd
      cases hz
      obtain ⟨as, r1⟩ := Dp.reads I _ x v ha.dp rx
      obtain ⟨bs, r2⟩ := Dp.reads I _ y u hb.dp ry
      exact SeqAt.compareNe_reads r1 r2 ha.lay hb.lay (by rw [toPy_depth, toPy_depth]; omega) ⟨.bl _, H, I, rfl, by rw [toPy_eqv]; exact q⟩
    · cases hz
  · obtain ⟨c, rfl, rfl⟩ := inS_some hz
    obtain ⟨e1, _⟩ := ha.str
    obtain ⟨e2, _⟩ := hb.str
    rw [e1] at rx
    rw [e2] at ry
    exact op_in_sign pins s σ H _ _ v u Q I rx ry ⟨c, _, rfl, rfl, q⟩
  · split at hz
    · rename_i b' hb'
      cases hz
      obtain ⟨c, rfl, rfl⟩ := inS_some hb'
      obtain ⟨e1, _⟩ := ha.str
      obtain ⟨e2, _⟩ := hb.str
      rw [e1] at rx
      rw [e2] at ry
      exact op_notIn_sign pins s σ H _ _ v u Q I rx ry ⟨c, _, rfl, rfl, q⟩
    · cases hz
  · split at hz
    · rename_i hd
      cases hz
      exact ((in_lst hu I rx ry ha hd).2 hb).1 q
    · cases hz
  · split at hz
    · rename_i hd
      cases hz
      exact ((in_lst hu I rx ry ha hd).1 hb).1 q
    · cases hz
  · split at hz
    · rename_i hd
      cases hz
      exact ((in_lst hu I rx ry ha hd).2 hb).2 q
    · cases hz
  · split at hz
    · rename_i hd
      cases hz
      exact ((in_lst hu I rx ry ha hd).1 hb).2 q
    · cases hz
  · cases hz
end
end EvS

namespace EvS
open PySem PySem.Spec PyProof.Rows L2 Ev

/-! ### keys -/
theorem kf_mono : ∀ {n m : Nat} {x : D}, x.kf n = true → n ≤ m → x.kf m = true
  | 0, _, .tup _, h, _ => by simp [D.kf] at h
  | n + 1, m, .tup xs, h, hm => by
    obtain ⟨m', rfl⟩ : ∃ m', m = m' + 1 := ⟨m - 1, by omega⟩
    rw [show D.kf (n + 1) (.tup xs) = xs.all (D.kf n) by simp [D.kf]] at h
    rw [show D.kf (m' + 1) (.tup xs) = xs.all (D.kf m') by simp [D.kf], List.all_eq_true]
    intro y hy
    exact kf_mono (List.all_eq_true.mp h y hy) (by omega)
  | _, _, .lst _, h, _ => by simp [D.kf] at h
  | _, _, .non, _, _ => by simp [D.kf]
  | _, _, .bl _, _, _ => by simp [D.kf]
  | _, _, .int _, _, _ => by simp [D.kf]
  | _, _, .str _, _, _ => by simp [D.kf]
theorem key_kf {x : D} (h : x.key = true) : x.kf 8 = true := by
  cases x with
  | tup xs =>
    have h' : xs.all (D.kf 7) = true := h
    simp [D.kf] at h' ⊢
    exact h'
  | _ => simp [D.key] at h
mutual
theorem kf_depth : ∀ (x : D) (n : Nat), x.kf n = true → (toK x).depth ≤ n
  | .non, _, _ => Nat.zero_le _
  | .bl _, _, _ => Nat.zero_le _
  | .int _, _, _ => Nat.zero_le _
  | .str _, _, _ => Nat.zero_le _
  | .tup xs, 0, h => by simp [D.kf] at h
  | .tup xs, n + 1, h => by
    have h' : ∀ y ∈ xs, D.kf n y = true := by simpa [D.kf] using h
    show PySem.NestedKey.depthAll (toKs xs) + 1 ≤ n + 1
    exact Nat.succ_le_succ (kfs_depth xs n h')
  | .lst xs, _, h => by simp [D.kf] at h
theorem kfs_depth : ∀ (xs : List D) (n : Nat), (∀ y ∈ xs, y.kf n = true) → PySem.NestedKey.depthAll (toKs xs) ≤ n
  | [], _, _ => Nat.zero_le _
  | x :: xs, n, h => by
    show max (toK x).depth (PySem.NestedKey.depthAll (toKs xs)) ≤ n
    exact Nat.max_le.mpr ⟨kf_depth x n (h x List.mem_cons_self), kfs_depth xs n fun y hy => h y (List.mem_cons_of_mem _ hy)⟩
end
theorem str_dec (a b : List Nat) : (a == b) = decide ((⟨a.toArray⟩ : Str) = ⟨b.toArray⟩) := by
  rw [← str_beq, Bool.beq_eq_decide_eq]
mutual
theorem eqv_beq : ∀ (x y : D) (n m : Nat), x.kf n = true → y.kf m = true → D.eqv x y = PySem.NestedKey.beq (toK x) (toK y)
  | .tup xs, .tup ys, 0, _, h, _ => by simp [D.kf] at h
  | .tup xs, .tup ys, _ + 1, 0, _, h => by simp [D.kf] at h
  | .tup xs, .tup ys, n + 1, m + 1, h, h' => by
    show D.eqvs xs ys = PySem.NestedKey.beqAll (toKs xs) (toKs ys)
    exact eqvs_beq xs ys n m (by simpa [D.kf] using h) (by simpa [D.kf] using h')
  | .lst _, _, _, _, h, _ => by simp [D.kf] at h
  | _, .lst _, _, _, _, h => by simp [D.kf] at h
  | .str a, .str b, _, _, _, _ => str_dec a b
  | .int a, .int b, _, _, _, _ => by show (a == b) = decide (a = b); rw [Bool.beq_eq_decide_eq]
  | .bl a, .int b, _, _, _, _ => by show ((if a then 1 else 0) == b) = decide ((if a then 1 else 0) = b); rw [Bool.beq_eq_decide_eq]
  | .int a, .bl b, _, _, _, _ => by show (a == (if b then 1 else 0)) = decide (a = (if b then 1 else 0)); rw [Bool.beq_eq_decide_eq]
  | .bl a, .bl b, _, _, _, _ => by cases a <;> cases b <;> rfl
  | .non, .non, _, _, _, _ => rfl | .non, .bl _, _, _, _, _ => rfl | .non, .int _, _, _, _, _ => rfl | .non, .str _, _, _, _, _ => rfl | .non, .tup _, _, _, _, _ => rfl
  | .bl _, .non, _, _, _, _ => rfl | .bl _, .str _, _, _, _, _ => rfl | .bl _, .tup _, _, _, _, _ => rfl
  | .int _, .non, _, _, _, _ => rfl | .int _, .str _, _, _, _, _ => rfl | .int _, .tup _, _, _, _, _ => rfl
  | .str _, .non, _, _, _, _ => rfl | .str _, .bl _, _, _, _, _ => rfl | .str _, .int _, _, _, _, _ => rfl | .str _, .tup _, _, _, _, _ => rfl
  | .tup _, .non, _, _, _, _ => rfl | .tup _, .bl _, _, _, _, _ => rfl | .tup _, .int _, _, _, _, _ => rfl | .tup _, .str _, _, _, _, _ => rfl
theorem eqvs_beq : ∀ (xs ys : List D) (n m : Nat), (∀ x ∈ xs, x.kf n = true) → (∀ y ∈ ys, y.kf m = true) → D.eqvs xs ys = PySem.NestedKey.beqAll (toKs xs) (toKs ys)
  | [], [], _, _, _, _ => rfl
  | [], _ :: _, _, _, _, _ => rfl
  | _ :: _, [], _, _, _, _ => rfl
  | x :: xs, y :: ys, n, m, h, h' => by
    show (D.eqv x y && D.eqvs xs ys) = (PySem.NestedKey.beq (toK x) (toK y) && PySem.NestedKey.beqAll (toKs xs) (toKs ys))
    rw [eqv_beq x y n m (h x List.mem_cons_self) (h' y List.mem_cons_self), eqvs_beq xs ys n m (fun z hz => h z (List.mem_cons_of_mem _ hz)) fun z hz => h' z (List.mem_cons_of_mem _ hz)]
end
theorem eqv_key {x y : D} (hx : x.key = true) (hy : y.key = true) : D.eqv x y = decide (toK x = toK y) := by
  rw [PySem.NestedKey.decide_eq]
  exact eqv_beq x y 8 8 (key_kf hx) (key_kf hy)

/-! ### the dict's entries -/
section
variable {L : Lw} {H : Hp}
theorem KVs.get {k : D} (hk : k.key = true) : ∀ {kvs : List (D × D)} {xs : List (PySem.NestedKey × Addr × Value)}, KVs L H kvs xs →
    (getD k kvs = none ∧ atKey xs (toK k) = none) ∨ ∃ v p u, getD k kvs = some v ∧ atKey xs (toK k) = some p ∧ RelV u p.2 ∧ RD L.K H v u
  | [], xs, h => by
    have e : xs = [] := h
    subst e
    exact .inl ⟨rfl, rfl⟩
  | (k', v') :: r, xs, ⟨a, val, u, xr, h1, h2, h3, h4, h5, h6⟩ => by
    subst h1
    have e := eqv_key h2 hk
    by_cases c : toK k' = toK k
    · rw [decide_eq_true c] at e
      refine .inr ⟨v', (a, val), u, ?_, ?_, h4, h5⟩
      · show (if D.eqv k' k then some v' else _) = _
        rw [e]
        rfl
      · unfold atKey
        rw [List.find?_cons_of_pos (by simpa using c)]
        rfl
    · rw [decide_eq_false c] at e
      have e1 : getD k ((k', v') :: r) = getD k r := by
        show (if D.eqv k' k then some v' else getD k r) = _
        rw [e]
        rfl
      have e2 : atKey ((toK k', a, val) :: xr) (toK k) = atKey xr (toK k) := by
        unfold atKey
        rw [List.find?_cons_of_neg (by simpa using c)]
      rw [e1, e2]
      exact KVs.get hk h6
theorem KVs.len : ∀ {kvs : List (D × D)} {xs : List (PySem.NestedKey × Addr × Value)}, KVs L H kvs xs → xs.length = kvs.length
  | [], xs, h => by
    have e : xs = [] := h
    subst e
    rfl
  | (k', v') :: r, xs, ⟨a, val, u, xr, h1, h2, h3, h4, h5, h6⟩ => by
    subst h1
    rw [List.length_cons, List.length_cons, KVs.len h6]
theorem putD_len (k v : D) : ∀ kvs : List (D × D), (putD k v kvs).length ≤ kvs.length + 1
  | [] => Nat.le_refl _
  | (k', v') :: r => by
    show (if D.eqv k' k then (k', v) :: r else (k', v') :: putD k v r).length ≤ _
    split
    · simp
    · have := putD_len k v r
      simp only [List.length_cons]
      omega
theorem KVs.putNo {k v : D} (hk : k.key = true) {ka : Addr} {val : Value} {u : V} (h1 : RD L.K H k (.ref ka)) (h2 : RelV u val) (h3 : RD L.K H v u) : ∀ {kvs : List (D × D)} {xs : List (PySem.NestedKey × Addr × Value)}, KVs L H kvs xs →
    atKey xs (toK k) = none → KVs L H (putD k v kvs) (xs ++ [(toK k, ka, val)])
  | [], xs, h, _ => by
    have e : xs = [] := h
    subst e
    exact ⟨ka, val, u, [], rfl, hk, h1, h2, h3, rfl⟩
  | (k', v') :: r, xs, ⟨a, val', u', xr, g1, g2, g3, g4, g5, g6⟩, hn => by
    subst g1
    have c : ¬ toK k' = toK k := fun c => by
      unfold atKey at hn
      rw [List.find?_cons_of_pos (by simpa using c)] at hn
      cases hn
    have e2 : atKey ((toK k', a, val') :: xr) (toK k) = atKey xr (toK k) := by
      unfold atKey
      rw [List.find?_cons_of_neg (by simpa using c)]
    have e : putD k v ((k', v') :: r) = (k', v') :: putD k v r := by
      show (if D.eqv k' k then _ else _) = _
      rw [eqv_key g2 hk, decide_eq_false c]
      rfl
    rw [e]
    rw [e2] at hn
    exact ⟨a, val', u', xr ++ [(toK k, ka, val)], rfl, g2, g3, g4, g5, KVs.putNo hk h1 h2 h3 g6 hn⟩
theorem KVs.putYes {k v : D} (hk : k.key = true) {val : Value} {u : V} (h2 : RelV u val) (h3 : RD L.K H v u) : ∀ {kvs : List (D × D)} {xs : List (PySem.NestedKey × Addr × Value)}, KVs L H kvs xs → (xs.map (·.1)).Nodup →
    (atKey xs (toK k)).isSome = true → KVs L H (putD k v kvs) (xs.map (putAt (toK k) val))
  | [], xs, h, _, hs => by
    have e : xs = [] := h
    subst e
    cases hs
  | (k', v') :: r, xs, ⟨a, val', u', xr, g1, g2, g3, g4, g5, g6⟩, hn, hs => by
    subst g1
    have hn' := List.nodup_cons.mp hn
    by_cases c : toK k' = toK k
    · have e : putD k v ((k', v') :: r) = (k', v) :: r := by
        show (if D.eqv k' k then _ else _) = _
        rw [eqv_key g2 hk, decide_eq_true c]
        rfl
      rw [e]
      have same : xr.map (putAt (toK k) val) = xr := by
        conv => rhs; rw [← List.map_id xr]
        refine List.map_congr_left fun x hx => ?_
        have : ¬ x.1 = toK k := fun q => hn'.1 (by
          show toK k' ∈ xr.map (·.1)
          rw [c, ← q]
          exact List.mem_map.mpr ⟨x, hx, rfl⟩)
        show (if x.1 = toK k then _ else x) = x
        rw [if_neg this]
      rw [List.map_cons, same]
      refine ⟨a, val, u, xr, ?_, g2, g3, h2, h3, g6⟩
      show (if toK k' = toK k then _ else _) :: xr = _
      rw [if_pos c]
    · have e : putD k v ((k', v') :: r) = (k', v') :: putD k v r := by
        show (if D.eqv k' k then _ else _) = _
        rw [eqv_key g2 hk, decide_eq_false c]
        rfl
      have e2 : atKey ((toK k', a, val') :: xr) (toK k) = atKey xr (toK k) := by
        unfold atKey
        rw [List.find?_cons_of_neg (by simpa using c)]
      rw [e, List.map_cons]
      rw [e2] at hs
      refine ⟨a, val', u', xr.map (putAt (toK k) val), ?_, g2, g3, g4, g5, KVs.putYes hk h2 h3 g6 hn'.2 hs⟩
      show (if toK k' = toK k then _ else _) :: _ = _
      rw [if_neg c]
end

/-! ### keys in the heap -/
section
variable {X : L2.Cx} {pins : List (Addr × Obj)} {σ : L2.St} {H : Hp} {s : Shared}
mutual
theorem RD.nested (I : L2.Inv X pins σ H s) : ∀ (x : D) (n : Nat) (v : V) (u : Value), x.kf n = true → RD X.K H x v → RelV v u → PySem.NestedIs s.heap (toK x) u
  | .non, _, v, u, _, h, r => by
    have e : v = .non := h
    subst e
    cases r
    exact .none
  | .bl b, _, v, u, _, h, r => by
    have e : v = .bl b := h
    subst e
    cases r
    exact .bool rfl
  | .int i, _, v, u, _, h, r => by
    have e : v = .int i := h
    subst e
    obtain ⟨t, rfl⟩ := r
    exact .int i t
  | .str z, _, v, u, _, h, r => by
    obtain ⟨e, _⟩ := h
    subst e
    obtain ⟨t, rfl⟩ := r
    exact .text _ t
  | .tup xs, 0, _, _, hk, _, _ => by simp [D.kf] at hk
  | .tup xs, n + 1, v, u, hk, ⟨a, vs, e, h1, h2, h3⟩, r => by
    subst e
    cases r
    obtain ⟨its, rv, ⟨o, ho, hc, m, hd⟩, _⟩ := I.tuple h1
    exact .tup ho hc hd (by simpa using RDs.nested I xs n vs its (by simpa [D.kf] using hk) h3 rv)
  | .lst _, _, _, _, hk, _, _ => by simp [D.kf] at hk
theorem RDs.nested (I : L2.Inv X pins σ H s) : ∀ (xs : List D) (n : Nat) (vs : List V) (us : List Value), (∀ x ∈ xs, x.kf n = true) → RDs X.K H xs vs → Vals vs us → PySem.NestedAll s.heap (toKs xs) us
  | [], _, vs, us, _, h, r => by
    have e : vs = [] := h
    subst e
    cases r
    exact .nil
  | x :: xs, n, vs, us, hk, ⟨v, vr, e, h1, h2⟩, r => by
    subst e
    cases r with
    | cons r rr => exact .cons (RD.nested I x n v _ (hk x List.mem_cons_self) h1 r) (RDs.nested I xs n vr _ (fun y hy => hk y (List.mem_cons_of_mem _ hy)) h2 rr)
end
theorem key_is (I : L2.Inv X pins σ H s) {k : D} {a : Addr} (hk : k.key = true) (h : RD X.K H k (.ref a)) : (nestedKind X.prog X.w).is s.heap (toK k) a :=
  ⟨RD.nested I k 8 _ _ (key_kf hk) h rfl, kf_depth k 8 (key_kf hk)⟩
theorem key_ref {K : PySem.W.Frag} {k : D} {v : V} (hk : k.key = true) (h : RD K H k v) : ∃ a, v = .ref a := by
  cases k with
  | tup xs =>
    obtain ⟨a, vs, e, _⟩ := h
    exact ⟨a, e⟩
  | _ => simp [D.key] at hk
theorem keys_are {L : Lw} (hK : X.K = L.K) (hP : X.prog = L.P) (hw : X.w = L.w) (I : L2.Inv X pins σ H s) : ∀ {kvs : List (D × D)} {xs : List (PySem.NestedKey × Addr × Value)}, KVs L H kvs xs → ∀ x ∈ xs, (nestedKind X.prog X.w).is s.heap x.1 x.2.1
  | [], xs, h, x, hx => by
    have e : xs = [] := h
    subst e
    cases hx
  | (k', v') :: r, xs, ⟨a, val, u, xr, h1, h2, h3, h4, h5, h6⟩, x, hx => by
    subst h1
    rcases List.mem_cons.mp hx with rfl | hx
    · rw [← hK] at h3
      exact key_is I h2 h3
    · exact keys_are hK hP hw I h6 x hx
/-- the dict as the library has it -/
theorem dict_of {L : Lw} (hK : X.K = L.K) (hP : X.prog = L.P) (hw : X.w = L.w) (I : L2.Inv X pins σ H s) {d : Addr} {kvs : List (D × D)} {xs : List (PySem.NestedKey × Addr × Value)} (hd : H d = some (DicO L.P L.w d xs)) (h : KVs L H kvs xs) :
    (d == sysModules) = false ∧ s.heap.DictOfH (nestedKind X.prog X.w) d xs := by
  obtain ⟨⟨h1, o, es, ep, h2, h3, h4, h5, h6⟩, _, _⟩ := I.hok d _ hd
  refine ⟨h1, o, es, ep, h2, h3, h4, ?_, keys_are hK hP hw I h, h6⟩
  rw [hP, hw]
  exact h5
/-- .. that is locked -/
theorem dict_ofF {L : Lw} (hK : X.K = L.K) (hP : X.prog = L.P) (hw : X.w = L.w) (I : L2.Inv X pins σ H s) {d : Addr} {u : Obj} {kvs : List (D × D)} {xs : List (PySem.NestedKey × Addr × Value)} (hd : H d = some (.frz u (DicO L.P L.w d xs))) (h : KVs L H kvs xs) :
    (d == sysModules) = false ∧ s.heap.DictOfH (nestedKind X.prog X.w) d xs := by
  obtain ⟨_, ⟨h1, o, es, ep, h2, h3, h4, h5, h6⟩, _, _⟩ := I.hok d _ hd
  refine ⟨h1, o, es, ep, h2, h3, h4, ?_, keys_are hK hP hw I h, h6⟩
  rw [hP, hw]
  exact h5
end
end EvS

/-! Sets of nested tuples (numbers, truths, None, such tuples; no texts). -/
namespace NS
open PySem PySem.Spec PyProof.Rows L2

mutual
/-- no text within a key -/
def noTx : NestedKey → Bool
  | .text _ => false
  | .tup ks => noTxs ks
  | _ => true
def noTxs : List NestedKey → Bool
  | [] => true
  | k :: ks => noTx k && noTxs ks
end
section
variable {P : Program} {w : World}
/-- a question that is answered at once, the same in every state around -/
def Ans (P : Program) (w : World) (m : Sem Bool) (b : Bool) (s : Shared) : Prop := ∀ (A : Around) (E : Value → Shared → Prop) (Q : Bool → Shared → Prop), Q b s → wpAny (model P w) A m Q E s
theorem Ans.of_pure {m : Sem Bool} {b : Bool} {s : Shared} (e : m = pure b) : Ans P w m b s := fun A E Q h => by rw [e]; exact wpAny_pure h
theorem cls_tup {s : Shared} {a : Addr} {o : Obj} {vs : Array Value} {m n : Nat} (ho : s.heap.get? a = some o) (hc : o.cls = .type "tuple") (hd : o.data = .seq vs m) (hq : ∀ v ∈ vs.toList, Ans P w (ofAClassStatement n v) false s) :
    Ans P w (ofAClassStatement (n + 1) (.ref a)) false s := fun A E Q h => by
  have hT : s.TypeIs (.ref a) "tuple" := ⟨o, ho, hc⟩
  have e : (("tuple" : String) == "tuple") = true := by decide
  unfold ofAClassStatement
  refine wpAny_bind (wpAny_typeOf hT ?_)
  simp only [e, if_true, Bool.not_true, Bool.false_eq_true, if_false]
  try refine wpAny_bind (wpAny_pure ?_)
  try simp only [Bool.not_true, Bool.false_eq_true, if_false]
  show wpAny _ _ (seqItems? (.ref a) >>= _) _ _ s
  refine wpAny_bind (wpAny_seqItems ho hd ?_)
  dsimp only
  refine wpAny_bind ?_
  show wpAny _ _ (forIn vs _ _) _ _ s
  rw [← Array.forIn_toList]
  refine wpAny_forIn_list _ (fun l r s' => r.1 = none ∧ s' = s ∧ ∀ v ∈ l, Ans P w (ofAClassStatement n v) false s) _ ?_ ?_ _ _ ⟨rfl, rfl, hq⟩
  · rintro v l r s' ⟨h1, rfl, h2⟩
    refine wpAny_bind (h2 v List.mem_cons_self _ _ _ ?_)
    simp only [Bool.false_eq_true, if_false]
    exact wpAny_pure ⟨rfl, rfl, fun u hu => h2 u (List.mem_cons_of_mem _ hu)⟩
  · rintro ⟨r1, r2⟩ s' ⟨h1, rfl, _⟩
    simp only at h1
    subst h1
    exact wpAny_pure h
theorem val_tup {s : Shared} {a : Addr} {o : Obj} {vs : Array Value} {m n : Nat} (ho : s.heap.get? a = some o) (hc : o.cls = .type "tuple") (hd : o.data = .seq vs m) (hq : ∀ v ∈ vs.toList, Ans P w (hashByValue n v) true s) :
    Ans P w (hashByValue (n + 1) (.ref a)) true s := fun A E Q h => by
  have hT : s.TypeIs (.ref a) "tuple" := ⟨o, ho, hc⟩
  unfold hashByValue
  refine wpAny_bind (wpAny_specialOf hT F.slot_tuple_hash.lookup ?_)
  show wpAny _ _ (seqItems? (.ref a) >>= _) _ _ s
  refine wpAny_bind (wpAny_seqItems ho hd ?_)
  refine wpAny_bind ?_
  show wpAny _ _ (forIn vs _ _) _ _ s
  rw [← Array.forIn_toList]
  refine wpAny_forIn_list _ (fun l r s' => r.1 = none ∧ s' = s ∧ ∀ v ∈ l, Ans P w (hashByValue n v) true s) _ ?_ ?_ _ _ ⟨rfl, rfl, hq⟩
  · rintro v l r s' ⟨h1, rfl, h2⟩
    refine wpAny_bind (h2 v List.mem_cons_self _ _ _ ?_)
    simp only [Bool.not_true, Bool.false_eq_true, if_false]
    exact wpAny_pure ⟨rfl, rfl, fun u hu => h2 u (List.mem_cons_of_mem _ hu)⟩
  · rintro ⟨r1, r2⟩ s' ⟨h1, rfl, _⟩
    simp only at h1
    subst h1
    exact wpAny_pure h
mutual
theorem cls_key : ∀ (k : NestedKey) (v : Value) (n : Nat) (s : Shared), NestedIs s.heap k v → k.depth ≤ n → Ans P w (ofAClassStatement n v) false s
  | .none, _, n, s, x, _ => by cases x; exact .of_pure (by cases n <;> rfl)
  | .num _, _, n, s, x, _ => by cases x <;> exact .of_pure (by cases n <;> rfl)
  | .text _, _, n, s, x, _ => by cases x; exact .of_pure (by cases n <;> rfl)
  | .tup ks, _, n, s, x, hn => by
    cases x with
    | tup hg hc hd hk =>
      simp only [NestedKey.depth] at hn
      cases n with
      | zero => omega
      | succ n => exact cls_tup hg hc hd (cls_keys ks _ n s hk (by omega))
theorem cls_keys : ∀ (ks : List NestedKey) (vs : List Value) (n : Nat) (s : Shared), NestedAll s.heap ks vs → NestedKey.depthAll ks ≤ n → ∀ v ∈ vs, Ans P w (ofAClassStatement n v) false s
  | [], _, n, s, x, _, v, hv => by cases x; cases hv
  | k :: ks, _, n, s, x, hn, v, hv => by
    cases x with
    | cons x1 x2 =>
      simp only [NestedKey.depthAll] at hn
      rcases List.mem_cons.mp hv with e | hv
      · rw [e]; exact cls_key k _ n s x1 (by omega)
      · exact cls_keys ks _ n s x2 (by omega) v hv
end
mutual
theorem val_key : ∀ (k : NestedKey) (v : Value) (n : Nat) (s : Shared), NestedIs s.heap k v → k.depth ≤ n → noTx k = true → Ans P w (hashByValue n v) true s
  | .none, _, n, s, x, _, _ => by cases x; exact .of_pure (by cases n <;> rfl)
  | .num _, _, n, s, x, _, _ => by cases x <;> exact .of_pure (by cases n <;> rfl)
  | .text _, _, n, s, x, _, t => by cases t
  | .tup ks, _, n, s, x, hn, t => by
    cases x with
    | tup hg hc hd hk =>
      simp only [NestedKey.depth] at hn
      cases n with
      | zero => omega
      | succ n => exact val_tup hg hc hd (val_keys ks _ n s hk (by omega) t)
theorem val_keys : ∀ (ks : List NestedKey) (vs : List Value) (n : Nat) (s : Shared), NestedAll s.heap ks vs → NestedKey.depthAll ks ≤ n → noTxs ks = true → ∀ v ∈ vs, Ans P w (hashByValue n v) true s
  | [], _, n, s, x, _, _, v, hv => by cases x; cases hv
  | k :: ks, _, n, s, x, hn, t, v, hv => by
    have t : (noTx k && noTxs ks) = true := t
    rw [Bool.and_eq_true] at t
    cases x with
    | cons x1 x2 =>
      simp only [NestedKey.depthAll] at hn
      rcases List.mem_cons.mp hv with e | hv
      · rw [e]; exact val_key k _ n s x1 (by omega) t.1
      · exact val_keys ks _ n s x2 (by omega) t.2 v hv
end

/-- the tuple at a is the key k -/
structure KAt (h : Heap) (k : NestedKey) (a : Addr) : Prop where
  is : NestedIs h k (.ref a)
  dp : k.depth ≤ 8
  tx : noTx k = true
theorem KAt.kind {h : Heap} {k : NestedKey} {a : Addr} (x : KAt h k a) : (nestedKind P w).is h k a := ⟨x.is, x.dp⟩
theorem KAt.inj {h : Heap} {k k' : NestedKey} {a : Addr} (x : KAt h k a) (y : KAt h k' a) : k = k' := NestedIs.inj _ _ _ x.is y.is
theorem KAt.at {h h' : Heap} {k : NestedKey} {a : Addr} (x : KAt h k a) (hk : ∀ b o vs n, h.get? b = some o → o.data = .seq vs n → h'.get? b = some o) : KAt h' k a := ⟨NestedIs.at hk _ _ x.is, x.dp, x.tx⟩
theorem KAt.keep {h h' : Heap} {k : NestedKey} {a : Addr} (x : KAt h k a) (hk : ∀ b o, h.get? b = some o → h'.get? b = some o) : KAt h' k a := x.at fun b o _ _ e _ => hk b o e
/-- a set that changes is no tuple -/
theorem KAt.same {h h' : Heap} {k : NestedKey} {a b : Addr} {o : Obj} {es : Array (Int × Value)} {ep : Nat} {t : SetTable} (x : KAt h k b) (ho : h.get? a = some o) (hd : o.data = .set es ep t) (hs : Heap.SameBut a h h') : KAt h' k b :=
  x.at fun c u vs n hc hu => (hs.2 c (fun e => by
    subst e
    rw [ho] at hc
    cases hc
    rw [hd] at hu
    cases hu)).trans hc
variable {A : Around} {E : Value → Shared → Prop} {s : Shared}
theorem seen_no {k : NestedKey} {b : Addr} {Q : Bool → Shared → Prop} (hk : KAt s.heap k b) {ys : List Value} (hy : ∀ y ∈ ys, ∃ k' c, y = Value.ref c ∧ KAt s.heap k' c) (h : Q false s) : wpAny (model P w) A (searchCouldBeSeen (.ref b) ys) Q E s := by
  unfold searchCouldBeSeen
  refine wpAny_bind ?_
  refine wpAny_forIn_list _ (fun l r s' => r.1 = none ∧ s' = s ∧ ∀ y ∈ l, ∃ k' c, y = Value.ref c ∧ KAt s.heap k' c) _ ?_ ?_ _ _ ⟨rfl, rfl, hy⟩
  · rintro v l r s' ⟨h1, rfl, h2⟩
    obtain ⟨k', c, rfl, hc⟩ := h2 v List.mem_cons_self
    have h3 : ∀ y ∈ l, ∃ k' c, y = Value.ref c ∧ KAt s'.heap k' c := fun u hu => h2 u (List.mem_cons_of_mem _ hu)
    dsimp only
    by_cases hv : (b == c || (carriedByValue (.ref b) && carriedByValue (.ref c))) = true
    · exact wp_if_pos hv (wpAny_pure ⟨rfl, rfl, h3⟩)
    · refine wp_if_neg hv ?_
      refine wpAny_bind ((nestedKind P w).quiet hk.kind ?_)
      simp only [Bool.not_true, Bool.false_eq_true, if_false]
      refine wpAny_bind ((nestedKind P w).quiet hc.kind ?_)
      simp only [Bool.not_true, Bool.false_eq_true, if_false]
      refine wpAny_bind (cls_key k _ 8 _ hk.is hk.dp _ _ _ ?_)
      simp only [Bool.false_eq_true, if_false]
      refine wpAny_bind (cls_key k' _ 8 _ hc.is hc.dp _ _ _ ?_)
      simp only [Bool.false_eq_true, if_false]
      exact wpAny_pure ⟨rfl, rfl, h3⟩
  · rintro ⟨r1, r2⟩ s' ⟨h1, rfl, _⟩
    simp only at h1
    subst h1
    exact wpAny_pure h
end
end NS

namespace NS
open PySem PySem.Spec PyProof.Rows L2

/-- a member: where its tuple stands, its key -/
abbrev Ent := Addr × NestedKey
def row (w : World) (p : Ent) : Int × Value := (p.2.hash w, .ref p.1)
structure SetN (w : World) (h : Heap) (a : Addr) (L : List Ent) (es : Array (Int × Value)) (ep : Nat) (t : SetTable) : Prop where
  ob : ∃ o, h.get? a = some o ∧ o.ExactSet ∧ o.data = .set es ep t
  rows : es.toList = L.map (row w)
  tab : TabOk t (L.map fun p => p.2.hash w)
  nd : (L.map (·.2)).Nodup
  key : ∀ p ∈ L, KAt h p.2 p.1
  plain : t.plain = true
  led : w.params.followText "set-order" = true ∨ t.led = true
  room : L.length * 5 < t.mask * 3
  few : L.length ≤ 70
/-- the c-th step of the way of a hash -/
abbrev pr (m : Nat) (h : Int) (c : Nat) : SetTable.Probe := nth m (runAt m (SetTable.bits h % (m + 1)) (SetTable.bits h)) c
theorem pr_add (m : Nat) (h : Int) (c q : Nat) : nth m (pr m h c) q = pr m h (c + q) := (nth_add m c _ q).symm
theorem pr_j (m : Nat) (h : Int) (c q : Nat) : (nth m (pr m h c) q).j = way m h (c + q) := congrArg SetTable.Probe.j (pr_add m h c q)
theorem nth_dummy (m : Nat) : ∀ (n : Nat) (p : SetTable.Probe), p.dummy = none → (nth m p n).dummy = none
  | 0, _, h => h
  | n + 1, p, h => nth_dummy m n (adv m p) (by unfold adv; split <;> exact h)
theorem sz_rows {w : World} {L : List Ent} {es : Array (Int × Value)} (h : es.toList = L.map (row w)) : es.size = L.length := by
  have e := congrArg List.length h
  rwa [Array.length_toList, List.length_map] at e
theorem at_rows {w : World} {L : List Ent} {es : Array (Int × Value)} (h : es.toList = L.map (row w)) {i : Nat} {p : Ent} (hp : L[i]? = some p) : es[i]? = some (row w p) := by
  rw [← Array.getElem?_toList, h, List.getElem?_map, hp]
  rfl
section
variable {P : Program} {w : World} {A : Around} {E : Value → Shared → Prop} {s : Shared} {a : Addr} {L : List Ent} {es : Array (Int × Value)} {ep : Nat} {t : SetTable}
theorem SetN.fits {h : Heap} (R : SetN w h a L es ep t) : t.fits es.size = true := by
  have h1 := R.tab.sz
  rw [List.length_map] at h1
  have h2 := sz_rows R.rows
  have h3 := R.room
  unfold SetTable.fits SetTable.fill
  rw [R.tab.dm, Bool.and_eq_true, beq_iff_eq, decide_eq_true_eq]
  show t.place.size = es.size ∧ t.place.size + 0 ≤ t.mask
  omega
theorem SetN.odd {h : Heap} (R : SetN w h a L es ep t) : ¬ t.gaveWay = true := by
  unfold SetTable.gaveWay
  rw [mask_odd R.tab.mok]
  decide
/-- the place of the i-th member tells which one it is -/
theorem SetN.who {h : Heap} (R : SetN w h a L es ep t) {i j : Nat} (hi : t.place.toList[i]? = some j) : ∃ p, L[i]? = some p ∧ p ∈ L := by
  have hl : i < L.length := by
    have h1 : i < t.place.toList.length := (List.getElem?_eq_some_iff.mp hi).1
    have h2 := R.tab.sz
    rw [List.length_map] at h2
    rw [Array.length_toList] at h1
    omega
  exact ⟨L[i], List.getElem?_eq_getElem hl, List.getElem_mem hl⟩
/-- the search from the c-th step on: K is the first empty one -/
theorem seek (R : SetN w s.heap a L es ep t) {x : Addr} {k : NestedKey} (hx : KAt s.heap k x) (hu : A.units + 8 < cLine) {K : Nat} (hKf : K < 10 * SetTable.turns t.mask)
    (hK : way t.mask (k.hash w) K ∉ t.place.toList) (hKb : ∀ c, c < K → way t.mask (k.hash w) c ∈ t.place.toList) {Q : SetFound → Shared → Prop}
    (yes : k ∈ L.map (·.2) → Q (.there none) s) (no : k ∉ L.map (·.2) → Q (.free (way t.mask (k.hash w) K) false) s) :
    ∀ (f c : Nat) (stand : Option SetTable.Probe), stand.getD (t.probeStart (k.hash w)) = pr t.mask (k.hash w) c → c ≤ K → K - c < f →
      (∀ (i : Nat) p, L[i]? = some p → p.2 = k → ∃ c', c ≤ c' ∧ c' < K ∧ t.place.toList[i]? = some (way t.mask (k.hash w) c')) →
      wpAny (model P w) A (setSearchFrom a (.ref x) (k.hash w) true f stand) Q E s
  | 0, c, stand, _, _, hf, _ => absurd hf (Nat.not_lt_zero _)
  | f + 1, c, stand, hst, hc, hf, ahead => by
    obtain ⟨o, ho, hex, hd⟩ := R.ob
    rw [setSearchFrom_succ]
    refine wpAny_bind (wpAny_setState_of ho hd R.fits ?_)
    dsimp only
    refine wp_if_neg R.odd ?_
    try refine wpAny_bind (wpAny_pure ?_)
    have hh : ∀ (i : Nat) p, L[i]? = some p → (fun i => (es[i]?.map (·.1)).getD 0) i = p.2.hash w := fun i p hp => by
      show (es[i]?.map (·.1)).getD 0 = _
      rw [at_rows R.rows hp]
      rfl
    -- whoever has the key stands on the rest of the way
    have past : ∀ (q : Nat) (i : Nat) p, L[i]? = some p → p.2 = k → (∀ (k' i' : Nat), k' < q → t.place.toList[i']? = some (nth t.mask (pr t.mask (k.hash w) c) k').j → (fun i : Nat => (es[i]?.map (fun e : Int × Value => e.1)).getD 0) i' ≠ k.hash w) →
        ∃ c', c + q ≤ c' ∧ c' < K ∧ t.place.toList[i]? = some (way t.mask (k.hash w) c') := fun q i p hp hk none => by
      obtain ⟨c', a1, a2, a3⟩ := ahead i p hp hk
      refine ⟨c', ?_, a2, a3⟩
      rcases Nat.lt_or_ge c' (c + q) with z | z
      · exact absurd ((hh i p hp).trans (congrArg (fun z : NestedKey => z.hash w) hk)) (none (c' - c) i (by omega) (by rw [pr_j, show c + (c' - c) = c' by omega]; exact a3))
      · exact z
    rcases go_spec t R.tab.ris R.tab.dm (fun i => (es[i]?.map (·.1)).getD 0) (k.hash w) (10 * SetTable.turns t.mask) (K - c) (pr t.mask (k.hash w) c) (nth_dummy _ _ _ rfl) (by omega)
      (fun q hq => by rw [pr_j]; exact hKb (c + q) (by omega)) (by rw [pr_j, show c + (K - c) = K by omega]; exact hK) with ⟨q, i, hq, hi, he, none, hp⟩ | ⟨none, hp⟩
    · have hp' : t.probe (fun i => (es[i]?.map (·.1)).getD 0) (k.hash w) (stand.getD (t.probeStart (k.hash w))) = some (.candidate (way t.mask (k.hash w) (c + q)) i (pr t.mask (k.hash w) (c + (q + 1)))) := by
        rw [hst, ← pr_j, ← pr_add]
        exact hp
      rw [hp']
      dsimp only
      rw [pr_j] at hi
      obtain ⟨p, hpi, hpm⟩ := R.who hi
      have rest : wpAny (model P w) A (searchRest a (.ref x) (k.hash w) true f es t (way t.mask (k.hash w) (c + q)) i (pr t.mask (k.hash w) (c + (q + 1)))) Q E s := by
        unfold searchRest
        rw [at_rows R.rows hpi]
        dsimp only [row]
        refine wpAny_bind (wpAny_holding ((nestedKind P w).eqBool hu (R.key p hpm).kind hx.kind ?_))
        refine wpAny_bind (wpAny_setState_of ho hd R.fits ?_)
        dsimp only
        by_cases hkk : p.2 = k
        · refine wp_if_pos (by simp [hkk]) ?_
          exact wpAny_pure (yes (List.mem_map.mpr ⟨p, hpm, hkk⟩))
        · refine wp_if_neg (by simp [hkk]) ?_
          try refine wpAny_bind (wpAny_pure ?_)
          rw [sameMem]
          dsimp only
          have hsl : t.slot (way t.mask (k.hash w) (c + q)) = .live i := slot_live R.tab.ris hi
          simp only [if_true, hsl, at_rows R.rows hpi, row]
          refine wpAny_bind (wpAny_isSame_ref_self (wpAny_bind (wpAny_pure ?_)))
          simp only [if_true]
          refine wp_if_neg (by simp [hkk]) ?_
          refine seek R hx hu hKf hK hKb yes no f (c + (q + 1)) _ rfl (by omega) (by omega) fun i0 p0 h0 hk0 => ?_
          obtain ⟨c', b1, b2, b3⟩ := past q i0 p0 h0 hk0 none
          refine ⟨c', ?_, b2, b3⟩
          rcases Nat.lt_or_ge (c + q) c' with y | y
          · omega
          · exfalso
            obtain rfl : c' = c + q := Nat.le_antisymm y b1
            have s0 := slot_live R.tab.ris b3
            rw [hsl] at s0
            injection s0 with s0
            rw [← s0, hpi] at h0
            exact hkk ((congrArg Prod.snd (Option.some.inj h0)).trans hk0)
      by_cases hl : t.led = true
      · refine wp_if_neg (by simp [hl]) ?_
        try refine wpAny_bind (wpAny_pure ?_)
        exact rest
      · refine wp_if_pos (by simp [hl]) ?_
        refine wpAny_bind (seen_no hx (fun y hy => ?_) ?_)
        · obtain ⟨e, he, ee⟩ := List.mem_map.mp hy
          have he1 : e ∈ es ∧ e.1 = k.hash w := by simpa using he
          have he2 : e ∈ es.toList := by simpa using he1.1
          rw [R.rows] at he2
          obtain ⟨p2, hp2, e2⟩ := List.mem_map.mp he2
          exact ⟨p2.2, p2.1, by rw [← ee, ← e2]; rfl, R.key p2 hp2⟩
        · refine wp_if_neg (by decide) ?_
          try refine wpAny_bind (wpAny_pure ?_)
          exact rest
    · have hp' : t.probe (fun i => (es[i]?.map (·.1)).getD 0) (k.hash w) (stand.getD (t.probeStart (k.hash w))) = some (.empty (way t.mask (k.hash w) K) Option.none) := by
        have e2 : way t.mask (k.hash w) K = (nth t.mask (pr t.mask (k.hash w) c) (K - c)).j := by rw [pr_j, show c + (K - c) = K by omega]
        rw [hst, e2]
        exact hp
      rw [hp']
      dsimp only
      refine wpAny_pure (no fun hm => ?_)
      obtain ⟨p0, h0, hk0⟩ := List.mem_map.mp hm
      obtain ⟨i0, hi0⟩ := List.getElem?_of_mem h0
      obtain ⟨c', b1, b2, _⟩ := past (K - c) i0 p0 hi0 hk0 none
      omega
/-- the search that adding asks for -/
theorem find (R : SetN w s.heap a L es ep t) {x : Addr} {k : NestedKey} (hx : KAt s.heap k x) (hu : A.units + 8 < cLine) {Q : SetFound → Shared → Prop}
    (yes : k ∈ L.map (·.2) → Q (.there none) s)
    (no : ∀ K, k ∉ L.map (·.2) → way t.mask (k.hash w) K ∉ t.place.toList → (∀ c, c < K → way t.mask (k.hash w) c ∈ t.place.toList) → Q (.free (way t.mask (k.hash w) K) false) s) :
    wpAny (model P w) A (setSearch a (.ref x) (k.hash w) true) Q E s := by
  have hroom := R.room
  obtain ⟨K, hKf, hK, hKb⟩ := R.tab.first (by rw [List.length_map]; omega) (k.hash w)
  have hbig : K < 100000 := by
    have : 10 * SetTable.turns t.mask ≤ 1420 := by
      unfold SetTable.turns
      rcases R.tab.mok with e | e | e <;> omega
    omega
  unfold setSearch
  refine seek R hx hu hKf hK hKb yes (fun hn => no K hn hK hKb) 100000 0 none rfl (Nat.zero_le _) (by omega) fun i p hp hk => ?_
  have hi : (L.map fun p => p.2.hash w)[i]? = some (k.hash w) := by rw [List.getElem?_map, hp, ← hk]; rfl
  have hl : i < t.place.toList.length := by
    have h1 : i < L.length := (List.getElem?_eq_some_iff.mp hp).1
    have h2 := R.tab.sz
    rw [List.length_map] at h2
    rw [Array.length_toList]
    omega
  have hj := List.getElem?_eq_getElem hl
  obtain ⟨c, hc, e⟩ := R.tab.before hK hi hj
  exact ⟨c, Nat.zero_le _, hc, by rw [hj, e]⟩
end
end NS

namespace NS
open PySem PySem.Spec PyProof.Rows L2
section
variable {P : Program} {w : World}
theorem picked {L : List Ent} {es : Array (Int × Value)} (hr : es.toList = L.map (row w)) : ∀ l : List Nat, (∀ i ∈ l, i < L.length) → ∃ L2 : List Ent, l.filterMap (fun i => es[i]?) = L2.map (row w) ∧ L2 = l.filterMap (fun i => L[i]?) ∧ (L2.map fun p => p.2.hash w) = l.map fun i => (es.map (·.1)).getD i 0
  | [], _ => ⟨[], rfl, rfl, rfl⟩
  | i :: l, hl => by
    have hi := hl i List.mem_cons_self
    obtain ⟨L2, e1, e2, e3⟩ := picked hr l fun j hj => hl j (List.mem_cons_of_mem _ hj)
    have hg := List.getElem?_eq_getElem hi
    have he := at_rows hr hg
    refine ⟨L[i] :: L2, ?_, ?_, ?_⟩
    · rw [List.filterMap_cons_some he, e1]
      rfl
    · rw [List.filterMap_cons_some hg, e2]
    · rw [List.map_cons, List.map_cons, e3]
      have e5 : (es.map (·.1))[i]? = some ((L[i]).2.hash w) := by
        rw [Array.getElem?_map, he]
        rfl
      have e4 : (es.map (·.1)).getD i 0 = (L[i]).2.hash w := by simp [Array.getD_eq_getD_getElem?, e5]
      rw [e4]
theorem all_picked {α : Type} (L : List α) : ∀ n, n ≤ L.length → (List.range n).filterMap (fun i => L[i]?) = L.take n
  | 0, _ => rfl
  | n + 1, hn => by
    have hlt : n < L.length := hn
    rw [List.range_succ, List.filterMap_append, all_picked L n (Nat.le_of_lt hlt), List.take_succ, List.getElem?_eq_getElem hlt, List.filterMap_cons_some (List.getElem?_eq_getElem hlt)]
    rfl
/-- the members in another order -/
theorem reorder {L : List Ent} {es : Array (Int × Value)} (order : Array Nat) (hr : es.toList = L.map (row w)) (hp : order.toList.Perm (List.range L.length)) :
    ∃ L2 : List Ent, (order.filterMap (es[·]?)).toList = L2.map (row w) ∧ L2.Perm L ∧ (L2.map fun p => p.2.hash w) = order.toList.map fun i => (es.map (·.1)).getD i 0 := by
  obtain ⟨L2, e1, e2, e3⟩ := picked hr order.toList fun i hi => List.mem_range.mp (hp.mem_iff.mp hi)
  refine ⟨L2, by first | (rw [Array.toList_filterMap]; exact e1) | simpa using e1, ?_, e3⟩
  have h1 : L2.Perm ((List.range L.length).filterMap fun i => L[i]?) := by
    rw [e2]
    exact hp.filterMap _
  rw [all_picked L L.length (Nat.le_refl _), List.take_length] at h1
  exact h1
variable {A : Around} {E : Value → Shared → Prop} {s : Shared} {a : Addr} {L : List Ent} {es : Array (Int × Value)} {ep : Nat} {t : SetTable}
/-- laid anew in a larger table -/
theorem grow {o : Obj} (ho : s.heap.get? a = some o) (hex : o.ExactSet) (hd : o.data = .set es ep t) (hr : es.toList = L.map (row w)) (hsz : t.place.size = es.size) (hdm : t.dummies = #[]) (hfl : es.size ≤ t.mask)
    (nd : (L.map (·.2)).Nodup) (key : ∀ p ∈ L, KAt s.heap p.2 p.1) (pl : t.plain = true) (ld : w.params.followText "set-order" = true ∨ t.led = true) (few : L.length ≤ 70) {wanted M : Nat}
    (hw : SetTable.sizeAbove wanted - 1 = M) (hM : MaskOk M) (hw2 : SetTable.sizeAbove wanted ≤ 128) (hn : L.length * 5 < M * 3) {Q : Unit → Shared → Prop}
    (hQ : ∀ h' L' es' ep' t', Heap.SameBut a s.heap h' → SetN w h' a L' es' ep' t' → L'.Perm L → Q () { s with heap := h' }) : wpAny (model P w) A (setRelay a wanted) Q E s := by
  have hsl := sz_rows hr
  have hfits : t.fits es.size = true := by
    unfold SetTable.fits SetTable.fill
    rw [hdm, Bool.and_eq_true, beq_iff_eq, decide_eq_true_eq]
    show t.place.size = es.size ∧ t.place.size + 0 ≤ t.mask
    omega
  obtain ⟨t', order, e, hp, T, em, el, ep', ed⟩ := relaid_ok t (hs := es.map (·.1)) (wanted := wanted) hw hM (by rw [Array.size_map, hsl]; omega)
  rw [Array.size_map, hsl] at hp
  obtain ⟨L2, r1, r2, r3⟩ := reorder order hr hp
  rw [← r3] at T
  have hs2 : (order.filterMap (es[·]?)).size = es.size := by rw [sz_rows r1, r2.length_eq, hsl]
  rw [setRelay_eq]
  refine wpAny_bind (wpAny_setState_of ho hd hfits ?_)
  dsimp only
  refine wp_if_neg (by rw [sizeLine_eq]; omega) ?_
  try refine wpAny_bind (wpAny_pure ?_)
  rw [e]
  dsimp only
  refine wpAny_bind ?_
  refine wp_if_neg (by rw [hs2]; simp) ?_
  try refine wpAny_bind (wpAny_pure ?_)
  refine wpAny_pure ?_
  dsimp only
  refine wpAny_storeSet_of ho hd ?_ (by rw [hs2, hsl, sizeLine_eq]; omega)
  have sb : Heap.SameBut a s.heap (s.heap.update a (Obj.putSet (order.filterMap (es[·]?)) t')) := Heap.SameBut.update ..
  refine hQ _ L2 (order.filterMap (es[·]?)) (ep + 1) t' sb ?_ r2
  refine ⟨⟨_, store_at ho hd, ⟨hex.1, hex.2.1, hex.2.2⟩, rfl⟩, r1, T, (r2.map (·.2)).nodup_iff.mpr nd, fun p hpm => (key p (r2.mem_iff.mp hpm)).same ho hd sb, by rw [ep']; exact pl, by rw [el]; exact ld, ?_, by rw [r2.length_eq]; exact few⟩
  rw [r2.length_eq, em]
  exact hn
/-- adding -/
theorem add (R : SetN w s.heap a L es ep t) {x : Addr} {k : NestedKey} (hx : KAt s.heap k x) (hu : A.units + 8 < cLine) (hfew : k ∉ L.map (·.2) → L.length + 1 ≤ 70) {Q : Bool → Shared → Prop}
    (hQ : ∀ b h' L' es' ep' t', Heap.SameBut a s.heap h' → SetN w h' a L' es' ep' t' → (k ∈ L.map (·.2) → L' = L) → (k ∉ L.map (·.2) → L'.Perm ((x, k) :: L)) → Q b { s with heap := h' }) :
    wpAny (model P w) A (setAddHashed a (.ref x) (k.hash w)) Q E s := by
  obtain ⟨o, ho, hex, hd⟩ := R.ob
  have hsl := sz_rows R.rows
  have hroom := R.room
  unfold setAddHashed
  refine wpAny_holding ?_
  rw [show (100000 : Nat) = 99999 + 1 from rfl, setAddHashedIn_succ]
  refine wpAny_bind (wpAny_setState_of ho hd R.fits ?_)
  dsimp only
  refine wp_if_neg (by simp [byScan, Value.scannable]) ?_
  try refine wpAny_bind (wpAny_pure ?_)
  refine wpAny_bind (find R hx hu (fun hm => ?_) fun K hm hK hb => ?_)
  · dsimp only
    exact wpAny_pure (hQ false s.heap L es ep t (Heap.SameBut.refl a s.heap) R (fun _ => rfl) fun z => absurd hm z)
  · have hfew := hfew hm
    dsimp only
    refine wpAny_bind (wpAny_setState_of ho hd R.fits ?_)
    dsimp only
    obtain ⟨q1, q2, q3, q4, q5, q6, q7, q8, q9⟩ := R.tab.put hK hb
    have hp1 : (t.put (way t.mask (k.hash w) K)).1.plain = true := by rw [q6]; exact R.plain
    generalize hpt : t.put (way t.mask (k.hash w) K) = pt at q1 q3 q4 q5 q6 q7 q8 q9 hp1 ⊢
    obtain ⟨t1, p⟩ := pt
    dsimp only at q1 q3 q4 q5 q6 q7 q8 q9 hp1 ⊢
    subst q1
    have hv : ∀ (Q : Bool → Shared → Prop), Q true s → wpAny (model P w) A (hashByValue 8 (.ref x)) Q E s := fun Q h => val_key k _ 8 s hx.is hx.dp hx.tx _ _ _ h
    first
      | (refine wpAny_bind ?_; refine wp_if_pos hp1 ?_; refine hv _ ?_)
      | refine wp_if_pos hp1 (wpAny_bind (hv _ ?_))
    simp only [if_true]
    generalize hpp : SetTable.below t.place (way t.mask (k.hash w) K) = p at q2 q3 ⊢
    have hin : (SetTable.insertAt es p (k.hash w, Value.ref x)).toList = (L.take p ++ (x, k) :: L.drop p).map (row w) := by
      rw [SetTable.toList_insertAt, R.rows, List.map_append, List.map_cons, List.map_take, List.map_drop]
      rfl
    have pm := put_perm L p (x, k)
    have hlen : (L.take p ++ (x, k) :: L.drop p).length = L.length + 1 := pm.length_eq
    have hhs : (L.take p ++ (x, k) :: L.drop p).map (fun p => p.2.hash w) = (L.map fun p => p.2.hash w).take p ++ k.hash w :: (L.map fun p => p.2.hash w).drop p := by
      rw [List.map_append, List.map_cons, List.map_take, List.map_drop]
    rw [← hhs] at q3
    have nd1 : ((L.take p ++ (x, k) :: L.drop p).map (·.2)).Nodup := by
      refine (pm.map (·.2)).nodup_iff.mpr ?_
      rw [List.map_cons]
      exact List.nodup_cons.mpr ⟨hm, R.nd⟩
    have hes : (SetTable.insertAt es p (k.hash w, Value.ref x)).size = L.length + 1 := by rw [sz_rows hin, hlen]
    generalize SetTable.insertAt es p (k.hash w, Value.ref x) = es1 at hin hes ⊢
    generalize L.take p ++ (x, k) :: L.drop p = L1 at pm hlen q3 nd1 hin
    refine wpAny_bind (wpAny_storeSet_of ho hd ?_ (by rw [hes, sizeLine_eq]; omega))
    have sb : Heap.SameBut a s.heap (s.heap.update a (Obj.putSet es1 t1)) := Heap.SameBut.update ..
    have ho1 := store_at (es' := es1) (t' := t1) ho hd
    generalize s.heap.update a (Obj.putSet es1 t1) = h1 at sb ho1 ⊢
    have key1 : ∀ p ∈ L1, KAt h1 p.2 p.1 := fun p hp => by
      rcases List.mem_cons.mp (pm.mem_iff.mp hp) with e | hp
      · rw [e]; exact hx.same ho hd sb
      · exact (R.key p hp).same ho hd sb
    have ld1 : w.params.followText "set-order" = true ∨ t1.led = true := by rw [q5]; exact R.led
    by_cases hf : t1.tooFull = true
    · first
        | (refine wpAny_bind ?_; refine wp_if_pos (by simp [hf]) ?_)
        | (refine wp_if_pos (by simp [hf]) ?_; refine wpAny_bind ?_)
      have hfull : (L.length + 1) * 5 ≥ t1.mask * 3 := by
        have h := hf
        unfold SetTable.tooFull at h
        rw [decide_eq_true_eq, q9, List.length_map] at h
        exact h
      rw [hsl]
      have hsz1 : t1.place.size = es1.size := by
        have h := q3.sz
        rw [List.length_map, hlen] at h
        rw [h, hes]
      have two : (t.mask = 7 ∧ L.length = 4) ∨ (t.mask = 31 ∧ L.length = 18) := by
        rcases R.tab.mok with e | e | e
        · left; rw [q4, e] at hfull; rw [e] at hroom; exact ⟨e, by omega⟩
        · right; rw [q4, e] at hfull; rw [e] at hroom; exact ⟨e, by omega⟩
        · exfalso; rw [q4, e] at hfull; omega
      have go : ∀ M, SetTable.sizeAbove (SetTable.grown (L.length + 1)) - 1 = M → MaskOk M → SetTable.sizeAbove (SetTable.grown (L.length + 1)) ≤ 128 → (L.length + 1) * 5 < M * 3 →
          wpAny (model P w) A (setRelay a (SetTable.grown (L.length + 1))) (fun _ s' => wpAny (model P w) A (pure true) Q E s') E { s with heap := h1 } := fun M h1' h2' h3' h4' => by
        refine grow (s := { s with heap := h1 }) ho1 ⟨hex.1, hex.2.1, hex.2.2⟩ rfl hin hsz1 q3.dm (by rw [hes, q4]; rcases two with ⟨e, e2⟩ | ⟨e, e2⟩ <;> omega) nd1 key1 hp1 ld1 (by rw [hlen]; exact hfew) h1' h2' h3' (by rw [hlen]; exact h4') ?_
        intro h2 L2 es2 ep2 t2 sb2 R2 pm2
        exact wpAny_pure (hQ true h2 L2 es2 ep2 t2 (sb.trans sb2) R2 (fun z => absurd z hm) fun _ => pm2.trans pm)
      rcases two with ⟨_, e2⟩ | ⟨_, e2⟩
      · exact go 31 (by rw [e2, size_20]) (.inr (.inl rfl)) (by rw [e2, size_20]; decide) (by omega)
      · exact go 127 (by rw [e2, size_76]) (.inr (.inr rfl)) (by rw [e2, size_76]; decide) (by omega)
    · first
        | refine wp_if_neg (by simp [hf]) ?_
        | (refine wpAny_bind ?_; refine wp_if_neg (by simp [hf]) ?_; refine wpAny_pure ?_)
      refine wpAny_pure (hQ true h1 L1 es1 (ep + 1) t1 sb ⟨⟨_, ho1, ⟨hex.1, hex.2.1, hex.2.2⟩, rfl⟩, hin, q3, nd1, key1, hp1, ld1, ?_, by rw [hlen]; exact hfew⟩ (fun z => absurd z hm) fun _ => pm)
      have h := hf
      unfold SetTable.tooFull at h
      rw [decide_eq_true_eq, q9, List.length_map] at h
      rw [hlen]
      omega
end
end NS

namespace NS
open PySem PySem.Spec PyProof.Rows L2
/-- what the set holds of the first i items -/
structure Has (ks : List Ent) (i : Nat) (L : List Ent) : Prop where
  sub : ∀ p ∈ L, p ∈ ks.take i
  all : ∀ p ∈ ks.take i, p.2 ∈ L.map (·.2)
theorem take_1 {α : Type} {l : List α} {i : Nat} {x : α} (h : l[i]? = some x) : l.take (i + 1) = l.take i ++ [x] := by
  rw [List.take_succ, h]
  rfl
theorem Has.zero (ks : List Ent) : Has ks 0 [] := ⟨fun p h => (by cases h), fun p h => (by simp at h)⟩
theorem Has.next {ks L L' : List Ent} {i : Nat} {x : Ent} (g : Has ks i L) (h : ks[i]? = some x) (c1 : x.2 ∈ L.map (·.2) → L' = L) (c2 : x.2 ∉ L.map (·.2) → L'.Perm (x :: L)) : Has ks (i + 1) L' := by
  rw [show Has ks (i + 1) L' ↔ (∀ p ∈ L', p ∈ ks.take i ++ [x]) ∧ ∀ p ∈ ks.take i ++ [x], p.2 ∈ L'.map (·.2) from ⟨fun z => ⟨by rw [← take_1 h]; exact z.sub, by rw [← take_1 h]; exact z.all⟩, fun z => ⟨by rw [take_1 h]; exact z.1, by rw [take_1 h]; exact z.2⟩⟩]
  rcases Classical.em (x.2 ∈ L.map (·.2)) with c | c
  · obtain rfl := c1 c
    refine ⟨fun p hp => List.mem_append_left _ (g.sub p hp), fun p hp => ?_⟩
    rcases List.mem_append.mp hp with z | z
    · exact g.all p z
    · rw [List.mem_singleton.mp z]; exact c
  · have pm := c2 c
    refine ⟨fun p hp => ?_, fun p hp => (pm.map (·.2)).mem_iff.mpr ?_⟩
    · rcases List.mem_cons.mp (pm.mem_iff.mp hp) with e | z
      · rw [e]; exact List.mem_append_right _ (List.mem_singleton.mpr rfl)
      · exact List.mem_append_left _ (g.sub p z)
    · rw [List.map_cons]
      rcases List.mem_append.mp hp with z | z
      · exact List.mem_cons_of_mem _ (g.all p z)
      · rw [List.mem_singleton.mp z]; exact List.mem_cons_self
/-- few different keys -/
def Few (ks : List Ent) : Prop := ∀ M : List NestedKey, M.Nodup → (∀ k ∈ M, k ∈ ks.map (·.2)) → M.length ≤ 70
section
variable {P : Program} {w : World} {A : Around} {E : Value → Shared → Prop} {s : Shared}
theorem SetN.keep {h h' : Heap} {a : Addr} {L : List Ent} {es : Array (Int × Value)} {ep : Nat} {t : SetTable} (R : SetN w h a L es ep t) (ha : ∀ o, h.get? a = some o → h'.get? a = some o) (ht : ∀ p ∈ L, KAt h' p.2 p.1) : SetN w h' a L es ep t := by
  obtain ⟨o, ho, r⟩ := R.ob
  exact ⟨⟨o, ha o ho, r⟩, R.rows, R.tab, R.nd, ht, R.plain, R.led, R.room, R.few⟩
abbrev emptyT (w : World) : SetTable := .fresh 0 0 (!w.params.followText "set-order")
abbrev emptyO (w : World) : Obj := { cls := .type "set", dict := none, data := .set #[] 0 (emptyT w) }
theorem fresh_set {h : Heap} {a : Addr} (ho : h.get? a = some (emptyO w)) : SetN w h a [] #[] 0 (emptyT w) where
  ob := ⟨_, ho, ⟨rfl, rfl, rfl⟩, rfl⟩
  rows := rfl
  tab := ⟨List.Pairwise.nil, rfl, rfl, .inl rfl, fun x hx => (by cases hx), fun i h j hi => (by simp at hi)⟩
  nd := List.nodup_nil
  key := fun p hp => (by cases hp)
  plain := rfl
  led := by
    show _ ∨ (!w.params.followText "set-order") = true
    cases w.params.followText "set-order"
    · exact .inr rfl
    · exact .inl rfl
  room := by
    show 0 * 5 < 7 * 3
    decide
  few := Nat.zero_le _
/-- the loop that puts the items in -/
theorem put_all {I : Addr} {fp wr : List Addr} {G : Array GenState → Array GenState → Prop} {n : Nat} {Pv : Nat → Value → Prop} {St : Nat → Shared → Prop} {R : Result → Shared → Prop}
    (W : WalksS P w A.in1 I fp wr G n Pv St) (S : Addr) (hSf : S ∉ fp) (ks : List Ent) (hn : n = ks.length) (few : Few ks) (hval : ∀ i v, Pv i v → ∃ p, ks[i]? = some p ∧ v = .ref p.1)
    (h0 : Heap) (hk : ∀ p ∈ ks, KAt h0 p.2 p.1) (hS0 : h0.get? S = none) (hw0 : ∀ b ∈ wr, h0.get? b = none) (hu : A.in1.units + 8 < cLine) :
    ∀ (k i : Nat) (s : Shared), n - i = k → i ≤ n → St i s → (∀ b o, h0.get? b = some o → s.heap.get? b = some o) → (∃ L es ep t, SetN w s.heap S L es ep t ∧ Has ks i L) →
      (∀ s' L es ep t, Moved (S :: wr) G s s' → SetN w s'.heap S L es ep t → Has ks n L → (∀ b o, h0.get? b = some o → s'.heap.get? b = some o) → R (.ok (.ret .none)) s') →
      codeAny (model P w) A (.builtin "set.update.loop" ⟨[.ref S, .ref I], []⟩) R s := by
  have hSw : S ∉ wr := fun h => hSf (W.sub _ h)
  have hsub : ∀ b ∈ wr, b ∈ S :: wr := fun b hb => List.mem_cons_of_mem _ hb
  have keepM : ∀ {s s' : Shared}, Moved wr G s s' → (∀ b o, h0.get? b = some o → s.heap.get? b = some o) → ∀ b o, h0.get? b = some o → s'.heap.get? b = some o := fun hm hkp b o e =>
    hm.heap b o (fun hb => by rw [hw0 b hb] at e; cases e) (hkp b o e)
  intro k
  induction k with
  | zero =>
    intro i s hk' hi hst hkp ⟨L, es, ep, t, hS, g⟩ hR
    obtain rfl : i = n := by omega
    refine codeAny_builtin F.entry_set_update_loop ?_
    rw [Around.under_plainId F.plain_set_update_loop _]
    show wpAny _ A.in1 (pyNext (.ref I) >>= _) _ _ s
    refine wpAny_bind (W.done s _ _ hst fun s' hm => ?_)
    show wpAny _ A.in1 (ret Value.none) _ _ s'
    have hkp' := keepM hm hkp
    exact wpAny_pure (hR s' L es ep t (hm.mono hsub) (hS.keep (fun o e => hm.heap S o hSw e) fun p hp => (hk p (List.mem_of_mem_take (g.sub p hp))).keep hkp') g hkp')
  | succ k ih =>
    intro i s hk' hi hst hkp ⟨L, es, ep, t, hS, g⟩ hR
    have hlt : i < n := by omega
    refine codeAny_builtin F.entry_set_update_loop ?_
    rw [Around.under_plainId F.plain_set_update_loop _]
    show wpAny _ A.in1 (pyNext (.ref I) >>= _) _ _ s
    refine wpAny_bind (W.item i s _ _ hlt hst fun v s' hP hst' hm => ?_)
    obtain ⟨p, hp, rfl⟩ := hval i v hP
    have hkp' := keepM hm hkp
    have hS' : SetN w s'.heap S L es ep t := hS.keep (fun o e => hm.heap S o hSw e) fun q hq => (hk q (List.mem_of_mem_take (g.sub q hq))).keep hkp'
    have hx : KAt s'.heap p.2 p.1 := (hk p (List.mem_of_getElem? hp)).keep hkp'
    show wpAny _ A.in1 (holding [Value.ref p.1] (setAdd S (.ref p.1)) >>= _) _ _ s'
    refine wpAny_bind (wpAny_holding ?_)
    unfold setAdd
    refine wpAny_holding ?_
    refine wpAny_bind ((nestedKind P w).pyHash hu hx.kind ?_)
    refine add (s := { s' with toks := s'.toks + p.2.draws }) hS' hx hu (fun hno => ?_) fun b h' L' es' ep' t' hsb hS2 c1 c2 => ?_
    · have z := few (p.2 :: L.map (·.2)) (List.nodup_cons.mpr ⟨hno, hS'.nd⟩) fun k' hk' => by
        rcases List.mem_cons.mp hk' with e | e
        · rw [e]; exact List.mem_map.mpr ⟨p, List.mem_of_getElem? hp, rfl⟩
        · obtain ⟨q, hq, e⟩ := List.mem_map.mp e
          exact List.mem_map.mpr ⟨q, List.mem_of_mem_take (g.sub q hq), e⟩
      rw [List.length_cons, List.length_map] at z
      exact z
    have hkp2 : ∀ b o, h0.get? b = some o → h'.get? b = some o := fun b o e => (hsb.2 b (fun z => by rw [z, hS0] at e; cases e)).trans (hkp' b o e)
    refine wpAny_pure ⟨plainId_quiet F.plain_set_update_loop _, ih (i + 1) _ (by omega) hlt (W.frame _ s' _ _ hst' (Nat.le_add_right _ _) fun b hb o e => ?_) hkp2 ⟨L', es', ep', t', hS2, g.next hp c1 c2⟩ fun s'' L2 es2 ep2 t2 hm'' hS'' g'' hkp'' => ?_⟩
    · rw [hsb.2 b (fun h : b = S => hSf (by rw [← h]; exact hb))]; exact e
    · refine hR s'' L2 es2 ep2 t2 (Moved.trans W.gtrans ((hm.mono hsub).then_heap (Nat.le_add_right _ _) fun b o hb e => ?_) hm'') hS'' g'' hkp''
      rw [hsb.2 b (fun h : b = S => hb (by rw [h]; exact List.mem_cons_self))]; exact e
/-- set(xs) of a list -/
theorem new_set {l : Addr} {items : Array Value} (ks : List Ent) {Q : Value → Shared → Prop} (hh : A.handled = none) (hl : s.heap.IsList l items) (hit : items.toList = ks.map fun p => Value.ref p.1)
    (hk : ∀ p ∈ ks, KAt s.heap p.2 p.1) (few : Few ks) (hu : A.units + 12 < cLine)
    (h : ∀ (h' : Heap) (tk : Nat) L es ep t, SetN w h' s.heap.objs.size L es ep t → Has ks ks.length L → (∀ b o, s.heap.get? b = some o → h'.get? b = some o) → Q (.ref s.heap.objs.size) { s with heap := h', toks := tk }) :
    wpAny (model P w) A (call (.type "set") [.ref l]) Q E s := by
  have hisz : items.size = ks.length := by
    have q := congrArg List.length hit
    rwa [Array.length_toList, List.length_map] at q
  obtain ⟨c, tl, hmro⟩ := F.called_set.mro
  have hmade := F.called_set.made
  have hsub := F.called_set.sub
  refine wpAny_call (codeAny_of_tree ?_)
  show wpAny _ _ (callAny (.type "set") _) _ _ _
  refine wpAny_pure ⟨Code.quiet_builtin _ (by decide +kernel), codeAny_builtin F.entry_type_call ?_⟩
  rw [Around.under_plain (weight_type_call_type "set" [.ref l] []) rfl]
  have h1 := F.called_set.notType
  have h2 := F.called_set.canCreate
  have hct := F.typeCall_set_1 (.ref l)
  repeat (any_goals (first | assumption | wp_step))

  refine codeAny_mono (code_set_led1 (.ref l) (E := E) (Q₁ := fun obj s₁ => obj = .ref s.heap.objs.size ∧ s₁ = { s with heap := s.heap.push (emptyO w) }) ⟨rfl, rfl⟩) fun r s₁ hr => ?_
  cases r with
  | error e => exact hr
  | ok fl =>
    cases fl with
    | ret obj =>
      obtain ⟨rfl, rfl⟩ := hr
      have hS : (s.heap.push (emptyO w)).get? s.heap.objs.size = some (emptyO w) := Heap.get?_push_size _ rfl
      have hT : Shared.TypeIs { s with heap := s.heap.push (emptyO w) } (.ref s.heap.objs.size) "set" := ⟨_, hS, rfl⟩
      have hli := F.called_set.init.lookup
      have hbi := F.called_set.init.bind (.ref s.heap.objs.size)
      repeat (any_goals (first | assumption | wp_step))

      refine codeAny_mono (codeAny_call_builtin (R := wants (fun r s₂ => r = .none ∧ ∃ h' tk L es ep t, s₂ = { s with heap := h', toks := tk } ∧ SetN w h' s.heap.objs.size L es ep t ∧ Has ks ks.length L ∧
          (∀ b o, s.heap.get? b = some o → h'.get? b = some o)) E) F.called_set.init.plain F.entry_set_init (check_set_init_1 hT ?_)) fun r₂ s₂ hr₂ => ?_
      · obtain ⟨ol, hol, hcl, nl, hdl⟩ := hl
        obtain ⟨ocls, odict, odata, oslots⟩ := ol
        simp only at hcl hdl
        subst hcl; subst hdl
        have hol' : (s.heap.push (emptyO w)).get? l = some { cls := .type "list", dict := odict, data := .seq items nl, slots := oslots } := Heap.get?_push_of_some _ hol
        have hsls := F.sub_list_set
        have hslf := F.sub_list_frozenset
        have hne : (Value.type "list" == Value.type "dict") = false := by decide
        have hl1 : (s.heap.push (emptyO w)).IsList l items := ⟨_, hol', rfl, nl, rfl⟩
        unfold Builtin.«set.__init__» noKeywords Builtin.Frozenset.updateFrom
        generalize hPI : pyIter = PI
        wp_walk
        subst hPI

        refine wpAny_pyIter_list hl1 ?_
        refine wpAny_bind (wpAny_runValue ?_)
        have hlS : l < s.heap.objs.size := Heap.lt_size hol
        have hh3 : A.in1.in1.in1.handled = none := by simp [hh]
        have hneI : l ≠ (s.heap.push (emptyO w)).objs.size := by
          rw [Heap.size_push]; exact Nat.ne_of_lt (Nat.lt_succ_of_lt hlS)
        have hSf : s.heap.objs.size ∉ [(s.heap.push (emptyO w)).objs.size, l] := by
          rw [Heap.size_push]; simp only [List.mem_cons, List.mem_singleton, List.not_mem_nil, or_false, not_or]
          exact ⟨Nat.ne_of_lt (Nat.lt_succ_self _), Nat.ne_of_gt hlS⟩
        have hval : ∀ (i : Nat) (v : Value), items[i]? = some v → ∃ p, ks[i]? = some p ∧ v = .ref p.1 := fun i v hv => by
          have q : items.toList[i]? = some v := by rw [Array.getElem?_toList]; exact hv
          rw [hit, List.getElem?_map] at q
          cases hq : ks[i]? with
          | none => rw [hq] at q; cases q
          | some p =>
            rw [hq] at q
            exact ⟨p, rfl, (Option.some.inj q).symm⟩
        have none_of : ∀ b, s.heap.objs.size ≤ b → s.heap.get? b = none := fun b hb => by
          cases q : s.heap.get? b with
          | none => rfl
          | some o => exact absurd (Nat.lt_of_lt_of_le (Heap.lt_size q) hb) (Nat.lt_irrefl _)
        refine put_all ((Walks.list hh3 _ l hneI items).toS) s.heap.objs.size
          hSf ks hisz few hval s.heap hk (none_of _ (Nat.le_refl _)) (fun b hb => none_of b (by
            rw [List.mem_singleton.mp hb, Heap.size_push]
            exact Nat.le_succ _)) (by show A.units + 3 + 8 < cLine; omega) (items.size - 0) 0 _ (by omega) (Nat.zero_le _)
          ⟨⟨_, Heap.get?_push_size _ rfl, rfl, rfl⟩, (hl1.push _)⟩ (fun b o e => Heap.get?_push_of_some _ (Heap.get?_push_of_some _ e)) ?hS0 ?hR
        case hS0 =>
          have hget : ((s.heap.push (emptyO w)).push { cls := .type "list_iterator", data := .fields #[.ref l, .int 0 0] }).get? s.heap.objs.size = some (emptyO w) := Heap.get?_push_of_some _ hS
          exact ⟨[], #[], 0, _, fresh_set hget, Has.zero ks⟩
        case hR =>
          intro s' L es ep t hm hS' g' hkp
          obtain ⟨h', g2, d', tk', os'⟩ := s'
          have eg : g2 = s.gens := hm.gens
          have ed : d' = s.drawn := hm.drawn
          have eo : os' = s.os := hm.os
          subst eg; subst ed; subst eo
          show wpAny _ _ _ _ _ _
          refine wpAny_pure ?_
          show wpAny _ _ (ret Value.none) _ _ _
          rw [hisz] at g'
          exact wpAny_pure ⟨rfl, h', tk', L, es, ep, t, rfl, hS', g', hkp⟩

      · cases r₂ with
        | error e => exact hr₂
        | ok fl₂ =>
          cases fl₂ with
          | ret r =>
            obtain ⟨rfl, h', tk, L, es, ep, t, rfl, hS', g', hk'⟩ := hr₂
            repeat (any_goals (first | assumption | wp_step))
            exact h _ _ _ _ _ _ hS' g' hk'
          | _ => exact hr₂.elim
    | _ => exact hr.elim
end
end NS

namespace EvS
open PySem PySem.Spec PyProof.Rows L2 Ev
open PySem.W (alike alikeAll dataLt dataLe TotalLe sameRank)

/-! ### one order, told twice -/
mutual
theorem alk_py : ∀ x y : D, D.alk x y = true → alike (toPy x) (toPy y) = true
  | .non, y, h => by cases y <;> first | (simp [toPy, alike]; done) | cases h
  | .bl _, y, h => by cases y <;> first | (simp [toPy, alike]; done) | cases h
  | .int _, y, h => by cases y <;> first | (simp [toPy, alike]; done) | cases h
  | .str _, y, h => by cases y <;> first | (simp [toPy, alike]; done) | cases h
  | .lst _, y, h => by cases y <;> cases h
  | .tup xs, y, h => by
    cases y with
    | tup ys =>
      have z := alks_py xs ys h
      simp only [toPy, alike]
      exact z
    | _ => cases h
theorem alks_py : ∀ xs ys : List D, D.alks xs ys = true → alikeAll (toPys xs) (toPys ys) = true
  | [], ys, _ => by simp [toPys, alikeAll]
  | _ :: _, [], _ => by simp [toPys, alikeAll]
  | x :: xs, y :: ys, h => by
    have h : (D.alk x y && D.alks xs ys) = true := h
    rw [Bool.and_eq_true] at h
    simp only [toPys, alikeAll, Bool.and_eq_true]
    exact ⟨alk_py x y h.1, alks_py xs ys h.2⟩
end
mutual
theorem alk_symm : ∀ x y : D, D.alk x y = true → D.alk y x = true
  | .non, y, h => by cases y <;> first | rfl | cases h
  | .bl _, y, h => by cases y <;> first | rfl | cases h
  | .int _, y, h => by cases y <;> first | rfl | cases h
  | .str _, y, h => by cases y <;> first | rfl | cases h
  | .lst _, y, h => by cases y <;> cases h
  | .tup xs, y, h => by
    cases y with
    | tup ys => exact alks_symm xs ys h
    | _ => cases h
theorem alks_symm : ∀ xs ys : List D, D.alks xs ys = true → D.alks ys xs = true
  | [], [], _ => rfl
  | [], _ :: _, _ => rfl
  | _ :: _, [], _ => rfl
  | x :: xs, y :: ys, h => by
    have h : (D.alk x y && D.alks xs ys) = true := h
    rw [Bool.and_eq_true] at h
    show (D.alk y x && D.alks ys xs) = true
    rw [Bool.and_eq_true]
    exact ⟨alk_symm x y h.1, alks_symm xs ys h.2⟩
end
mutual
/-- alike things that are equal are the same -/
theorem alk_eqv : ∀ x y : D, D.alk x y = true → D.eqv x y = true → x = y
  | .non, y, h, e => by cases y <;> first | rfl | cases h
  | .bl _, y, h, e => by
    cases y with
    | bl b => exact congrArg D.bl (eq_of_beq e)
    | _ => cases h
  | .int _, y, h, e => by
    cases y with
    | int b => exact congrArg D.int (eq_of_beq e)
    | _ => cases h
  | .str _, y, h, e => by
    cases y with
    | str b => exact congrArg D.str (eq_of_beq e)
    | _ => cases h
  | .lst _, y, h, e => by cases y <;> cases h
  | .tup xs, y, h, e => by
    cases y with
    | tup ys => exact congrArg D.tup (alks_eqv xs ys h e)
    | _ => cases h
theorem alks_eqv : ∀ xs ys : List D, D.alks xs ys = true → D.eqvs xs ys = true → xs = ys
  | [], [], _, _ => rfl
  | [], _ :: _, _, e => by cases e
  | _ :: _, [], _, e => by cases e
  | x :: xs, y :: ys, h, e => by
    have h : (D.alk x y && D.alks xs ys) = true := h
    have e : (D.eqv x y && D.eqvs xs ys) = true := e
    rw [Bool.and_eq_true] at h e
    rw [alk_eqv x y h.1 e.1, alks_eqv xs ys h.2 e.2]
end
mutual
theorem eqv_refl : ∀ x : D, D.eqv x x = true
  | .non => rfl
  | .bl b => beq_self_eq_true b
  | .int b => beq_self_eq_true b
  | .str b => beq_self_eq_true b
  | .tup xs => eqvs_refl xs
  | .lst xs => eqvs_refl xs
theorem eqvs_refl : ∀ x : List D, D.eqvs x x = true
  | [] => rfl
  | x :: xs => by
    show (D.eqv x x && D.eqvs xs xs) = true
    rw [eqv_refl x, eqvs_refl xs]
    rfl
end
theorem alk_ne {x y : D} (h : D.alk x y = true) (n : ¬ x = y) : D.eqv x y = false := by
  cases q : D.eqv x y with
  | false => rfl
  | true => exact absurd (alk_eqv x y h q) n
theorem ltS_lt : ∀ a b : List Nat, ltS a b = decide (a < b)
  | [], [] => by simp [ltS]
  | [], _ :: _ => by simp [ltS]
  | _ :: _, [] => by simp [ltS]
  | a :: x, b :: y => by
    unfold ltS
    by_cases h : a < b
    · rw [if_pos h, decide_eq_true]
      exact List.Lex.rel h
    · rw [if_neg h]
      by_cases h2 : b < a
      · rw [if_pos h2, decide_eq_false]
        intro z
        rcases List.cons_lt_cons_iff.mp z with z | z
        · exact h z
        · omega
      · have e : a = b := by omega
        subst e
        rw [if_neg h2, ltS_lt x y]
        simp
theorem lex_nil_cons (y : PyData) (ys : List PyData) : PyProof.Rows.lexLt PyProof.Rows.itemOrd (PySem.W.keyToksAll []) (PySem.W.keyToksAll (y :: ys)) = true := by
  simp only [PySem.W.keyToksAll]
  rw [lex_diff (by simp)]
  rfl
theorem lex_cons_nil (y : PyData) (ys : List PyData) : PyProof.Rows.lexLt PyProof.Rows.itemOrd (PySem.W.keyToksAll (y :: ys)) (PySem.W.keyToksAll []) = false := by
  simp only [PySem.W.keyToksAll]
  rw [lex_diff (by simp)]
  rfl
mutual
theorem lt_py : ∀ x y : D, D.alk x y = true → dataLt (toPy x) (toPy y) = D.lt x y
  | .non, y, h => by
    cases y with
    | non => exact lex_irrefl _
    | _ => cases h
  | .bl a, y, h => by
    cases y with
    | bl b =>
      show dataLt (.bool a) (.bool b) = (!a && b)
      rw [PySem.W.dataLt_bool]
      cases a <;> cases b <;> rfl
    | _ => cases h
  | .int a, y, h => by
    cases y with
    | int b => exact PySem.W.dataLt_int a b
    | _ => cases h
  | .str a, y, h => by
    cases y with
    | str b =>
      show dataLt (.str ⟨a.toArray⟩) (.str ⟨b.toArray⟩) = ltS a b
      rw [PySem.W.dataLt_str, ltS_lt]
    | _ => cases h
  | .lst _, y, h => by cases y <;> cases h
  | .tup xs, y, h => by
    cases y with
    | tup ys =>
      show dataLt (.tuple (toPys xs)) (.tuple (toPys ys)) = D.lts xs ys
      rw [PySem.W.dataLt_tuple]
      exact lts_py xs ys h
    | _ => cases h
theorem lts_py : ∀ xs ys : List D, D.alks xs ys = true → PyProof.Rows.lexLt PyProof.Rows.itemOrd (PySem.W.keyToksAll (toPys xs)) (PySem.W.keyToksAll (toPys ys)) = D.lts xs ys
  | [], [], _ => lex_irrefl _
  | [], y :: ys, _ => lex_nil_cons _ _
  | x :: xs, [], _ => lex_cons_nil _ _
  | x :: xs, y :: ys, h => by
    have h : (D.alk x y && D.alks xs ys) = true := h
    rw [Bool.and_eq_true] at h
    show PyProof.Rows.lexLt PyProof.Rows.itemOrd (PySem.W.keyToksAll (toPy x :: toPys xs)) (PySem.W.keyToksAll (toPy y :: toPys ys)) = if D.eqv x y then D.lts xs ys else D.lt x y
    rw [PySem.W.dataLt_cons (alk_py x y h.1), toPy_eqv, lts_py xs ys h.2, lt_py x y h.1]
end
mutual
theorem lt_tri : ∀ x y : D, D.alk x y = true → D.lt x y = false → D.lt y x = false → x = y
  | .non, y, h, _, _ => by
    cases y with
    | non => rfl
    | _ => cases h
  | .bl a, y, h, e, e2 => by
    cases y with
    | bl b =>
      have e : (!a && b) = false := e
      have e2 : (!b && a) = false := e2
      cases a <;> cases b <;> first | rfl | (simp at e; done) | (simp at e2; done)
    | _ => cases h
  | .int a, y, h, e, e2 => by
    cases y with
    | int b =>
      have e := of_decide_eq_false (show decide (a < b) = false from e)
      have e2 := of_decide_eq_false (show decide (b < a) = false from e2)
      have : a = b := by omega
      rw [this]
    | _ => cases h
  | .str a, y, h, e, e2 => by
    cases y with
    | str b =>
      have e : ltS a b = false := e
      have e2 : ltS b a = false := e2
      rw [ltS_lt] at e e2
      have e := of_decide_eq_false e
      have e2 := of_decide_eq_false e2
      exact congrArg D.str (List.le_antisymm (List.not_lt.mp e2) (List.not_lt.mp e))
    | _ => cases h
  | .lst _, y, h, _, _ => by cases y <;> cases h
  | .tup xs, y, h, e, e2 => by
    cases y with
    | tup ys => exact congrArg D.tup (lts_tri xs ys h e e2)
    | _ => cases h
theorem lts_tri : ∀ xs ys : List D, D.alks xs ys = true → D.lts xs ys = false → D.lts ys xs = false → xs = ys
  | [], [], _, _, _ => rfl
  | [], _ :: _, _, e, _ => by cases e
  | _ :: _, [], _, _, e => by cases e
  | x :: xs, y :: ys, h, e, e2 => by
    have h : (D.alk x y && D.alks xs ys) = true := h
    rw [Bool.and_eq_true] at h
    have e : (if D.eqv x y then D.lts xs ys else D.lt x y) = false := e
    have e2 : (if D.eqv y x then D.lts ys xs else D.lt y x) = false := e2
    rcases Classical.em (x = y) with q | q
    · subst q
      rw [eqv_refl, if_pos rfl] at e e2
      rw [lts_tri xs ys h.2 e e2]
    · rw [alk_ne h.1 q, if_neg Bool.false_ne_true] at e
      rw [alk_ne (alk_symm _ _ h.1) (fun z => q z.symm), if_neg Bool.false_ne_true] at e2
      exact absurd (lt_tri x y h.1 e e2) q
end

/-! ### insertion is mergeSort -/
section
variable {α : Type} {le : α → α → Bool}
def insL (le : α → α → Bool) (x : α) : List α → List α
  | [] => [x]
  | y :: ys => if le x y then x :: y :: ys else y :: insL le x ys
def srtL (le : α → α → Bool) : List α → List α
  | [] => []
  | x :: xs => insL le x (srtL le xs)
theorem mem_insL {x z : α} : ∀ {ys : List α}, z ∈ insL le x ys ↔ z = x ∨ z ∈ ys
  | [] => by simp [insL]
  | y :: ys => by
    unfold insL
    split
    · simp
    · rw [List.mem_cons, mem_insL, List.mem_cons]
      constructor
      · rintro (h | h | h)
        · exact .inr (.inl h)
        · exact .inl h
        · exact .inr (.inr h)
      · rintro (h | h | h)
        · exact .inr (.inl h)
        · exact .inl h
        · exact .inr (.inr h)
theorem pw_insL (T : TotalLe le) {x : α} : ∀ {ys : List α}, ys.Pairwise (fun a b => le a b = true) → (insL le x ys).Pairwise (fun a b => le a b = true)
  | [], _ => by simp [insL]
  | y :: ys, h => by
    rw [List.pairwise_cons] at h
    unfold insL
    split
    · rename_i q
      refine List.pairwise_cons.mpr ⟨fun z hz => ?_, List.pairwise_cons.mpr h⟩
      rcases List.mem_cons.mp hz with e | e
      · rw [e]; exact q
      · exact T.trans _ _ _ q (h.1 z e)
    · rename_i q
      refine List.pairwise_cons.mpr ⟨fun z hz => ?_, pw_insL T h.2⟩
      rcases mem_insL.mp hz with e | e
      · subst e
        exact (T.total z y).resolve_left q
      · exact h.1 z e
theorem filter_insL (T : TotalLe le) {x c : α} : ∀ {ys : List α}, (insL le x ys).filter (sameRank le c) = (x :: ys).filter (sameRank le c)
  | [] => rfl
  | y :: ys => by
    unfold insL
    split
    · rfl
    · rename_i q
      have q : ¬ le x y = true := q
      rw [List.filter_cons, filter_insL T, List.filter_cons, List.filter_cons, List.filter_cons]
      by_cases h1 : sameRank le c y = true
      · have h2 : ¬ sameRank le c x = true := fun h2 => by
          unfold sameRank at h1 h2
          rw [Bool.and_eq_true] at h1 h2
          exact q (T.trans _ _ _ h2.2 h1.1)
        simp [h1, h2]
      · simp [h1]
theorem srtL_eq (T : TotalLe le) (xs : List α) : srtL le xs = xs.mergeSort le := by
  refine PySem.W.sort_unique T ?_ ?_
  · induction xs with
    | nil => exact List.Pairwise.nil
    | cons x xs ih => exact pw_insL T ih
  · intro c
    induction xs with
    | nil => rfl
    | cons x xs ih =>
      show (insL le x (srtL le xs)).filter _ = _
      rw [filter_insL T, List.filter_cons, ih, ← List.filter_cons]
end
theorem le_total : TotalLe (dataLe false toPy) := PySem.W.sortLe_total _ _ _
abbrev AllAlk (xs : List D) : Prop := ∀ x ∈ xs, ∀ y ∈ xs, D.alk x y = true
theorem insF_eq {x : D} : ∀ {ys : List D}, (∀ y ∈ ys, D.alk y x = true) → insF x ys = insL (dataLe false toPy) x ys
  | [], _ => rfl
  | y :: ys, h => by
    have e : dataLe false toPy x y = !D.lt y x := by
      show (!dataLt (toPy y) (toPy x)) = _
      rw [lt_py y x (h y List.mem_cons_self)]
    unfold insF insL
    rw [e, insF_eq fun z hz => h z (List.mem_cons_of_mem _ hz)]
    cases D.lt y x <;> rfl
theorem mem_insF {x z : D} : ∀ {ys : List D}, z ∈ insF x ys ↔ z = x ∨ z ∈ ys
  | [] => by simp [insF]
  | y :: ys => by
    unfold insF
    split
    · rw [List.mem_cons, mem_insF, List.mem_cons]
      constructor
      · rintro (h | h | h)
        · exact .inr (.inl h)
        · exact .inl h
        · exact .inr (.inr h)
      · rintro (h | h | h)
        · exact .inr (.inl h)
        · exact .inl h
        · exact .inr (.inr h)
    · simp
theorem mem_sortD {z : D} : ∀ {xs : List D}, z ∈ sortD xs ↔ z ∈ xs
  | [] => Iff.rfl
  | x :: xs => by
    show z ∈ insF x (sortD xs) ↔ _
    rw [mem_insF, mem_sortD, List.mem_cons]
theorem sortD_srt : ∀ {xs : List D}, AllAlk xs → sortD xs = srtL (dataLe false toPy) xs
  | [], _ => rfl
  | x :: xs, h => by
    show insF x (sortD xs) = insL _ x (srtL _ xs)
    rw [insF_eq fun y hy => h y (List.mem_cons_of_mem _ (mem_sortD.mp hy)) x List.mem_cons_self, sortD_srt fun a ha b hb => h a (List.mem_cons_of_mem _ ha) b (List.mem_cons_of_mem _ hb)]
theorem sortD_eq {xs : List D} (h : AllAlk xs) : sortD xs = xs.mergeSort (dataLe false toPy) := by rw [sortD_srt h, srtL_eq le_total]
theorem sortD_of {β : Type} {g : β → D} {l : List β} (h : AllAlk (l.map g)) : (l.mergeSort (dataLe false fun b => toPy (g b))).map g = sortD (l.map g) := by
  rw [sortD_eq h]
  exact PySem.W.sort_maps g fun a _ b _ => rfl
theorem insF_len (x : D) : ∀ ys : List D, (insF x ys).length = ys.length + 1
  | [] => rfl
  | y :: ys => by
    unfold insF
    split
    · rw [List.length_cons, insF_len x ys, List.length_cons]
    · rfl
theorem sortD_len : ∀ xs : List D, (sortD xs).length = xs.length
  | [] => rfl
  | x :: xs => by
    show (insF x (sortD xs)).length = _
    rw [insF_len, sortD_len xs, List.length_cons]
/-- different things are put in one order only -/
theorem sortD_perm {xs ys : List D} (h : AllAlk xs) (nd : xs.Nodup) (p : ys.Perm xs) : sortD ys = sortD xs := by
  have h2 : AllAlk ys := fun a ha b hb => h a (p.mem_iff.mp ha) b (p.mem_iff.mp hb)
  rw [sortD_eq h, sortD_eq h2]
  have T := le_total
  refine PySem.W.sort_one T _ _ (PySem.W.sort_pairwise T _) (PySem.W.sort_pairwise T _) fun c => ?_
  rw [PySem.W.sort_stable T, PySem.W.sort_stable T]
  have pf := p.filter (sameRank (dataLe false toPy) c)
  have one : ∀ a ∈ xs.filter (sameRank (dataLe false toPy) c), ∀ b ∈ xs.filter (sameRank (dataLe false toPy) c), a = b := fun a ha b hb => by
    obtain ⟨a1, a2⟩ := List.mem_filter.mp ha
    obtain ⟨b1, b2⟩ := List.mem_filter.mp hb
    unfold sameRank at a2 b2
    rw [Bool.and_eq_true] at a2 b2
    have e1 : dataLe false toPy a b = true := T.trans _ _ _ a2.2 b2.1
    have e2 : dataLe false toPy b a = true := T.trans _ _ _ b2.2 a2.1
    have e1 : (!dataLt (toPy b) (toPy a)) = true := e1
    have e2 : (!dataLt (toPy a) (toPy b)) = true := e2
    rw [lt_py _ _ (h b b1 a a1)] at e1
    rw [lt_py _ _ (h a a1 b b1)] at e2
    exact lt_tri a b (h a a1 b b1) (by simpa using e2) (by simpa using e1)
  have nf : (xs.filter (sameRank (dataLe false toPy) c)).Nodup := nd.filter _
  generalize xs.filter (sameRank (dataLe false toPy) c) = l at pf one nf
  match l, one, nf, pf with
  | [], _, _, pf => exact pf.eq_nil
  | [a], _, _, pf => exact List.perm_singleton.mp pf
  | a :: b :: l, one, nf, _ =>
    have e := one a List.mem_cons_self b (List.mem_cons_of_mem _ List.mem_cons_self)
    rw [List.nodup_cons] at nf
    exact absurd (by rw [e]; exact List.mem_cons_self) nf.1

/-! ### each once -/
theorem onceD_sub {z : D} : ∀ {xs : List D}, z ∈ onceD xs → z ∈ xs
  | [], h => h
  | x :: xs, h => by
    rcases List.mem_cons.mp (show z ∈ x :: (onceD xs).filter (fun y => !D.eqv y x) from h) with e | e
    · rw [e]; exact List.mem_cons_self
    · exact List.mem_cons_of_mem _ (onceD_sub (List.mem_filter.mp e).1)
theorem onceD_all {z : D} : ∀ {xs : List D}, AllAlk xs → z ∈ xs → z ∈ onceD xs
  | [], _, h => h
  | x :: xs, a, h => by
    show z ∈ x :: (onceD xs).filter (fun y => !D.eqv y x)
    rcases List.mem_cons.mp h with e | e
    · rw [e]; exact List.mem_cons_self
    · rcases Classical.em (z = x) with q | q
      · rw [q]; exact List.mem_cons_self
      · refine List.mem_cons_of_mem _ (List.mem_filter.mpr ⟨onceD_all (fun u hu v hv => a u (List.mem_cons_of_mem _ hu) v (List.mem_cons_of_mem _ hv)) e, ?_⟩)
        rw [alk_ne (a z (List.mem_cons_of_mem _ e) x List.mem_cons_self) q]
        rfl
theorem onceD_nodup : ∀ xs : List D, (onceD xs).Nodup
  | [] => List.nodup_nil
  | x :: xs => by
    show (x :: (onceD xs).filter (fun y => !D.eqv y x)).Nodup
    refine List.nodup_cons.mpr ⟨fun h => ?_, (onceD_nodup xs).filter _⟩
    have := (List.mem_filter.mp h).2
    rw [eqv_refl] at this
    cases this
theorem nodup_le {α : Type} [DecidableEq α] : ∀ {l m : List α}, l.Nodup → (∀ x ∈ l, x ∈ m) → l.length ≤ m.length
  | [], _, _, _ => Nat.zero_le _
  | x :: l, m, nd, h => by
    rw [List.nodup_cons] at nd
    have hx := h x List.mem_cons_self
    have z := nodup_le (m := m.erase x) nd.2 fun y hy => (List.mem_erase_of_ne (fun e => nd.1 (by rw [← e]; exact hy))).mpr (h y (List.mem_cons_of_mem _ hy))
    rw [List.length_erase_of_mem hx] at z
    have : 0 < m.length := List.length_pos_of_mem hx
    rw [List.length_cons]
    omega
end EvS

namespace EvS
open PySem PySem.Spec PyProof.Rows L2 Ev NS
open PySem.W (alike dataLt dataLe EachIs AllAlike Sortable)
section
variable {X : L2.Cx} {pins : List (Addr × Obj)} {σ : L2.St} {H : Hp} {s : Shared}
mutual
/-- data without lists reads as such -/
theorem RD.reads (I : L2.Inv X pins σ H s) : ∀ (x : D) (v : V) (u : Value), D.alk x x = true → RD X.K H x v → RelV v u → Reads s.heap u (toPy x) []
  | .non, v, u, _, h, r => by
    obtain rfl : v = .non := h
    cases r
    exact .none
  | .bl b, v, u, _, h, r => by
    obtain rfl : v = .bl b := h
    cases r
    exact .bool b
  | .int i, v, u, _, h, r => by
    obtain rfl : v = .int i := h
    obtain ⟨t, rfl⟩ := r
    exact .int i t
  | .str z, v, u, _, h, r => by
    obtain ⟨rfl, _⟩ := h
    obtain ⟨t, rfl⟩ := r
    exact .str _ t
  | .tup xs, v, u, hk, ⟨a, vs, e, h1, h2, h3⟩, r => by
    subst e
    cases r
    obtain ⟨its, rv, ⟨o, ho, hc, m, hd⟩, _⟩ := I.tuple h1
    exact .tuple ho hc hd (by simpa using RDs.reads I xs vs its hk h3 rv)
  | .lst _, _, _, hk, _, _ => by cases hk
theorem RDs.reads (I : L2.Inv X pins σ H s) : ∀ (xs : List D) (vs : List V) (us : List Value), D.alks xs xs = true → RDs X.K H xs vs → Vals vs us → ReadsAll s.heap us (toPys xs) []
  | [], vs, us, _, h, r => by
    obtain rfl : vs = [] := h
    cases r
    exact .nil
  | x :: xs, vs, us, hk, ⟨v, vr, e, h1, h2⟩, r => by
    have hk : (D.alk x x && D.alks xs xs) = true := hk
    rw [Bool.and_eq_true] at hk
    subst e
    cases r with
    | cons r1 r2 => exact ReadsAll.cons (as := []) (bs := []) (RD.reads I x v _ hk.1 h1 r1) (RDs.reads I xs vr _ hk.2 h2 r2)
end
theorem RDs.pairs {K : PySem.W.Frag} : ∀ {N : List (V × D)}, (∀ p ∈ N, RD K H p.2 p.1) → RDs K H (N.map (·.2)) (N.map (·.1))
  | [], _ => rfl
  | p :: N, h => ⟨p.1, N.map (·.1), rfl, h p List.mem_cons_self, RDs.pairs fun q hq => h q (List.mem_cons_of_mem _ hq)⟩
theorem RDs.unpair {K : PySem.W.Frag} : ∀ {ds : List D} {vs : List V}, RDs K H ds vs → ∃ N : List (V × D), vs = N.map (·.1) ∧ ds = N.map (·.2) ∧ ∀ p ∈ N, RD K H p.2 p.1
  | [], vs, h => ⟨[], h, rfl, fun p hp => by cases hp⟩
  | x :: xs, vs, ⟨v, vr, e, h1, h2⟩ => by
    obtain ⟨N, e1, e2, h3⟩ := RDs.unpair h2
    refine ⟨(v, x) :: N, by rw [e, e1]; rfl, by rw [e2]; rfl, fun p hp => ?_⟩
    rcases List.mem_cons.mp hp with e | hp
    · rw [e]; exact h1
    · exact h3 p hp
theorem vals_each : ∀ {vs : List V} {us : List Value} {N : List (V × D)}, vs = N.map (·.1) → Vals vs us → EachIs (fun u (p : V × D) => RelV p.1 u ∧ p ∈ N) us N := by
  have key : ∀ {vs : List V} {us : List Value} {N M : List (V × D)}, (∀ p ∈ N, p ∈ M) → vs = N.map (·.1) → Vals vs us → EachIs (fun u (p : V × D) => RelV p.1 u ∧ p ∈ M) us N := by
    intro vs us N
    induction N generalizing vs us with
    | nil =>
      intro M _ e r
      subst e
      cases r
      exact .nil
    | cons p N ih =>
      intro M hm e r
      subst e
      rw [List.map_cons] at r
      cases r with
      | cons r1 r2 => exact .cons ⟨r1, hm p List.mem_cons_self⟩ (ih (fun q hq => hm q (List.mem_cons_of_mem _ hq)) rfl r2)
  intro vs us N e r
  exact key (fun p hp => hp) e r
theorem each_vals : ∀ {us : List Value} {N : List (V × D)} {M : List (V × D)}, EachIs (fun u (p : V × D) => RelV p.1 u ∧ p ∈ M) us N → Vals (N.map (·.1)) us ∧ ∀ p ∈ N, p ∈ M
  | _, _, _, .nil => ⟨.nil, fun p hp => by cases hp⟩
  | _, _, _, .cons h t => by
    obtain ⟨a, b⟩ := each_vals t
    refine ⟨.cons h.1 a, fun p hp => ?_⟩
    rcases List.mem_cons.mp hp with e | hp
    · rw [e]; exact h.2
    · exact b p hp
/-- what may be sorted -/
theorem sortB_all {xs : List D} (h : sortB xs = true) : AllAlk xs ∧ (∀ x ∈ xs, x.tp = true) ∧ ∀ x ∈ xs, x.depth ≤ 60 := by
  unfold sortB at h
  simp only [Bool.and_eq_true, List.all_eq_true, decide_eq_true_eq] at h
  exact ⟨h.1.2, h.1.1, h.2⟩
theorem alk_map {β : Type} {g : β → D} {l : List β} (h : AllAlk (l.map g)) : AllAlike (l.map fun b => toPy (g b)) := by
  intro d hd d' hd'
  obtain ⟨b, hb, rfl⟩ := List.mem_map.mp hd
  obtain ⟨b', hb', rfl⟩ := List.mem_map.mp hd'
  exact alk_py _ _ (h _ (List.mem_map.mpr ⟨b, hb, rfl⟩) _ (List.mem_map.mpr ⟨b', hb', rfl⟩))
theorem tp_map {β : Type} {g : β → D} {l : List β} (h : ∀ x ∈ l.map g, x.tp = true) : Sortable (l.map fun b => toPy (g b)) := .inl fun d hd => by
  obtain ⟨b, hb, rfl⟩ := List.mem_map.mp hd
  have z := h _ (List.mem_map.mpr ⟨b, hb, rfl⟩)
  unfold D.tp at z
  split at z
  · rename_i x xs e
    rw [e]
    exact ⟨toPy x, toPys xs, rfl⟩
  · cases z
/-- sorted(xs) of data -/
def rSortedD (K : PySem.W.Frag) : List V → Hp → VK → Prop := fun vs H Q => ∃ (l : Addr) (xs : List V) (ds : List D), vs = [V.ref l] ∧ SqL K H l xs ∧ RDs K H ds xs ∧ sortB ds = true ∧
  ∀ p ys, H p = none → RDs K H (sortD ds) ys → Q (.ref p) (upd H p (.lst ys))
theorem cr_sortedD (hu : X.A.units + 70 < cLine) : CallR X (.builtin "sorted") (rSortedD X.K) := by
  intro pins s σ H vs us Q I r h
  obtain ⟨l, xs, ds, rfl, hl, hd, hs, q⟩ := h
  obtain ⟨h1, h2, h3⟩ := sortB_all hs
  obtain ⟨N, e1, e2, hN⟩ := hd.unpair
  obtain ⟨its, rv, pl, hz⟩ := I.list hl
  rw [Vals.ref1 r]
  have hlen : its.length = N.length := by rw [← rv.length, e1, List.length_map]
  have h1' := h1
  have h2' := h2
  rw [e2] at h1' h2'
  have e := vals_each e1 rv
  refine PySem.W.sorted_data (R := fun u (p : V × D) => RelV p.1 u ∧ p ∈ N) (bs := N) (enc := fun p => toPy p.2) (vs := its) pl.isList e (e.mono fun u p hp => ⟨[], RD.reads I p.2 p.1 u (h1' _ (List.mem_map.mpr ⟨p, hp.2, rfl⟩) _ (List.mem_map.mpr ⟨p, hp.2, rfl⟩)) (hN p hp.2) hp.1⟩)
    (alk_map h1') (tp_map h2') (by rw [← hlen, ← rv.length]; exact hz) (fun p hp => ?_) fun out ho he => ?_
  · rw [toPy_depth]
    have := h3 p.2 (by rw [e2]; exact List.mem_map.mpr ⟨p, hp, rfl⟩)
    omega
  · obtain ⟨rv2, sub⟩ := each_vals he
    obtain ⟨ep, he'⟩ := PyProof.Rows.sortedAll_at s.heap its out.toArray
    have hl2 : ((N.mergeSort (dataLe false fun p => toPy p.2)).map (·.1)).length ≤ sizeLine := by
      rw [rv2.length, ho, ← hlen, ← rv.length]
      exact hz
    have rd : RDs X.K H (sortD ds) ((N.mergeSort (dataLe false fun p => toPy p.2)).map (·.1)) := by
      rw [e2, ← sortD_of h1']
      exact RDs.pairs fun p hp => hN p (sub p hp)
    exact ⟨.ref _, upd H (s.heap.objs.size + 1) (.lst ((N.mergeSort (dataLe false fun p => toPy p.2)).map (·.1))), I.laid (t' := s.toks) (fun _ _ => PyProof.Rows.sortedAll_old) (Nat.le_succ _) ⟨hl2, out, ep, rv2, he'⟩, rfl, q _ _ (I.hok.fresh (Nat.le_succ _)) rd⟩

/-! ### sets -/
/-- the set at a, without its tuples -/
def SetN0 (w : World) (h : Heap) (a : Addr) (L : List Ent) : Prop := ∃ (es : Array (Int × Value)) (ep : Nat) (t : SetTable), (∃ o, h.get? a = some o ∧ o.ExactSet ∧ o.data = .set es ep t) ∧ es.toList = L.map (row w) ∧ TabOk t (L.map fun p => p.2.hash w) ∧ (L.map (·.2)).Nodup ∧ t.plain = true ∧
    (w.params.followText "set-order" = true ∨ t.led = true) ∧ L.length * 5 < t.mask * 3 ∧ L.length ≤ 70
def SetNO (w : World) (a : Addr) (L : List Ent) : HO := .ext fun h => SetN0 w h a L
theorem SetN.t0 {w : World} {h : Heap} {a : Addr} {L : List Ent} {es : Array (Int × Value)} {ep : Nat} {t : SetTable} (R : SetN w h a L es ep t) : SetN0 w h a L := ⟨es, ep, t, R.ob, R.rows, R.tab, R.nd, R.plain, R.led, R.room, R.few⟩
theorem setNO_ok {P : Program} {w : World} {H : Hp} {h : Heap} {a : Addr} {L : List Ent} (R : SetN0 w h a L) : ObjOk P w H h a (SetNO w a L) := by
  have ⟨es, ep, t, ⟨o, ho, r⟩, q⟩ := R
  refine ⟨R, ⟨o, ho⟩, fun h1 h2 p k => ?_⟩
  have ⟨es', ep', t', ⟨o', ho', r'⟩, q'⟩ := p
  exact ⟨es', ep', t', ⟨o', k o' ho', r'⟩, q'⟩
/-- a tuple and its data -/
abbrev Ed := Addr × D
def kof (p : Ed) : Ent := (p.1, toK p.2)
mutual
theorem nt_key : ∀ (x : D) (n : Nat), D.nt.ntk n x = true → noTx (toK x) = true
  | .non, _, _ => rfl
  | .bl _, _, _ => rfl
  | .int _, _, _ => rfl
  | .str _, n, h => by cases n <;> cases h
  | .lst _, n, h => by cases n <;> cases h
  | .tup xs, 0, h => by cases h
  | .tup xs, n + 1, h => nt_keys xs n h
theorem nt_keys : ∀ (xs : List D) (n : Nat), xs.all (D.nt.ntk n) = true → noTxs (toKs xs) = true
  | [], _, _ => rfl
  | x :: xs, n, h => by
    rw [List.all_cons, Bool.and_eq_true] at h
    show (noTx (toK x) && noTxs (toKs xs)) = true
    rw [nt_key x n h.1, nt_keys xs n h.2]
    rfl
end
theorem nt_noTx {x : D} (h : x.nt = true) : noTx (toK x) = true := by
  cases x with
  | tup xs => exact nt_keys xs 8 h
  | _ => cases h
theorem kAt (I : L2.Inv X pins σ H s) {x : D} {a : Addr} (hk : x.key = true) (hn : x.nt = true) (h : RD X.K H x (.ref a)) : KAt s.heap (toK x) a :=
  ⟨RD.nested I x 8 (.ref a) (.ref a) (key_kf hk) h rfl, kf_depth x 8 (key_kf hk), nt_noTx hn⟩
theorem RDs.refs {K : PySem.W.Frag} : ∀ {ds : List D} {vs : List V}, RDs K H ds vs → (∀ x ∈ ds, x.key = true) → ∃ ks : List Ed, vs = ks.map (fun p => V.ref p.1) ∧ ds = ks.map (·.2) ∧ ∀ p ∈ ks, RD K H p.2 (.ref p.1)
  | [], vs, h, _ => ⟨[], h, rfl, fun p hp => by cases hp⟩
  | x :: xs, vs, ⟨v, vr, e, h1, h2⟩, hk => by
    obtain ⟨N, e1, e2, h3⟩ := RDs.refs h2 fun y hy => hk y (List.mem_cons_of_mem _ hy)
    obtain ⟨a, rfl⟩ := key_ref (hk x List.mem_cons_self) h1
    refine ⟨(a, x) :: N, by rw [e, e1]; rfl, by rw [e2]; rfl, fun p hp => ?_⟩
    rcases List.mem_cons.mp hp with e | hp
    · rw [e]; exact h1
    · exact h3 p hp
theorem vals_refs : ∀ {ks : List Ed} {us : List Value}, Vals (ks.map fun p => V.ref p.1) us → us = ks.map fun p => Value.ref p.1
  | [], _, .nil => rfl
  | p :: ks, _, .cons r t => by
    cases r
    rw [vals_refs t]
    rfl
theorem refs_vals : ∀ (ks : List Ed), Vals (ks.map fun p => V.ref p.1) (ks.map fun p => Value.ref p.1)
  | [] => .nil
  | p :: ks => .cons rfl (refs_vals ks)
/-- members come from the items -/
theorem from_items {ks : List Ed} : ∀ {L : List Ent}, (∀ p ∈ L, p ∈ ks.map kof) → ∃ M : List Ed, L = M.map kof ∧ ∀ p ∈ M, p ∈ ks
  | [], _ => ⟨[], rfl, fun p hp => by cases hp⟩
  | p :: L, h => by
    obtain ⟨q, hq, e⟩ := List.mem_map.mp (h p List.mem_cons_self)
    obtain ⟨M, e1, h1⟩ := from_items fun r hr => h r (List.mem_cons_of_mem _ hr)
    refine ⟨q :: M, by rw [List.map_cons, e, e1], fun r hr => ?_⟩
    rcases List.mem_cons.mp hr with e | hr
    · rw [e]; exact hq
    · exact h1 r hr
/-- set(xs), xs a list of tuples -/
def rSetD (K : PySem.W.Frag) (w : World) : List V → Hp → VK → Prop := fun xs H Q => ∃ (l : Addr) (ks : List Ed), xs = [V.ref l] ∧ SqL K H l (ks.map fun p => V.ref p.1) ∧ (∀ p ∈ ks, RD K H p.2 (.ref p.1) ∧ p.2.key = true ∧ p.2.nt = true) ∧ Few (ks.map kof) ∧
  ∀ (a : Addr) (M : List Ed), H a = none → (∀ p ∈ M, p ∈ ks) → (∀ p ∈ ks, toK p.2 ∈ M.map fun q => toK q.2) → (M.map fun q => toK q.2).Nodup → Q (.ref a) (upd H a (SetNO w a (M.map kof)))
theorem cr_setD (hc : X.calm = true) (hu : X.A.units + 70 < cLine) : CallR X (.type "set") (rSetD X.K X.w) := by
  intro pins s σ H xs us Q I r h
  obtain ⟨l, ks, rfl, hl, hk, hf, q⟩ := h
  rw [Vals.ref1 r]
  obtain ⟨its, rv, pl, hz⟩ := I.list hl
  have hn : H s.heap.objs.size = none := I.hok.fresh (Nat.le_refl _)
  refine new_set (P := X.prog) (w := X.w) (ks.map kof) (I.ok.hd hc) pl.isList ?_ (fun p hp => ?_) hf (by omega) fun h' tk L es ep t R g k => ?_
  · rw [List.map_map]
    have z := vals_refs rv
    show its.toArray.toList = ks.map fun p => Value.ref p.1
    simpa using z
  · obtain ⟨q, hq, rfl⟩ := List.mem_map.mp hp
    obtain ⟨h1, h2, h3⟩ := hk q hq
    exact kAt I h2 h3 h1
  · obtain ⟨M, rfl, hM⟩ := from_items fun p hp => List.mem_of_mem_take (g.sub p hp)
    refine ⟨.ref s.heap.objs.size, _, I.laid (t' := tk) k (Nat.le_refl _) (setNO_ok (SetN.t0 R)), rfl, q _ M hn hM (fun p hp => ?_) ?_⟩
    · have z := g.all (kof p) (by rw [List.take_length]; exact List.mem_map.mpr ⟨p, hp, rfl⟩)
      rw [List.map_map] at z
      exact z
    · have z := R.nd
      rw [List.map_map] at z
      exact z
theorem perm_back {α β : Type} {g : α → β} : ∀ {l : List β} {M : List α}, l.Perm (M.map g) → ∃ N : List α, N.Perm M ∧ l = N.map g
  | [], M, p => by
    have e := p.symm.eq_nil
    obtain rfl : M = [] := by
      cases M with
      | nil => rfl
      | cons _ _ => cases e
    exact ⟨[], .nil, rfl⟩
  | v :: l, M, p => by
    obtain ⟨m, hm, e⟩ := List.mem_map.mp (p.mem_iff.mp List.mem_cons_self)
    obtain ⟨M1, M2, rfl⟩ := List.append_of_mem hm
    have p2 : (v :: l).Perm (v :: (M1 ++ M2).map g) := by
      refine p.trans ?_
      rw [List.map_append, List.map_append, List.map_cons, e]
      exact List.perm_middle
    obtain ⟨N, hN, e2⟩ := perm_back p2.cons_inv
    exact ⟨m :: N, (hN.cons m).trans List.perm_middle.symm, by rw [List.map_cons, e, e2]⟩
theorem each_refs {M : List Ed} : ∀ {N : List Ed}, (∀ p ∈ N, p ∈ M) → EachIs (fun u (p : Ed) => u = Value.ref p.1 ∧ p ∈ M) (N.map fun p => Value.ref p.1) N
  | [], _ => .nil
  | p :: N, h => .cons ⟨rfl, h p List.mem_cons_self⟩ (each_refs fun q hq => h q (List.mem_cons_of_mem _ hq))
theorem refs_each {M : List Ed} : ∀ {us : List Value} {N : List Ed}, EachIs (fun u (p : Ed) => u = Value.ref p.1 ∧ p ∈ M) us N → us = (N.map fun p => Value.ref p.1) ∧ ∀ p ∈ N, p ∈ M
  | _, _, .nil => ⟨rfl, fun p hp => by cases hp⟩
  | _, _, .cons h t => by
    obtain ⟨a, b⟩ := refs_each t
    refine ⟨by rw [h.1, a]; rfl, fun p hp => ?_⟩
    rcases List.mem_cons.mp hp with e | hp
    · rw [e]; exact h.2
    · exact b p hp
theorem RDs.ofRefs {K : PySem.W.Frag} : ∀ {N : List Ed}, (∀ p ∈ N, RD K H p.2 (.ref p.1)) → RDs K H (N.map (·.2)) (N.map fun p => V.ref p.1)
  | [], _ => rfl
  | p :: N, h => ⟨.ref p.1, N.map fun p => V.ref p.1, rfl, h p List.mem_cons_self, RDs.ofRefs fun q hq => h q (List.mem_cons_of_mem _ hq)⟩
/-- sorted(set) -/
def rSortedN (K : PySem.W.Frag) (w : World) : List V → Hp → VK → Prop := fun vs H Q => ∃ (a : Addr) (M : List Ed), vs = [V.ref a] ∧ H a = some (SetNO w a (M.map kof)) ∧ (∀ p ∈ M, RD K H p.2 (.ref p.1) ∧ p.2.key = true ∧ p.2.nt = true) ∧
  sortB (M.map (·.2)) = true ∧ ∀ p ys, H p = none → RDs K H (sortD (M.map (·.2))) ys → Q (.ref p) (upd H p (.lst ys))
theorem cr_sortedN (hc : X.calm = true) (hu : X.A.units + 70 < cLine) : CallR X (.builtin "sorted") (rSortedN X.K X.w) := by
  intro pins s σ H vs us Q I r h
  obtain ⟨a, M, rfl, ha, hk, hs, q⟩ := h
  obtain ⟨al, tp, dp⟩ := sortB_all hs
  have ⟨es, ep, t, ⟨o, ho, hex, hd⟩, hr, hT, hnd, hpl, hled, hroom, hfew⟩ := show SetN0 X.w s.heap a (M.map kof) from (I.hok a _ ha).1
  have hsz := sz_rows hr
  rw [Vals.ref1 r]
  have hh : X.A.handled = none := I.ok.hd hc
  have hfits : t.fits es.size = true := by
    have h1 := hT.sz
    rw [List.length_map] at h1
    unfold SetTable.fits SetTable.fill
    rw [hT.dm, Bool.and_eq_true, beq_iff_eq, decide_eq_true_eq]
    show t.place.size = es.size ∧ t.place.size + 0 ≤ t.mask
    omega
  refine Calls.call_function_entry kind_sorted plain_sorted entry_sorted (args_sorted1 _) ?_
  unfold Builtin.«sorted»
  refine wpAny_bind (m := checkCount "sorted" 1 1 _) (wpAny_pure ?_)
  refine wpAny_bind (collect_set (A := X.A.in1) hh ⟨o, ho, hex.1, hd⟩ hfits (by unfold scanBound; omega) hT.ris hled fun s1 vs k1 hz g1 o1 pm => ?_)
  have hes : es.toList.map (·.2) = M.map fun q => Value.ref q.1 := by
    rw [hr, List.map_map, List.map_map]
    rfl
  rw [hes] at pm
  obtain ⟨M1, pM, rfl⟩ := perm_back pm
  have mem : ∀ p ∈ M1, p ∈ M := fun p hp => pM.mem_iff.mp hp
  have hM1 : M1.length ≤ 70 := by
    rw [pM.length_eq]
    rw [List.length_map] at hfew
    exact hfew
  have hlenV : (M1.map fun q => Value.ref q.1).length ≤ 70 := by rw [List.length_map]; exact hM1
  have nd : (M.map (·.2)).Nodup := by
    rw [List.map_map] at hnd
    have e : (M.map fun q => toK q.2) = (M.map (·.2)).map toK := by rw [List.map_map]; rfl
    have hnd : (M.map fun q => toK q.2).Nodup := hnd
    rw [e] at hnd
    exact List.Pairwise.of_map toK (fun _ _ hne e => hne (congrArg toK e)) hnd
  generalize hvs : (M1.map fun q => Value.ref q.1) = vs at hlenV
  refine wpAny_bind (wpAny_newList ?_ (by rw [sizeLine_eq]; omega))
  have hoL : (s1.heap.push (seqObj "list" vs.toArray 0)).get? s1.heap.objs.size = some (seqObj "list" vs.toArray 0) := Heap.get?_push_size _ rfl
  have kk : ∀ b u, s.heap.get? b = some u → (s1.heap.push (seqObj "list" vs.toArray 0)).get? b = some u := fun b u e => Heap.get?_push_of_some _ (k1 b u e)
  have al1 : AllAlk (M1.map (·.2)) := fun x hx y hy => al x ((pM.map (·.2)).mem_iff.mp hx) y ((pM.map (·.2)).mem_iff.mp hy)
  have e := each_refs (M := M) (N := M1) mem
  rw [hvs] at e
  refine wpAny_bind (wpAny_holding (PySem.W.list_sort_data (s := { s1 with heap := s1.heap.push (seqObj "list" vs.toArray 0) }) (bs := M1) (R := fun u (p : Ed) => u = Value.ref p.1 ∧ p ∈ M) (enc := fun p => toPy p.2) hoL e
    (e.mono fun u p hp => ⟨[], PyProof.Rows.Reads.keeps kk (by rw [hp.1]; exact RD.reads I p.2 (.ref p.1) (.ref p.1) (al _ (List.mem_map.mpr ⟨p, hp.2, rfl⟩) _ (List.mem_map.mpr ⟨p, hp.2, rfl⟩)) (hk p hp.2).1 rfl), by simp⟩)
    (alk_map al1) (tp_map fun x hx => tp x ((pM.map (·.2)).mem_iff.mp hx)) (by rw [sizeLine_eq]; omega) (fun p hp => ?_) fun out ho' he => ?_))
  · rw [toPy_depth]
    have := dp p.2 (List.mem_map.mpr ⟨p, mem p hp, rfl⟩)
    show X.A.units + 1 + 1 + _ < cLine
    omega
  · obtain ⟨eo, sub⟩ := refs_each he
    obtain ⟨c, hc'⟩ := sortedHeap_at (vs := vs) (out := out.toArray) hoL
    have eN : (M1.mergeSort (dataLe false fun p => toPy p.2)).map (·.2) = sortD (M.map (·.2)) := by
      rw [sortD_of al1]
      exact sortD_perm al nd (pM.map (·.2))
    generalize M1.mergeSort (dataLe false fun p => toPy p.2) = N at eo sub eN
    have lN : N.length ≤ 70 := by
      have : N.length = (N.map (·.2)).length := (List.length_map _).symm
      rw [this, eN, sortD_len, List.length_map]
      rw [List.length_map] at hfew
      exact hfew
    have hn : H s1.heap.objs.size = none := I.hok.fresh hz
    have keep : ∀ b u, s.heap.get? b = some u → (sortedHeap (s1.heap.push (seqObj "list" vs.toArray 0)) s1.heap.objs.size vs out.toArray).get? b = some u := fun b u e => by
      have q := k1 b u e
      have hlt := Heap.lt_size q
      rw [sortedHeap_old (Nat.ne_of_lt hlt) (by rw [size_push']; exact Nat.lt_succ_of_lt hlt)]
      exact Heap.get?_push_of_some _ q
    refine wpAny_pure ⟨_, rfl, ?_⟩
    have hv : Vals (N.map fun q => V.ref q.1) out.toArray.toList := by
      rw [show out.toArray.toList = out by simp, eo]
      exact refs_vals N
    have hl2 : (N.map fun q => V.ref q.1).length ≤ sizeLine := by rw [List.length_map, sizeLine_eq]; omega
    have J : Inv X pins σ (upd H s1.heap.objs.size (.lst (N.map fun q => V.ref q.1))) { s with heap := sortedHeap (s1.heap.push (seqObj "list" vs.toArray 0)) s1.heap.objs.size vs out.toArray, gens := s1.gens, drawn := s1.drawn, toks := s1.toks } :=
      I.call (ch := []) (Un.laid keep hz hn) (I.hok.laid keep hz ⟨hl2, out.toArray.toList, c, hv, hc'⟩) (by rw [g1]; exact I.bare) (fun _ z => nomatch z)
    have e2 : ({ s1 with heap := sortedHeap (s1.heap.push (seqObj "list" vs.toArray 0)) s1.heap.objs.size vs out.toArray } : Shared) = { s with heap := sortedHeap (s1.heap.push (seqObj "list" vs.toArray 0)) s1.heap.objs.size vs out.toArray, gens := s1.gens, drawn := s1.drawn, toks := s1.toks } := by
      cases s1
      cases s
      cases o1
      rfl
    show EP X pins σ Q (.ref s1.heap.objs.size) { s1 with heap := sortedHeap (s1.heap.push (seqObj "list" vs.toArray 0)) s1.heap.objs.size vs out.toArray }
    rw [e2]
    refine ⟨.ref _, _, J, rfl, q _ _ hn ?_⟩
    rw [← eN]
    exact RDs.ofRefs fun p hp => (hk p (sub p hp)).1
end
end EvS

namespace EvS
open PySem PySem.Spec PyProof.Rows L2 Ev

/-- a context of the law at hand, with room for k calls nested -/
structure Gd (L : Lw) (k : Nat) (X : L2.Cx) : Prop where
  K : X.K = L.K
  P : X.prog = L.P
  w : X.w = L.w
  mg : X.mg = L.mg
  base : X.base = L.base
  calm : X.calm = true
  room : Room k X.A
  nd : X.N.Nodup
  nb : ∀ x ∈ X.N, (x == ("__debug__" : Str)) = false ∧ (x == ("__classdict__" : Str)) = false
  up : X.env.scope.kind = .function

section
variable {L : Lw} {X : L2.Cx} {pins : List (Addr × Obj)} {σ : L2.St} {H : Hp} {μ : Mu} {s : Shared} {st : Sto} {E : XK} {k : Nat}
theorem Gd.u70 (g : Gd L k X) : X.A.units + 70 < cLine := by have := g.room.un; omega

theorem rawV_rw {v : Vl} {u : V} {x : D} (S : Sim L H μ st) (h : RV L H μ v u) (e : rawV st v = some x) : RW L.K H x u := by
  unfold rawV at e
  split at e
  · cases e
    exact .inl h
  · rename_i r
    split at e
    · rename_i xs hr
      cases e
      obtain ⟨a, vs, h1, h2, h3, h4⟩ := S.cell r _ hr
      exact .inr ⟨xs, a, vs, rfl, h.2.1 a h1, SqL.of h2, h3, h4⟩
    · rename_i xs hr
      cases e
      obtain ⟨a, o, vs, h1, h2, h3, h4⟩ := S.cell r _ hr
      exact .inl ⟨a, vs, h.2.1 a h1, .inl ⟨o, h2⟩, h3, h4⟩
    · cases e
  · cases e
/-- data is handed on, the store is as it was -/
theorem gd_of {z : D} {Q : VK} (S : Sim L H μ st) (h : RQ L H μ E (.ok (.d z) st) (QV (L := L) Q)) : GD L.K H z Q := fun H' v r n => by
  obtain ⟨e, S'⟩ := n.ext S
  exact h H' μ e S' v r
theorem bl_of {b : Bool} {Q : VK} (S : Sim L H μ st) (h : RQ L H μ E (.ok (.d (.bl b)) st) (QV (L := L) Q)) : Q (.bl b) H := (gd_of S h).val rfl

theorem dic_cell (S : Sim L H μ st) {r : Nat} {u : V} {kvs : List (D × D)} (h : RV L H μ (.ref r) u) (hr : st[r]? = some (.dic kvs)) :
    ∃ a xs, u = .ref a ∧ μ[r]? = some (some a) ∧ H a = some (DicO L.P L.w a xs) ∧ kvs.length ≤ line ∧ KVs L H kvs xs := by
  obtain ⟨a, xs, h1, h2, h3, h4⟩ := S.cell r _ hr
  exact ⟨a, xs, h.2.1 a h1, h1, h2, h3, h4⟩
theorem lst_cell (S : Sim L H μ st) {r : Nat} {u : V} {xs : List D} (h : RV L H μ (.ref r) u) (hr : st[r]? = some (.lst xs)) :
    ∃ a vs, u = .ref a ∧ μ[r]? = some (some a) ∧ H a = some (.lst vs) ∧ xs.length ≤ line ∧ RDs L.K H xs vs := by
  obtain ⟨a, vs, h1, h2, h3, h4⟩ := S.cell r _ hr
  exact ⟨a, vs, h.2.1 a h1, h1, h2, h3, h4⟩
theorem fz_cell (S : Sim L H μ st) {r : Nat} {u : V} {xs : List D} (h : RV L H μ (.ref r) u) (hr : st[r]? = some (.fz xs)) : RD L.K H (.lst xs) u := by
  obtain ⟨a, o, vs, h1, h2, h3, h4⟩ := S.cell r _ hr
  exact ⟨a, vs, h.2.1 a h1, .inl ⟨o, h2⟩, h3, h4⟩
theorem fdic_cell (S : Sim L H μ st) {r : Nat} {u : V} {kvs : List (D × D)} (h : RV L H μ (.ref r) u) (hr : st[r]? = some (.fdic kvs)) :
    ∃ a o xs, u = .ref a ∧ H a = some (.frz o (DicO L.P L.w a xs)) ∧ kvs.length ≤ line ∧ KVs L H kvs xs := by
  obtain ⟨a, o, xs, h1, h2, h3, h4⟩ := S.cell r _ hr
  exact ⟨a, o, xs, h.2.1 a h1, h2, h3, h4⟩
theorem room_key (g : Gd L k X) : (nestedKind X.prog X.w).room X.A.in1 := by
  have := g.room.un
  show X.A.units + 1 + 8 < cLine
  omega

/-- the text dict -/
theorem valV_getT (c : List Nat) : ∀ kvs : List (List Nat × Int), valV (kvs.map fun p => ((Sum.inr ⟨p.1.toArray⟩ : Key), V.int p.2)) (Sum.inr ⟨c.toArray⟩) = (getT c kvs).map V.int
  | [] => rfl
  | (a, i) :: r => by
    have ih := valV_getT c r
    rw [List.map_cons]
    by_cases h : a = c
    · subst h
      show _ = (if a == a then some i else getT a r).map V.int
      simp [valV]
    · have h' : ¬ ((Sum.inr (⟨a.toArray⟩ : Str) : Key) = Sum.inr ⟨c.toArray⟩) := fun e => h (by
        have := Sum.inr.inj e
        simpa using congrArg (fun z : Str => z.cps.toList) this)
      show _ = (if a == c then some i else getT c r).map V.int
      rw [beq_eq_false_iff_ne.mpr h]
      rw [← show (getT c r).map V.int = (if false = true then some i else getT c r).map V.int from rfl, ← ih]
      unfold valV at *
      rw [List.find?_cons_of_neg (by simpa using h')]
end
end EvS

namespace EvS
open PySem PySem.Spec PyProof.Rows L2 Ev
section
variable {L : Lw} {X : L2.Cx} {pins : List (Addr × Obj)} {σ : L2.St} {H : Hp} {μ : Mu} {s : Shared} {st : Sto} {E : XK} {k : Nat} {Q : VK}
theorem Gd.u1 (g : Gd L k X) : X.A.units + 1 < cLine := by have := g.room.un; omega
theorem cmp_data (g : Gd L k X) (o : Cop) {u v : Vl} {x y : V} {a b : Value} (I : L2.Inv X pins σ H s) (S : Sim L H μ st) (hx : RV L H μ u x) (hy : RV L H μ v y) (rx : RelV x a) (ry : RelV y b)
    (h : RQ L H μ E (match rawV st u, rawV st v with
      | some x, some y => ofB (copD o x y) st
      | _, _ => .no) (QV (L := L) Q)) : wpAny (model X.prog X.w) X.A (compareOp (pyCop o) a b) (EP X pins σ Q) X.xe s := by
  cases e1 : rawV st u with
  | none => rw [e1] at h; exact h.elim
  | some c =>
    cases e2 : rawV st v with
    | none => rw [e1, e2] at h; exact h.elim
    | some d =>
      rw [e1, e2] at h
      have h : RQ L H μ E (ofB (copD o c d) st) (QV (L := L) Q) := h
      cases e3 : copD o c d with
      | none => rw [e3] at h; exact h.elim
      | some t =>
        rw [e3] at h
        have r1 := rawV_rw S hx e1
        have r2 := rawV_rw S hy e2
        rw [← g.K] at r1 r2
        exact copR_D o g.u70 pins s σ H x y a b Q I rx ry ⟨c, d, t, r1, r2, e3, bl_of S h⟩
/-- a comparison by values -/
theorem cmp_ok (g : Gd L k X) (o : Cop) {u v : Vl} {x y : V} {a b : Value} (I : L2.Inv X pins σ H s) (S : Sim L H μ st) (hx : RV L H μ u x) (hy : RV L H μ v y) (rx : RelV x a) (ry : RelV y b)
    (h : RQ L H μ E (cmpV o u v st) (QV (L := L) Q)) : wpAny (model X.prog X.w) X.A (compareOp (pyCop o) a b) (EP X pins σ Q) X.xe s := by
  unfold cmpV at h
  split at h
  · rename_i kvs
    split at h
    · rename_i c
      obtain ⟨p, o', rfl, hp⟩ := hy
      obtain ⟨rfl, _⟩ := hx
      cases ry
      have gt : DGet H p (.str ⟨c.toArray⟩) (valV (kvs.map fun p => ((Sum.inr ⟨p.1.toArray⟩ : Key), V.int p.2)) (Sum.inr ⟨c.toArray⟩)) := .inl ⟨_, Sum.inr ⟨c.toArray⟩, .inr ⟨o', hp⟩, rfl, rfl⟩
      refine d_in g.u1 I gt rx fun s' I' => ⟨.bl _, H, I', rfl, ?_⟩
      rw [valV_getT, Option.isSome_map]
      exact bl_of S h
    · exact h.elim
  · rename_i r
    split at h
    · rename_i kvs hr
      split at h
      · rename_i c
        split at h
        · rename_i hk
          obtain ⟨p, xs, rfl, h1, h2, h3, h4⟩ := dic_cell S hy hr
          have hc : RD L.K H c x := hx
          obtain ⟨q, rfl⟩ := key_ref hk hc
          cases ry
          cases rx
          obtain ⟨d1, d2⟩ := dict_of g.K g.P g.w I h2 h4
          rw [← g.K] at hc
          refine wpAny_in_heap (room_key g) (key_is I hk hc) d1 d2 ⟨.bl _, H, I.tok _, rfl, ?_⟩
          have z := bl_of S h
          rcases KVs.get hk h4 with ⟨e1, e2⟩ | ⟨v, p2, u2, e1, e2, _⟩
          · rw [e2]; rw [e1] at z; exact z
          · rw [e2]; rw [e1] at z; exact z
        · exact h.elim
      · exact h.elim
    · rename_i xs hr
      split at h
      · rename_i c
        refine cmp_data (E := E) (u := .d c) (v := .ref r) g .isin I S hx hy rx ry ?_
        show RQ L H μ E (match some c, rawV st (.ref r) with
          | some x, some y => ofB (copD .isin x y) st
          | _, _ => .no) (QV (L := L) Q)
        have e : rawV st (.ref r) = some (.lst xs) := by
          show (match st[r]? with
            | some (.lst xs) => some (D.lst xs)
            | some (.fz xs) => some (D.lst xs)
            | _ => none) = _
          rw [hr]
        rw [e]
        exact h
      · exact h.elim
    · rename_i xs hr
      split at h
      · rename_i c
        refine cmp_data (E := E) (u := .d c) (v := .ref r) g .isin I S hx hy rx ry ?_
        show RQ L H μ E (match some c, rawV st (.ref r) with
          | some x, some y => ofB (copD .isin x y) st
          | _, _ => .no) (QV (L := L) Q)
        have e : rawV st (.ref r) = some (.lst xs) := by
          show (match st[r]? with
            | some (.lst xs) => some (D.lst xs)
            | some (.fz xs) => some (D.lst xs)
            | _ => none) = _
          rw [hr]
        rw [e]
        exact h
      · exact h.elim
    · rename_i kvs hr
      split at h
      · rename_i c
        split at h
        · rename_i hk
          obtain ⟨p, o', xs, rfl, h2, h3, h4⟩ := fdic_cell S hy hr
          have hc : RD L.K H c x := hx
          obtain ⟨q, rfl⟩ := key_ref hk hc
          cases ry
          cases rx
          obtain ⟨d1, d2⟩ := dict_ofF g.K g.P g.w I h2 h4
          rw [← g.K] at hc
          refine wpAny_in_heap (room_key g) (key_is I hk hc) d1 d2 ⟨.bl _, H, I.tok _, rfl, ?_⟩
          have z := bl_of S h
          rcases KVs.get hk h4 with ⟨e1, e2⟩ | ⟨v, p2, u2, e1, e2, _⟩
          · rw [e2]; rw [e1] at z; exact z
          · rw [e2]; rw [e1] at z; exact z
        · exact h.elim
      · exact h.elim
    · exact h.elim
  · rename_i r
    split at h
    · rename_i kvs hr
      split at h
      · rename_i c
        split at h
        · rename_i hk
          obtain ⟨p, xs, rfl, h1, h2, h3, h4⟩ := dic_cell S hy hr
          have hc : RD L.K H c x := hx
          obtain ⟨q, rfl⟩ := key_ref hk hc
          cases ry
          cases rx
          obtain ⟨d1, d2⟩ := dict_of g.K g.P g.w I h2 h4
          rw [← g.K] at hc
          have z := bl_of S h
          refine notIn_keyed (kvs := pairsH xs) (room_key g) (key_is I hk hc) d1 ⟨xs, d2, rfl⟩ ⟨.bl _, H, I.tok _, rfl, ?_⟩
          rw [valueAt_pairsH, Option.isSome_map]
          rcases KVs.get hk h4 with ⟨e1, e2⟩ | ⟨v, p2, u2, e1, e2, _⟩
          · rw [e2]; rw [e1] at z; exact z
          · rw [e2]; rw [e1] at z; exact z
        · exact h.elim
      · exact h.elim
    · rename_i xs hr
      split at h
      · rename_i c
        refine cmp_data (E := E) (u := .d c) (v := .ref r) g .notin I S hx hy rx ry ?_
        show RQ L H μ E (match some c, rawV st (.ref r) with
          | some x, some y => ofB (copD .notin x y) st
          | _, _ => .no) (QV (L := L) Q)
        have e : rawV st (.ref r) = some (.lst xs) := by
          show (match st[r]? with
            | some (.lst xs) => some (D.lst xs)
            | some (.fz xs) => some (D.lst xs)
            | _ => none) = _
          rw [hr]
        rw [e]
        exact h
      · exact h.elim
    · rename_i xs hr
      split at h
      · rename_i c
        refine cmp_data (E := E) (u := .d c) (v := .ref r) g .notin I S hx hy rx ry ?_
        show RQ L H μ E (match some c, rawV st (.ref r) with
          | some x, some y => ofB (copD .notin x y) st
          | _, _ => .no) (QV (L := L) Q)
        have e : rawV st (.ref r) = some (.lst xs) := by
          show (match st[r]? with
            | some (.lst xs) => some (D.lst xs)
            | some (.fz xs) => some (D.lst xs)
            | _ => none) = _
          rw [hr]
        rw [e]
        exact h
      · exact h.elim
    · rename_i kvs hr
      split at h
      · rename_i c
        split at h
        · rename_i hk
          obtain ⟨p, o', xs, rfl, h2, h3, h4⟩ := fdic_cell S hy hr
          have hc : RD L.K H c x := hx
          obtain ⟨q, rfl⟩ := key_ref hk hc
          cases ry
          cases rx
          obtain ⟨d1, d2⟩ := dict_ofF g.K g.P g.w I h2 h4
          rw [← g.K] at hc
          have z := bl_of S h
          refine notIn_keyed (kvs := pairsH xs) (room_key g) (key_is I hk hc) d1 ⟨xs, d2, rfl⟩ ⟨.bl _, H, I.tok _, rfl, ?_⟩
          rw [valueAt_pairsH, Option.isSome_map]
          rcases KVs.get hk h4 with ⟨e1, e2⟩ | ⟨v, p2, u2, e1, e2, _⟩
          · rw [e2]; rw [e1] at z; exact z
          · rw [e2]; rw [e1] at z; exact z
        · exact h.elim
      · exact h.elim
    · exact h.elim
  · exact cmp_data g o I S hx hy rx ry h

/-! ### items -/
theorem ixN_same (n : Nat) (i : Int) : Ev.ixN n i = L2.ixN n i := rfl
theorem atI_of {xs : List D} {vs : List V} {K : PySem.W.Frag} {i : Int} {j : Nat} {z : D} (r : RDs K H xs vs) (h1 : Ev.ixN xs.length i = some j) (h2 : xs[j]? = some z) : ∃ v, atI vs i = some v ∧ RD K H z v := by
  obtain ⟨v, e, rv⟩ := r.get h2
  refine ⟨v, ?_, rv⟩
  unfold atI
  rw [r.len, ← ixN_same, h1]
  exact e
theorem RD.str1 {K : PySem.W.Frag} {c : Nat} {s : List Nat} (hc : c ∈ s) (h : ∀ c ∈ s, c < 128) : RD K H (.str [c]) (.str ⟨#[c]⟩) := ⟨rfl, by show 1 ≤ 16777216; decide, fun d hd => by
  have e : d = c := by simpa using hd
  rw [e]
  exact h c hc⟩
/-- an item by values -/
def rIxV (L : Lw) (E : XK) : R2 := fun x y H Q => ∃ (u v : Vl) (μ : Mu) (st : Sto), Sim L H μ st ∧ RV L H μ u x ∧ RV L H μ v y ∧ RQ L H μ E (idxV u v st) (QV (L := L) Q)
theorem ix_data (g : Gd L k X) {value slice : Expr} {a d : D} {x y : V} {u v : Value} (I : L2.Inv X pins σ H s) (S : Sim L H μ st) (ha : RW L.K H a x) (hd : RD L.K H d y) (rx : RelV x u) (ry : RelV y v)
    (hs : subscripted slice false u v = operate [u, v] (getItem u v)) (h : RQ L H μ E (ofO (idxD a d) st) (QV (L := L) Q)) : wpAny (model X.prog X.w) X.A (subscriptTail value slice u v) (EP X pins σ Q) X.xe s := by
  cases e : idxD a d with
  | none => rw [e] at h; exact h.elim
  | some z =>
    rw [e] at h
    have q := gd_of S h
    rw [← g.K] at ha hd q
    unfold idxD at e
    split at e
    · split at e
      · rename_i j hj
        obtain ⟨p, vs, rfl, h1, h2, h3⟩ := ha.tup
        obtain rfl : y = .int _ := hd
        obtain ⟨w, h4, h5⟩ := atI_of h3 hj e
        exact ix_tup value slice pins s σ H _ _ u v Q I rx ry ⟨p, vs, _, w, rfl, rfl, h1, h4, q.val h5⟩ hs
      · cases e
    · split at e
      · rename_i j hj
        obtain ⟨p, vs, rfl, h1, h2, h3⟩ := ha.lst
        obtain rfl : y = .int _ := hd
        obtain ⟨w, h4, h5⟩ := atI_of h3 hj e
        exact ix_list value slice pins s σ H _ _ u v Q I rx ry ⟨p, vs, _, w, rfl, rfl, h1, h4, q.val h5⟩ hs
      · cases e
    · rename_i t i
      split at e
      · rename_i j hj
        split at e
        · rename_i c hc
          cases e
          obtain ⟨rfl, h1, h2⟩ := ha.str
          obtain rfl : y = .int _ := hd
          refine ix_str value slice pins s σ H _ _ u v Q I rx ry ⟨_, _, c, rfl, rfl, by rw [str_len, ← line_eq]; exact h1, ?_, q.val (RD.str1 (List.mem_of_getElem? hc) h2)⟩ hs
          show (L2.ixN t.toArray.toList.length i).bind _ = _
          rw [show t.toArray.toList = t from rfl, ← ixN_same, hj]
          exact hc
        · cases e
      · cases e
    · cases e
theorem ix_ok (g : Gd L k X) : IxR X (rIxV L E) := by
  intro value slice pins s σ H x y v u Q I rx ry h hs
  obtain ⟨a, b, μ, st, S, hx, hy, h⟩ := h
  unfold idxV at h
  split at h
  · rename_i r
    split at h
    · rename_i kvs hr
      split at h
      · rename_i c
        split at h
        · rename_i hk
          obtain ⟨p, xs, rfl, h1, h2, h3, h4⟩ := dic_cell S hx hr
          have hc : RD L.K H c y := hy
          obtain ⟨q, rfl⟩ := key_ref hk hc
          cases ry
          cases rx
          obtain ⟨d1, d2⟩ := dict_of g.K g.P g.w I h2 h4
          rw [← g.K] at hc
          rcases KVs.get hk h4 with ⟨e1, e2⟩ | ⟨v, p2, u2, e1, e2, e3, e4⟩
          · rw [e1] at h; exact h.elim
          · rw [e1] at h
            exact tail_any d2.typeIs PySem.F.slot_dict_getitem.lookup (wpAny_getItem_heap (room_key g) (key_is I hk hc) d2 e2 ⟨u2, H, I.tok _, e3, (gd_of S h).val e4⟩) hs
        · exact h.elim
      · exact h.elim
    · rename_i xs hr
      split at h
      · rename_i d
        obtain ⟨p, vs, rfl, h1, h2, h3, h4⟩ := lst_cell S hx hr
        exact ix_data g I S (.inr ⟨xs, p, vs, rfl, rfl, SqL.of h2, h3, h4⟩) hy rx ry hs h
      · exact h.elim
    · rename_i xs hr
      split at h
      · rename_i d
        exact ix_data g I S (.inl (fz_cell S hx hr)) hy rx ry hs h
      · exact h.elim
    · rename_i kvs hr
      split at h
      · rename_i c
        split at h
        · rename_i hk
          obtain ⟨p, o', xs, rfl, h2, h3, h4⟩ := fdic_cell S hx hr
          have hc : RD L.K H c y := hy
          obtain ⟨q, rfl⟩ := key_ref hk hc
          cases ry
          cases rx
          obtain ⟨d1, d2⟩ := dict_ofF g.K g.P g.w I h2 h4
          rw [← g.K] at hc
          rcases KVs.get hk h4 with ⟨e1, e2⟩ | ⟨v, p2, u2, e1, e2, e3, e4⟩
          · rw [e1] at h; exact h.elim
          · rw [e1] at h
            exact tail_any d2.typeIs PySem.F.slot_dict_getitem.lookup (wpAny_getItem_heap (room_key g) (key_is I hk hc) d2 e2 ⟨u2, H, I.tok _, e3, (gd_of S h).val e4⟩) hs
        · exact h.elim
      · exact h.elim
    · exact h.elim
  · split at h
    · exact ix_data g I S (.inl hx) hy rx ry hs h
    · exact h.elim
  · rename_i kvs
    split at h
    · rename_i c
      split at h
      · rename_i i hi
        obtain ⟨p, o', rfl, hp⟩ := hx
        obtain ⟨rfl, _⟩ := hy
        cases rx
        have gt : DGet H p (.str ⟨c.toArray⟩) (some (.int i)) := .inl ⟨_, Sum.inr ⟨c.toArray⟩, .inr ⟨o', hp⟩, rfl, by rw [valV_getT, hi]; rfl⟩
        exact tail_any (dict_typeIs I gt) PySem.F.slot_dict_getitem.lookup (d_getItem g.u1 I gt ry fun w' s' I' rw' => ⟨.int i, H, I', rw', (gd_of (z := .int i) S h).val rfl⟩) hs
      · exact h.elim
    · exact h.elim
  · exact h.elim
end
end EvS

namespace EvS
open PySem PySem.Spec PyProof.Rows L2 Ev
theorem dicO_ok {P : Program} {w : World} {H : Hp} {h : Heap} {d : Addr} {xs : List (PySem.NestedKey × Addr × Value)} (hd : (d == sysModules) = false) (x : h.DictOfH (nestedKind P w) d xs) : ObjOk P w H h d (DicO P w d xs) := by
  obtain ⟨o, es, ep, h1, h2, h3, h4, _, h6⟩ := x
  refine ⟨⟨hd, o, es, ep, h1, h2, h3, h4, h6⟩, ⟨o, h1⟩, fun g1 g2 ⟨a, o', es', ep', b1, b2, b3, b4, b5⟩ st => ⟨a, o', es', ep', st _ b1, b2, b3, b4, b5⟩⟩
section
variable {L : Lw} {X : L2.Cx} {pins : List (Addr × Obj)} {σ : L2.St} {H : Hp} {μ : Mu} {s : Shared} {st : Sto} {E : XK} {k : Nat} {Q : VK}
/-- a store by values -/
def tSetV (L : Lw) : TSet := fun o i v H Q => ∃ (uo ui uv : Vl) (μ : Mu) (st st' : Sto), Sim L H μ st ∧ RV L H μ uo o ∧ RV L H μ ui i ∧ RV L H μ uv v ∧ setV uo ui uv st = some st' ∧ ∀ H' μ', Ext H μ H' μ' → Sim L H' μ' st' → Q H'
theorem set_ok (g : Gd L k X) : PSet X (tSetV L) := by
  intro pins s σ H o i v ov iv u Q I ro ri rv h
  obtain ⟨uo, ui, uv, μ, st, st', S, ho, hi, hv, e, q⟩ := h
  unfold setV at e
  split at e
  · rename_i r c x
    split at e
    · rename_i kvs hr
      split at e
      · rename_i hk
        rw [Bool.and_eq_true] at hk
        cases e
        obtain ⟨p, xs, rfl, h1, h2, h3, h4⟩ := dic_cell S ho hr
        have hc : RD L.K H c i := hi
        obtain ⟨ka, rfl⟩ := key_ref hk.1 hc
        cases ro
        cases ri
        obtain ⟨d1, d2⟩ := dict_of g.K g.P g.w I h2 h4
        have hc' := hc
        rw [← g.K] at hc'
        have hlen : xs.length ≤ sizeLine := by rw [h4.len, ← line_eq]; exact h3
        refine wpAny_setItem_heap (hsz := hlen) (room_key g) (key_is I hk.1 hc') d2 fun h' dd sb => ?_
        have nd : (xs.map (·.1)).Nodup := by
          obtain ⟨_, _, _, _, _, _, _, _, z⟩ := d2
          exact z
        obtain ⟨od, hod⟩ : ∃ u, h'.get? p = some u := by
          obtain ⟨o, _, _, z, _⟩ := dd
          exact ⟨o, z⟩
        have ok := dicO_ok (P := X.prog) (w := X.w) (H := upd H p (DicO L.P L.w p (storedH xs (toK c) ka u))) d1 dd
        rw [g.P, g.w] at ok
        have I' := I.write (t' := s.toks + (nestedKind X.prog X.w).draws (toK c)) (x := p) (e := p) (o := DicO L.P L.w p (storedH xs (toK c) ka u)) (by rw [h2]; trivial) (.inl rfl) (fun b w hb z => (sb.2 b hb).trans z) ⟨od, hod⟩ (by rw [g.P, g.w]; exact ok)
        refine ⟨_, I', q _ μ (Ext.put S h1 h2 trivial) (Sim.put S h1 h2 trivial trivial ?_)⟩
        have ex : Ext H μ (upd H p (DicO L.P L.w p (storedH xs (toK c) ka u))) μ := Ext.put S h1 h2 trivial
        refine ⟨p, storedH xs (toK c) ka u, h1, upd_same, ?_, ?_⟩
        · have := putD_len c x kvs
          have h5 : kvs.length < 1000000 := of_decide_eq_true hk.2
          show _ ≤ 16777216
          omega
        · refine KVs.ext ex ?_
          unfold storedH
          cases hs : (atKey xs (toK c)).isSome with
          | true =>
            rw [if_pos rfl]
            exact KVs.putYes hk.1 rv hv h4 nd hs
          | false =>
            rw [if_neg Bool.false_ne_true]
            exact KVs.putNo hk.1 hc rv hv h4 (by simpa using hs)
      · cases e
    · rename_i xs hr
      split at e
      · rename_i n
        split at e
        · rename_i j hj
          cases e
          obtain ⟨p, vs, rfl, h1, h2, h3, h4⟩ := lst_cell S ho hr
          obtain rfl : i = .int n := hi
          refine set_list pins s σ H _ _ v ov iv u Q I ro ri rv ⟨p, vs, n, j, rfl, rfl, h2, by rw [h4.len, ← ixN_same]; exact hj, ?_⟩
          refine q _ μ (Ext.put S h1 h2 trivial) (Sim.put S h1 h2 trivial trivial ⟨p, _, h1, upd_same, by rw [List.length_set]; exact h3, ?_⟩)
          have ex : Ext H μ (upd H p (.lst (vs.set j v))) μ := Ext.put S h1 h2 trivial
          exact (h4.set j hv).ext ex
        · cases e
      · cases e
    · cases e
  · cases e

/-! ### methods by values -/
/-- the method m of a list -/
def rMtV (L : Lw) (E : XK) (m : Mf) : V → List V → Hp → VK → Prop := fun x xs H Q => ∃ (u : Vl) (vs : List Vl) (μ : Mu) (st : Sto), Sim L H μ st ∧ RV L H μ u x ∧ RVs L H μ vs xs ∧ RQ L H μ E (mthD m u vs st) (QV (L := L) Q)
theorem append_ok (g : Gd L k X) : MtR X "list.append" (rMtV L E .append) := by
  intro pins s σ H x xs v us Q I rx rs h
  obtain ⟨u, vs, μ, st, S, hu, hv, h⟩ := h
  have h : RQ L H μ E (mAppend u vs st) (QV (L := L) Q) := h
  unfold mAppend at h
  split at h
  · rename_i r d
    split at h
    · rename_i ys hr
      split at h
      · rename_i hl
        obtain ⟨p, zs, rfl, h1, h2, h3, h4⟩ := lst_cell S hu hr
        obtain ⟨w, rr, rfl, hw, e⟩ := hv
        obtain rfl : rr = [] := e
        refine mt_append pins s σ H _ _ v us Q I rx rs ⟨p, zs, w, rfl, rfl, h2, by rw [h4.len, ← line_eq]; exact hl, ?_⟩
        have ex : Ext H μ (upd H p (.lst (zs ++ [w]))) μ := Ext.put S h1 h2 trivial
        refine h _ μ ex (Sim.put S h1 h2 trivial trivial ⟨p, _, h1, upd_same, ?_, RDs.ext ex (RDs.app h4 (RDs.one hw))⟩) _ rfl
        rw [List.length_append]
        exact hl
      · exact h.elim
    · exact h.elim
  · exact h.elim
theorem RDs.dropLast {K : PySem.W.Frag} : ∀ {xs : List D} {vs : List V}, RDs K H xs vs → RDs K H xs.dropLast vs.dropLast
  | [], vs, h => by
    have e : vs = [] := h
    subst e
    exact RDs.nil
  | [x], vs, ⟨v, r, e, h1, h2⟩ => by
    obtain rfl : r = [] := h2
    subst e
    exact RDs.nil
  | x :: y :: xs, vs, ⟨v, r, e, h1, h2⟩ => by
    obtain ⟨w, r', e', h3, h4⟩ := id h2
    subst e'
    subst e
    exact ⟨v, _, rfl, h1, RDs.dropLast (xs := y :: xs) h2⟩
theorem pop_ok (g : Gd L k X) : MtR X "list.pop" (rMtV L E .pop) := by
  intro pins s σ H x xs v us Q I rx rs h
  obtain ⟨u, vs, μ, st, S, hu, hv, h⟩ := h
  have h : RQ L H μ E (mPop u vs st) (QV (L := L) Q) := h
  unfold mPop at h
  split at h
  · rename_i r
    split at h
    · rename_i ys hr
      split at h
      · rename_i d hd
        obtain ⟨p, zs, rfl, h1, h2, h3, h4⟩ := lst_cell S hu hr
        obtain rfl : xs = [] := hv
        obtain ⟨w, e1, hw⟩ := h4.get hd
        have ex : Ext H μ (upd H p (.lst zs.dropLast)) μ := Ext.put S h1 h2 trivial
        refine mt_pop pins s σ H _ _ v us Q I rx rs ⟨p, zs, w, rfl, rfl, h2, by rw [h4.len]; exact e1, ?_⟩
        refine h _ μ ex (Sim.put S h1 h2 trivial trivial ⟨p, _, h1, upd_same, ?_, RDs.ext ex (RDs.dropLast h4)⟩) _ (RD.ext ex hw)
        have := List.length_dropLast (xs := ys)
        omega
      · exact h.elim
    · exact h.elim
  · exact h.elim
theorem get2_ok (g : Gd L k X) : MtR X "dict.get" (rMtV L E .get2) := by
  intro pins s σ H x xs v us Q I rx rs h
  obtain ⟨u, vs, μ, st, S, hu, hv, h⟩ := h
  have h : RQ L H μ E (mGet2 u vs st) (QV (L := L) Q) := h
  unfold mGet2 at h
  split at h
  · rename_i r c z _
    split at h
    · rename_i kvs hr
      split at h
      · rename_i hk
        obtain ⟨p, ys, rfl, h1, h2, h3, h4⟩ := dic_cell S hu hr
        obtain ⟨w, rr, rfl, hc, z1, rr2, e, hz, e2⟩ := hv
        obtain rfl : rr2 = [] := e2
        subst e
        have hc : RD L.K H c w := hc
        obtain ⟨ka, rfl⟩ := key_ref hk hc
        cases rx
        cases rs with
        | cons r1 rs =>
          cases rs with
          | cons r2 rs =>
            cases rs
            cases r1
            obtain ⟨d1, d2⟩ := dict_of g.K g.P g.w I h2 h4
            rw [← g.K] at hc
            refine getOr_keyed (kvs := pairsH ys) (room_key g) (key_is I hk hc) d1 ⟨ys, d2, rfl⟩ ?_
            rw [valueAt_pairsH]
            rcases KVs.get hk h4 with ⟨e1, e2⟩ | ⟨v', p2, u2, e1, e2, e3, e4⟩
            · rw [e1] at h
              rw [e2]
              exact ⟨z1, H, I.tok _, r2, (gd_of S h).val hz⟩
            · rw [e1] at h
              rw [e2]
              exact ⟨u2, H, I.tok _, e3, (gd_of S h).val e4⟩
      · exact h.elim
    · exact h.elim
  · exact h.elim
end
end EvS

namespace EvS
open PySem PySem.Spec PyProof.Rows L2 Ev
/-! ### built-in functions -/
def tyN : D → String
  | .non => "NoneType" | .bl _ => "bool" | .int _ => "int" | .str _ => "str" | .tup _ => "tuple" | .lst _ => "list"
def tyS : Ty → String
  | .int => "int" | .bool => "bool" | .str => "str" | .tuple => "tuple" | .list => "list"
theorem kit_NoneType_int : kitB "NoneType" "int" = some false := by decide +kernel
theorem kit_bool_int : kitB "bool" "int" = some true := by decide +kernel
theorem kit_int_int : kitB "int" "int" = some true := by decide +kernel
theorem kit_str_int : kitB "str" "int" = some false := by decide +kernel
theorem kit_tuple_int : kitB "tuple" "int" = some false := by decide +kernel
theorem kit_list_int : kitB "list" "int" = some false := by decide +kernel
theorem kit_NoneType_bool : kitB "NoneType" "bool" = some false := by decide +kernel
theorem kit_bool_bool : kitB "bool" "bool" = some true := by decide +kernel
theorem kit_int_bool : kitB "int" "bool" = some false := by decide +kernel
theorem kit_str_bool : kitB "str" "bool" = some false := by decide +kernel
theorem kit_tuple_bool : kitB "tuple" "bool" = some false := by decide +kernel
theorem kit_list_bool : kitB "list" "bool" = some false := by decide +kernel
theorem kit_NoneType_str : kitB "NoneType" "str" = some false := by decide +kernel
theorem kit_bool_str : kitB "bool" "str" = some false := by decide +kernel
theorem kit_int_str : kitB "int" "str" = some false := by decide +kernel
theorem kit_str_str : kitB "str" "str" = some true := by decide +kernel
theorem kit_tuple_str : kitB "tuple" "str" = some false := by decide +kernel
theorem kit_list_str : kitB "list" "str" = some false := by decide +kernel
theorem kit_NoneType_tuple : kitB "NoneType" "tuple" = some false := by decide +kernel
theorem kit_bool_tuple : kitB "bool" "tuple" = some false := by decide +kernel
theorem kit_int_tuple : kitB "int" "tuple" = some false := by decide +kernel
theorem kit_str_tuple : kitB "str" "tuple" = some false := by decide +kernel
theorem kit_tuple_tuple : kitB "tuple" "tuple" = some true := by decide +kernel
theorem kit_list_tuple : kitB "list" "tuple" = some false := by decide +kernel
theorem kit_NoneType_list : kitB "NoneType" "list" = some false := by decide +kernel
theorem kit_bool_list : kitB "bool" "list" = some false := by decide +kernel
theorem kit_int_list : kitB "int" "list" = some false := by decide +kernel
theorem kit_str_list : kitB "str" "list" = some false := by decide +kernel
theorem kit_tuple_list : kitB "tuple" "list" = some false := by decide +kernel
theorem kit_list_list : kitB "list" "list" = some true := by decide +kernel
theorem kit_isi : ∀ (t : Ty) (x : D), kitB (tyN x) (tyS t) = some (isiD t x)
  | .int, .non => kit_NoneType_int
  | .int, .bl _ => kit_bool_int
  | .int, .int _ => kit_int_int
  | .int, .str _ => kit_str_int
  | .int, .tup _ => kit_tuple_int
  | .int, .lst _ => kit_list_int
  | .bool, .non => kit_NoneType_bool
  | .bool, .bl _ => kit_bool_bool
  | .bool, .int _ => kit_int_bool
  | .bool, .str _ => kit_str_bool
  | .bool, .tup _ => kit_tuple_bool
  | .bool, .lst _ => kit_list_bool
  | .str, .non => kit_NoneType_str
  | .str, .bl _ => kit_bool_str
  | .str, .int _ => kit_int_str
  | .str, .str _ => kit_str_str
  | .str, .tup _ => kit_tuple_str
  | .str, .lst _ => kit_list_str
  | .tuple, .non => kit_NoneType_tuple
  | .tuple, .bl _ => kit_bool_tuple
  | .tuple, .int _ => kit_int_tuple
  | .tuple, .str _ => kit_str_tuple
  | .tuple, .tup _ => kit_tuple_tuple
  | .tuple, .lst _ => kit_list_tuple
  | .list, .non => kit_NoneType_list
  | .list, .bl _ => kit_bool_list
  | .list, .int _ => kit_int_list
  | .list, .str _ => kit_str_list
  | .list, .tup _ => kit_tuple_list
  | .list, .lst _ => kit_list_list
theorem RW.ty {K : PySem.W.Frag} {H : Hp} {x : D} {v : V} (h : RW K H x v) : TyX K H v (.type (tyN x)) := by
  cases x with
  | non =>
    rcases h with h | ⟨_, _, _, e, _⟩
    · obtain rfl : v = .non := h
      exact .base .non
    · cases e
  | bl b => rw [h.bl]; exact .base (.bl b)
  | int i => rw [h.int]; exact .base (.int i)
  | str s => rw [h.str.1]; exact .base (.str _)
  | tup xs =>
    obtain ⟨a, vs, rfl, h1, _, _⟩ := h.tup
    rcases h1 with (h1 | ⟨o, h1⟩) | ⟨o, its, n, h1, h2, _⟩
    · exact .base (.tup h1)
    · exact .fTuple h1
    · exact .kTuple h1 h2
  | lst xs =>
    obtain ⟨a, vs, rfl, h1, _, _⟩ := h.lst
    rcases h1 with (h1 | ⟨o, h1⟩) | ⟨o, its, n, h1, h2, _⟩
    · exact .base (.lst h1)
    · exact .base (.frz h1)
    · exact .kList h1 h2
theorem boolsD_vs {K : PySem.W.Frag} {H : Hp} : ∀ {xs : List D} {vs : List V} {bs : List Bool}, RDs K H xs vs → boolsD xs = some bs → vs = bs.map V.bl
  | [], vs, bs, r, e => by
    obtain rfl : vs = [] := r
    cases e
    rfl
  | .bl b :: xs, vs, bs, ⟨v, vr, e1, h1, h2⟩, e => by
    subst e1
    unfold boolsD at e
    split at e
    · rename_i cs hcs
      cases e
      obtain rfl : v = .bl b := h1
      rw [boolsD_vs h2 hcs]
      rfl
    · cases e
  | .non :: _, _, _, _, e => by cases e
  | .int _ :: _, _, _, _, e => by cases e
  | .str _ :: _, _, _, _, e => by cases e
  | .tup _ :: _, _, _, _, e => by cases e
  | .lst _ :: _, _, _, _, e => by cases e
theorem intsD_vs {K : PySem.W.Frag} {H : Hp} : ∀ {xs : List D} {vs : List V} {bs : List Int}, RDs K H xs vs → intsD xs = some bs → vs = bs.map V.int
  | [], vs, bs, r, e => by
    obtain rfl : vs = [] := r
    cases e
    rfl
  | .int b :: xs, vs, bs, ⟨v, vr, e1, h1, h2⟩, e => by
    subst e1
    unfold intsD at e
    split at e
    · rename_i cs hcs
      cases e
      obtain rfl : v = .int b := h1
      rw [intsD_vs h2 hcs]
      rfl
    · cases e
  | .non :: _, _, _, _, e => by cases e
  | .bl _ :: _, _, _, _, e => by cases e
  | .str _ :: _, _, _, _, e => by cases e
  | .tup _ :: _, _, _, _, e => by cases e
  | .lst _ :: _, _, _, _, e => by cases e
theorem foldl_min : ∀ (xs : List Int) (x : Int), (xs.foldl (fun a b => if b < a then b else a) x) ∈ x :: xs ∧ ∀ y ∈ x :: xs, xs.foldl (fun a b => if b < a then b else a) x ≤ y
  | [], x => ⟨by simp, fun y hy => by simp at hy; subst hy; exact Int.le_refl _⟩
  | z :: xs, x => by
    obtain ⟨h1, h2⟩ := foldl_min xs (if z < x then z else x)
    rw [List.foldl_cons]
    have hm : (if z < x then z else x) = z ∨ (if z < x then z else x) = x := by split <;> simp
    have hl : (if z < x then z else x) ≤ z ∧ (if z < x then z else x) ≤ x := by split <;> omega
    refine ⟨?_, fun y hy => ?_⟩
    · rcases List.mem_cons.mp h1 with e | e
      · rw [e]
        rcases hm with q | q <;> rw [q] <;> simp
      · simp [e]
    · have h3 := h2 _ List.mem_cons_self
      rcases List.mem_cons.mp hy with e | e
      · subst e; omega
      · rcases List.mem_cons.mp e with e | e
        · subst e; omega
        · exact h2 y (List.mem_cons_of_mem _ e)
section
variable {L : Lw} {X : L2.Cx} {pins : List (Addr × Obj)} {σ : L2.St} {H : Hp} {μ : Mu} {s : Shared} {st : Sto} {E : XK} {k : Nat} {Q : VK}
theorem rawVs_rw (S : Sim L H μ st) : ∀ {us : List Vl} {vs : List V} {xs : List D}, RVs L H μ us vs → rawVs st us = some xs → xs.length = us.length ∧ ∀ (i : Nat) (x : D), xs[i]? = some x → ∃ v, vs[i]? = some v ∧ RW L.K H x v
  | [], vs, xs, _, e => by cases e; exact ⟨rfl, fun i x h => by simp at h⟩
  | u :: us, vs, xs, ⟨v, r, e1, h1, h2⟩, e => by
    subst e1
    unfold rawVs at e
    split at e
    · cases e
    · rename_i x hx
      split at e
      · cases e
      · rename_i ys hys
        cases e
        obtain ⟨g1, g2⟩ := rawVs_rw S h2 hys
        refine ⟨by simp [g1], fun i z hz => ?_⟩
        cases i with
        | zero =>
          simp at hz
          subst hz
          exact ⟨v, rfl, rawV_rw S h1 hx⟩
        | succ i => exact g2 i z (by simpa using hz)
theorem RVs.len : ∀ {us : List Vl} {vs : List V}, RVs L H μ us vs → vs.length = us.length
  | [], vs, h => by
    obtain rfl : vs = [] := h
    rfl
  | _ :: _, _, ⟨v, r, e, _, h⟩ => by rw [e, List.length_cons, RVs.len h]; rfl
theorem raw1 (S : Sim L H μ st) {us : List Vl} {vs : List V} {x : D} (h : RVs L H μ us vs) (e : rawVs st us = some [x]) : ∃ v, vs = [v] ∧ RW L.K H x v := by
  obtain ⟨h1, h2⟩ := rawVs_rw S h e
  obtain ⟨v, e1, r⟩ := h2 0 x rfl
  have hl := h.len
  rw [← h1] at hl
  match vs, hl with
  | [w], _ =>
    simp at e1
    subst e1
    exact ⟨w, rfl, r⟩
theorem raw2 (S : Sim L H μ st) {us : List Vl} {vs : List V} {x y : D} (h : RVs L H μ us vs) (e : rawVs st us = some [x, y]) : ∃ v w, vs = [v, w] ∧ RW L.K H x v ∧ RW L.K H y w := by
  obtain ⟨h1, h2⟩ := rawVs_rw S h e
  obtain ⟨v, e1, r⟩ := h2 0 x rfl
  obtain ⟨w, e2, r'⟩ := h2 1 y rfl
  have hl := h.len
  rw [← h1] at hl
  match vs, hl with
  | [a, b], _ =>
    simp at e1 e2
    subst e1 e2
    exact ⟨a, b, rfl, r, r'⟩
/-- the built-in b by values -/
def rBltV (L : Lw) (E : XK) (b : Bf) : List V → Hp → VK → Prop := fun vs H Q => ∃ (us : List Vl) (μ : Mu) (st : Sto), Sim L H μ st ∧ RVs L H μ us vs ∧ RQ L H μ E (onD (rawVs st us) fun xs => ofO (bltD b xs) st) (QV (L := L) Q)
/-- .. of one argument, of two -/
theorem blt_cases {b : Bf} {vs : List V} (h : rBltV L E b vs H Q) : (∃ x v z, vs = [v] ∧ RW L.K H x v ∧ blt1 b x = some z ∧ GD L.K H z Q) ∨
    ∃ x y v w z, vs = [v, w] ∧ RW L.K H x v ∧ RW L.K H y w ∧ blt2 b x y = some z ∧ GD L.K H z Q := by
  obtain ⟨us, μ, st, S, hv, h⟩ := h
  cases e : rawVs st us with
  | none => rw [e] at h; exact h.elim
  | some xs =>
    rw [e] at h
    have h : RQ L H μ E (ofO (bltD b xs) st) (QV (L := L) Q) := h
    match xs, e, h with
    | [x], e, h =>
      have h : RQ L H μ E (ofO (blt1 b x) st) (QV (L := L) Q) := h
      cases e2 : blt1 b x with
      | none => rw [e2] at h; exact h.elim
      | some z =>
        rw [e2] at h
        obtain ⟨v, rfl, r⟩ := raw1 S hv e
        exact .inl ⟨x, v, z, rfl, r, e2, gd_of S h⟩
    | [x, y], e, h =>
      have h : RQ L H μ E (ofO (blt2 b x y) st) (QV (L := L) Q) := h
      cases e2 : blt2 b x y with
      | none => rw [e2] at h; exact h.elim
      | some z =>
        rw [e2] at h
        obtain ⟨v, w, rfl, r, r'⟩ := raw2 S hv e
        exact .inr ⟨x, y, v, w, z, rfl, r, r', e2, gd_of S h⟩
    | [], _, h => exact h.elim
    | _ :: _ :: _ :: _, _, h => exact h.elim
theorem len_ok (g : Gd L k X) : CallR X (.builtin "len") (rBltV L E .len) := by
  intro pins s σ H vs us Q I rv h
  rcases blt_cases h with ⟨x, v, z, rfl, r, e, q⟩ | ⟨x, y, v, w, z, rfl, _, _, e, _⟩
  · have e : bLen x = some z := e
    unfold bLen at e
    split at e
    · cases e
      obtain ⟨a, ws, rfl, h1, h2, h3⟩ := r.tup
      rw [← g.K] at h1
      refine call_len_seq pins s σ H _ us Q I rv ⟨a, ws, rfl, .inr h1, ?_⟩
      rw [h3.len]
      exact q.val rfl
    · cases e
      obtain ⟨a, ws, rfl, h1, h2, h3⟩ := r.lst
      rw [← g.K] at h1
      refine call_len_seq pins s σ H _ us Q I rv ⟨a, ws, rfl, .inl h1, ?_⟩
      rw [h3.len]
      exact q.val rfl
    · cases e
      obtain ⟨rfl, h1, h2⟩ := r.str
      refine call_len_str pins s σ H _ us Q I rv ⟨_, rfl, by rw [str_len, ← line_eq]; exact h1, ?_⟩
      rw [str_len]
      exact q.val rfl
    · cases e
  · cases e
theorem all_ok (g : Gd L k X) : CallR X (.builtin "all") (rBltV L E .all) := by
  intro pins s σ H vs us Q I rv h
  rcases blt_cases h with ⟨x, v, z, rfl, r, e, q⟩ | ⟨x, y, v, w, z, rfl, _, _, e, _⟩
  · have e : bAll x = some z := e
    unfold bAll at e
    split at e
    · split at e
      · rename_i bs hb
        cases e
        obtain ⟨a, ws, rfl, h1, h2, h3⟩ := r.lst
        rw [← g.K] at h1
        rw [boolsD_vs h3 hb] at h1
        exact cr_all g.calm pins s σ H _ us Q I rv ⟨a, bs, rfl, h1, q.val rfl⟩
      · cases e
    · cases e
  · cases e
theorem any_ok (g : Gd L k X) : CallR X (.builtin "any") (rBltV L E .any) := by
  intro pins s σ H vs us Q I rv h
  rcases blt_cases h with ⟨x, v, z, rfl, r, e, q⟩ | ⟨x, y, v, w, z, rfl, _, _, e, _⟩
  · have e : bAny x = some z := e
    unfold bAny at e
    split at e
    · split at e
      · rename_i bs hb
        cases e
        obtain ⟨a, ws, rfl, h1, h2, h3⟩ := r.lst
        rw [← g.K] at h1
        rw [boolsD_vs h3 hb] at h1
        exact cr_any g.calm pins s σ H _ us Q I rv ⟨a, bs, rfl, h1, q.val rfl⟩
      · cases e
    · cases e
  · cases e
theorem tuple_ok (g : Gd L k X) : CallR X (.type "tuple") (rBltV L E .tuple) := by
  intro pins s σ H vs us Q I rv h
  rcases blt_cases h with ⟨x, v, z, rfl, r, e, q⟩ | ⟨x, y, v, w, z, rfl, _, _, e, _⟩
  · have e : bTuple x = some z := e
    unfold bTuple at e
    split at e
    · cases e
      obtain ⟨a, ws, rfl, h1, h2, h3⟩ := r.lst
      rw [← g.K] at h1
      exact call_tuple_of pins s σ H _ us Q I rv ⟨a, ws, rfl, .inl ⟨h1, fun p hp => q.tup h2 h3 hp⟩⟩
    · cases e
      obtain ⟨a, ws, rfl, h1, h2, h3⟩ := r.tup
      have h1' := h1
      rw [← g.K] at h1'
      exact call_tuple_of pins s σ H _ us Q I rv ⟨a, ws, rfl, .inr ⟨h1', q.val ⟨a, ws, rfl, h1, h2, h3⟩⟩⟩
    · cases e
  · cases e
theorem list_ok (g : Gd L k X) : CallR X (.type "list") (rBltV L E .list) := by
  intro pins s σ H vs us Q I rv h
  rcases blt_cases h with ⟨x, v, z, rfl, r, e, q⟩ | ⟨x, y, v, w, z, rfl, _, _, e, _⟩
  · have e : bList x = some z := e
    unfold bList at e
    split at e
    · cases e
      obtain ⟨a, ws, rfl, h1, h2, h3⟩ := r.lst
      rw [← g.K] at h1
      exact EP_lkw (call_list_of pins s σ H _ us (QL Q) I rv ⟨a, ws, rfl, .inl h1, fun p hp => q.lst h2 h3 hp⟩)
    · cases e
      obtain ⟨a, ws, rfl, h1, h2, h3⟩ := r.tup
      rw [← g.K] at h1
      exact EP_lkw (call_list_of pins s σ H _ us (QL Q) I rv ⟨a, ws, rfl, .inr h1, fun p hp => q.lst h2 h3 hp⟩)
    · cases e
  · cases e
theorem int_ok (g : Gd L k X) : CallR X (.type "int") (rBltV L E .int) := by
  intro pins s σ H vs us Q I rv h
  rcases blt_cases h with ⟨x, v, z, rfl, r, e, q⟩ | ⟨x, y, v, w, z, rfl, _, _, e, _⟩
  · have e : bInt x = some z := e
    unfold bInt at e
    split at e
    · cases e
      rw [r.int] at rv
      exact call_int1 pins s σ H _ us Q I rv (.inl ⟨_, rfl, q.val rfl⟩)
    · cases e
      rw [r.bl] at rv
      exact call_int1 pins s σ H _ us Q I rv (.inr ⟨_, rfl, q.val rfl⟩)
    · cases e
  · cases e
theorem bool_ok (g : Gd L k X) : CallR X (.type "bool") (rBltV L E .bool) := by
  intro pins s σ H vs us Q I rv h
  rcases blt_cases h with ⟨x, v, z, rfl, r, e, q⟩ | ⟨x, y, v, w, z, rfl, _, _, e, _⟩
  · have e : bBool x = some z := e
    unfold bBool at e
    split at e
    · cases e
      rw [r.bl] at rv
      exact call_bool1 pins s σ H _ us Q I rv (.inr ⟨_, rfl, q.val rfl⟩)
    · cases e
  · cases e
theorem abs_ok (g : Gd L k X) : CallR X (.builtin "abs") (rBltV L E .abs) := by
  intro pins s σ H vs us Q I rv h
  rcases blt_cases h with ⟨x, v, z, rfl, r, e, q⟩ | ⟨x, y, v, w, z, rfl, _, _, e, _⟩
  · have e : bAbs x = some z := e
    unfold bAbs at e
    split at e
    · cases e
      rw [r.int] at rv
      exact call_abs pins s σ H _ us Q I rv ⟨_, rfl, q.val rfl⟩
    · cases e
  · cases e
theorem min_ok (g : Gd L k X) : CallR X (.builtin "min") (rBltV L E .min) := by
  intro pins s σ H vs us Q I rv h
  rcases blt_cases h with ⟨x, v, z, rfl, r, e, q⟩ | ⟨x, y, v, w, z, rfl, r, r', e, q⟩
  · have e : bMin x = some z := e
    unfold bMin at e
    split at e
    · split at e
      · rename_i is hi
        split at e
        · rename_i m hm
          cases e
          obtain ⟨a, ws, rfl, h1, h2, h3⟩ := r.lst
          rw [← g.K] at h1
          rw [intsD_vs h3 hi] at h1
          cases is with
          | nil => cases hm
          | cons i is =>
            cases hm
            obtain ⟨f1, f2⟩ := foldl_min is i
            refine cr_min g.calm pins s σ H _ us Q I rv ⟨a, i :: is, rfl, h1, Nat.succ_pos _, fun m' hm1 hm2 => ?_⟩
            have e1 := hm2 _ f1
            have e2 := f2 m' hm1
            have e3 : m' = is.foldl (fun a b => if b < a then b else a) i := by omega
            rw [e3]
            exact q.val rfl
        · cases e
      · cases e
    · cases e
  · have e : bMin2 x y = some z := e
    unfold bMin2 at e
    split at e
    · cases e
      rw [r.int, r'.int] at rv
      exact call_min2 g.calm pins s σ H _ us Q I rv ⟨_, _, rfl, q.val rfl⟩
    · cases e
theorem max_ok (g : Gd L k X) : CallR X (.builtin "max") (rBltV L E .max) := by
  intro pins s σ H vs us Q I rv h
  rcases blt_cases h with ⟨x, v, z, rfl, r, e, q⟩ | ⟨x, y, v, w, z, rfl, r, r', e, q⟩
  · cases e
  · have e : bMax2 x y = some z := e
    unfold bMax2 at e
    split at e
    · cases e
      rw [r.int, r'.int] at rv
      exact call_max2 g.calm pins s σ H _ us Q I rv ⟨_, _, rfl, q.val rfl⟩
    · cases e
/-- isinstance(x, T) -/
def rIsiV (L : Lw) (E : XK) (t : Ty) : List V → Hp → VK → Prop := fun vs H Q => ∃ v, vs = [v, .ty (tyS t)] ∧ rBltV L E (.isi t) [v] H Q
theorem isi_ok (g : Gd L k X) (t : Ty) : CallR X (.builtin "isinstance") (rIsiV L E t) := by
  intro pins s σ H vs us Q I rv h
  obtain ⟨v0, rfl, h⟩ := h
  rcases blt_cases h with ⟨x, v, z, e0, r, e, q⟩ | ⟨x, y, v, w, z, e0, r, r', e, q⟩
  · cases e0
    have e : some (D.bl (isiD t x)) = some z := e
    cases e
    have ht := r.ty
    rw [← g.K] at ht
    exact call_isi pins s σ H _ us Q I rv ⟨v0, .ty (tyS t), .type (tyN x), .type (tyS t), isiD t x, rfl, .ty _, ht, kit_ty (kit_isi t x), q.val rfl⟩
  · cases e0
end
end EvS

namespace EvS
open PySem PySem.Spec PyProof.Rows L2 Ev
variable {L : Lw} {X : L2.Cx} {E : XK} {k : Nat}
theorem sorted_ok (g : Gd L k X) : CallR X (.builtin "sorted") (rBltV L E .sorted) := by
  intro pins s σ H vs us Q I rv h
  rcases blt_cases h with ⟨x, v, z, rfl, r, e, q⟩ | ⟨x, y, v, w, z, rfl, _, _, e, _⟩
  · have e : bSorted x = some z := e
    unfold bSorted at e
    split at e
    · split at e
      · rename_i hs
        cases e
        obtain ⟨a, ws, rfl, h1, h2, h3⟩ := r.lst
        rw [← g.K] at h1 h3
        refine EP_lkw (cr_sortedD g.u70 pins s σ H _ us (QL Q) I rv ⟨a, ws, _, rfl, h1, h3, hs, fun p ys hp r' => ?_⟩)
        rw [g.K] at r'
        exact q.lst (by rw [sortD_len]; exact h2) r' hp
      · cases e
    · cases e
  · cases e
end EvS

namespace EvS
open PySem PySem.Spec PyProof.Rows L2 Ev

/-! ### does a piece of the text match an own tree? -/
/-- the names of the defs, of the module's constants -/
structure Nm where
  fns : List Str
  cons : List Str
  /-- where lambdas may be made: the def's own names; the lambdas by their parameters, body, scope -/
  lmk : Option (List (Str × NameKind))
  lamB : Nat → List Str → Arguments → Expr → Scope → Bool
def nmB (l : List Str) (i : Nat) (x : Str) : Bool := match l[i]? with
  | some y => decide (y = x)
  | none => false
def visB (sc : Scope) (x : Str) : Bool := match sc.names.lookup x with
  | some .local => true
  | some .cell => true
  | some .free => true
  | _ => false
def locB (sc : Scope) (x : Str) : Bool := match sc.names.lookup x with
  | some .local => true
  | some .cell => true
  | _ => false
def celB (sc : Scope) (x : Str) : Bool := match sc.names.lookup x with
  | some .cell => true
  | _ => false
/-- the names in some slots -/
def namesOf (N : List Str) : List Nat → Option (List Str)
  | [] => some []
  | i :: is => match N[i]?, namesOf N is with
    | some x, some xs => some (x :: xs)
    | _, _ => none
def lclB (sc : Scope) (x : Str) : Bool := match sc.names.lookup x with
  | some .local => true
  | _ => false
def glB (sc : Scope) (x : Str) : Bool := match sc.names.lookup x with
  | some .globalImplicit => true
  | _ => false
def conB : D → PySem.Const → Bool
  | .non, .none => true
  | .bl a, .bool b => a == b
  | .int a, .int b => a == b
  | .str s, .str z => decide ((⟨s.toArray⟩ : Str) = z) && decide (s.length ≤ line) && s.all (fun c => decide (c < 128))
  | _, _ => false
def opB : Op → Operator → Bool
  | .add, .Add => true | .sub, .Sub => true | .mul, .Mult => true | .fdiv, .FloorDiv => true | .mod, .Mod => true | .pow, .Pow => true
  | _, _ => false
def copB : Cop → CmpOp → Bool
  | .lt, .Lt => true | .le, .LtE => true | .gt, .Gt => true | .ge, .GtE => true | .eq, .Eq => true | .ne, .NotEq => true | .isin, .In => true | .notin, .NotIn => true
  | _, _ => false
def bltN : Bf → String
  | .isi _ => "isinstance" | .len => "len" | .all => "all" | .any => "any" | .sorted => "sorted" | .tuple => "tuple" | .list => "list" | .int => "int" | .bool => "bool" | .str => "str"
  | .abs => "abs" | .min => "min" | .max => "max"
def bltOk : Bf → Bool
  | .str => false
  | .isi _ => false
  | _ => true
/-- the built-in names that a text may call -/
def bnames : List Str := ["isinstance", "len", "all", "any", "sorted", "set", "tuple", "list", "int", "bool", "str", "abs", "min", "max", "range", "zip", "enumerate"]
def isB (sc : Scope) (n : String) (x : Str) : Bool := decide (x = (Str.ofString n)) && glB sc x
def mthN : Mf → String
  | .append => "append" | .pop => "pop" | .get2 => "get" | .index => "index" | .join => "join" | .split => "split" | .lstrip => "lstrip" | .repl2 => "replace" | .repl3 => "replace"
/-- how many arguments; what is not covered: no such list -/
def mthA : Mf → Nat
  | .append => 1 | .pop => 0 | .get2 => 2 | _ => 1000000
def mthC : Mf → Bool
  | .append => true | .pop => true | .get2 => true | _ => false
def nameP : Expr → Bool
  | .Name _ _ => true
  | _ => false
def tupP : Expr → Bool
  | .Tuple _ _ _ => true
  | _ => false
/-- the scope that runs in a comprehension -/
abbrev inner (scope sc : Scope) : Scope := relS scope sc
mutual
def tstB : E → Bool
  | .ife _ _ _ => false
  | .and a es => tstB a && tstBs es
  | .or a es => tstB a && tstBs es
  | .not a => tstB a
  | _ => true
def tstBs : Es → Bool
  | .nil => true
  | .cons e es => tstB e && tstBs es
end
mutual
def chkT (N : List Str) (l : Bool) : Tg → Scope → Expr → Bool
  | .nm i, sc, pe => match pe with
    | .Name x _ => nmB N i x && (if l then lclB sc x else locB sc x)
    | _ => false
  | .tp ts, sc, pe => match pe with
    | .Tuple es _ _ => chkTs N l ts sc es
    | _ => false
def chkTs (N : List Str) (l : Bool) : Tgs → Scope → List Expr → Bool
  | .nil, _, es => match es with
    | [] => true
    | _ => false
  | .cons t ts, sc, es => match es with
    | [] => false
    | p :: r => chkT N l t sc p && chkTs N l ts sc r
end
/-- the own names of a comprehension by their slots -/
def ownOf (N : List Str) : List Nat → Option (List (Str × Nat))
  | [] => some []
  | i :: is => match N[i]?, ownOf N is with
    | some x, some r => some ((x, i) :: r)
    | _, _ => none
def own1 (N : List Str) (is : List Nat) : List (Str × Nat) := (ownOf N is).getD []
variable (M : Nm) (N : List Str)
mutual
def chkE : E → Scope → Expr → Bool
  | .cst d, _, pe => match pe with
    | .Constant c _ _ => conB d c
    | _ => false
  | .var i, sc, pe => match pe with
    | .Name x _ => nmB N i x && visB sc x
    | _ => false
  | .frz i, sc, pe => match pe with
    | .Name x _ => nmB N i x && visB sc x
    | _ => false
  | .glo k, sc, pe => match pe with
    | .Name x _ => nmB M.cons k x && glB sc x
    | _ => false
  | .tup es, sc, pe => match pe with
    | .Tuple l _ _ => chkEs es sc l && decide (l.length ≤ 1000)
    | _ => false
  | .lst es, sc, pe => match pe with
    | .List l _ => chkEs es sc l && decide (l.length ≤ 1000)
    | _ => false
  | .new es, sc, pe => match pe with
    | .List l _ => chkEs es sc l && decide (l.length ≤ 1000)
    | _ => false
  | .dic ks vs, sc, pe => match pe with
    | .Dict [] [] _ => chkEs ks sc [] && chkEs vs sc []
    | .Dict [some pa] [pb] _ => chkEs ks sc [pa] && chkEs vs sc [pb]
    | _ => false
  | .tdic _, _, _ => false
  | .bin o a b, sc, pe => match pe with
    | .BinOp pa po pb _ => opB o po && chkE a sc pa && chkE b sc pb
    | _ => false
  | .neg a, sc, pe => match pe with
    | .UnaryOp .USub pa _ => chkE a sc pa
    | _ => false
  | .cmp o a b, sc, pe => match pe with
    | .Compare pa [po] [pb] _ => copB o po && chkE a sc pa && chkE b sc pb
    | _ => false
  | .chain o o' a b c, sc, pe => match pe with
    | .Compare pa [po, po'] [pb, pc] _ => copB o po && copB o' po' && chkE a sc pa && chkE b sc pb && chkE c sc pc
    | _ => false
  | .isN a, sc, pe => match pe with
    | .Compare pa [.Is] [.Constant .none _ _] _ => chkE a sc pa
    | _ => false
  | .notN a, sc, pe => match pe with
    | .Compare pa [.IsNot] [.Constant .none _ _] _ => chkE a sc pa
    | _ => false
  | .and a es, sc, pe => match pe with
    | .BoolOp .And (pa :: pb :: l) _ => chkE a sc pa && chkEs es sc (pb :: l)
    | _ => false
  | .or a es, sc, pe => match pe with
    | .BoolOp .Or (pa :: pb :: l) _ => chkE a sc pa && chkEs es sc (pb :: l)
    | _ => false
  | .not a, sc, pe => match pe with
    | .UnaryOp .Not pa _ => chkE a sc pa
    | _ => false
  | .ife c a b, sc, pe => match pe with
    | .IfExp pc pa pb _ => tstB c && chkE c sc pc && chkE a sc pa && chkE b sc pb
    | _ => false
  | .idx a i, sc, pe => match pe with
    | .Subscript pa pi _ => chkE a sc pa && chkE i sc pi
    | _ => false
  | .slc a lo hi, sc, pe => match pe with
    | .Subscript pa (.Slice pl ph none _) _ => chkE a sc pa && chkPo lo sc pl && chkPo hi sc ph
    | _ => false
  | .rev a, sc, pe => match pe with
    | .Subscript pa (.Slice none none (some (.UnaryOp .USub (.Constant (.int 1) _ _) _)) _) _ => chkE a sc pa
    | _ => false
  | .call g es, sc, pe => match pe with
    | .Call (.Name x _) l [] _ => nmB M.fns g x && glB sc x && chkEs es sc l
    | _ => false
  | .calll g es, sc, pe => match pe with
    | .Call (.Name x _) (pa :: l) [] _ => nmB M.fns g x && glB sc x && chkAs es sc (pa :: l) && decide (M.lmk = some sc.names)
    | _ => false
  | .callv i es, sc, pe => match pe with
    | .Call (.Name x _) l [] _ => nmB N i x && visB sc x && chkEs es sc l
    | _ => false
  | .blt b es, sc, pe => match b with
    | .isi t => match pe with
      | .Call (.Name x _) [pa, .Name y _] [] _ => isB sc "isinstance" x && isB sc (tyS t) y && chkEs es sc [pa]
      | _ => false
    | b => match pe with
      | .Call (.Name x _) (pa :: l) [] _ => bltOk b && isB sc (bltN b) x && chkEs es sc (pa :: l)
      | _ => false
  | .sset a, sc, pe => match pe with
    | .Call (.Name x _) [.Call (.Name y _) [pa] [] _] [] _ => isB sc "sorted" x && isB sc "set" y && chkE a sc pa
    | _ => false
  | .lset _, _, _ => false
  | .mth m o es, sc, pe => match pe with
    | .Call (.Attribute po nm apos) l [] cpos => mthC m && decide (nm = Str.ofString (mthN m)) && nameP po && chkE o sc po && chkEs es sc l && (apos.endLine == cpos.line) && decide (l.length = mthA m)
    | _ => false
  | .lc elt t it c own, sc, pe => match pe with
    | .ListComp pelt [⟨ptg, pit, pifs, isa⟩] scope _ => decide (isa = 0) && decide (M.lmk ≠ some (inner scope sc).names) && chkIt it sc ptg pit && (ownOf N own).isSome && blkC N sc scope (own1 N own) && t.slots.all (fun i => own.contains i) && chkT N true t (inner scope sc) ptg &&
        chkPoB c (inner scope sc) pifs && chkE elt (inner scope sc) pelt
    | _ => false
  | .lam _ _, _, _ => false
/-- arguments, lambdas among them -/
def chkAs : Es → Scope → List Expr → Bool
  | .nil, _, l => match l with
    | [] => true
    | _ => false
  | .cons e es, sc, l => match l with
    | [] => false
    | p :: r => (match e with
      | .lam l is => (match p with
        | .Lambda params body scope _ => (match namesOf N is with
          | some caps => M.lamB l caps params body scope && caps.all (celB sc)
          | none => false)
        | _ => false)
      | e => chkE e sc p) && chkAs es sc r
def chkEs : Es → Scope → List Expr → Bool
  | .nil, _, l => match l with
    | [] => true
    | _ => false
  | .cons e es, sc, l => match l with
    | [] => false
    | p :: r => chkE e sc p && chkEs es sc r
def chkPo : Po → Scope → Option Expr → Bool
  | .no, _, o => match o with
    | none => true
    | _ => false
  | .e a, sc, o => match o with
    | some p => chkE a sc p
    | none => false
def chkPoB : Po → Scope → List Expr → Bool
  | .no, _, l => match l with
    | [] => true
    | _ => false
  | .e a, sc, l => match l with
    | [p] => tstB a && chkE a sc p
    | _ => false
def chkIt : Ev.It → Scope → Expr → Expr → Bool
  | .val a, sc, _, pe => chkE a sc pe
  | .rng1 a, sc, _, pe => match pe with
    | .Call (.Name x _) [pa] [] _ => isB sc "range" x && chkE a sc pa
    | _ => false
  | .rng2 a b, sc, _, pe => match pe with
    | .Call (.Name x _) [pa, pb] [] _ => isB sc "range" x && chkE a sc pa && chkE b sc pb
    | _ => false
  | .enum _, _, _, _ => false
  | .zip a b, sc, tg, pe => match pe with
    | .Call (.Name x _) [pa, pb] [] _ => tupP tg && isB sc "zip" x && chkE a sc pa && chkE b sc pb
    | _ => false
  | .keys a, sc, _, pe => chkE a sc pe
end
/-- a comprehension that is stored as it is made -/
def swB (sc : Scope) (x : Str) (px : Pos) : Expr → Bool
  | .ListComp _ _ s p => lclB sc x && (px.line == p.line) && !(s.names.any fun (n, k) => n == x && (k == .local || k == .cell))
  | _ => false
def compP : Expr → Bool
  | .ListComp _ _ _ _ => true
  | .SetComp _ _ _ _ => true
  | .DictComp _ _ _ _ _ => true
  | _ => false
/-- the stores of a, b = x, y that the machine turns round -/
def parOk (ts vs : List Expr) : Bool := !(vs.all (foldedForSure 8)) && !(vs.all (constantsAlone 8))
mutual
def chkS : S → Scope → Stmt → Bool
  | .set i e, sc, ps => match ps with
    | .Assign [.Name x px] pe _ => nmB N i x && locB sc x && chkE M N e sc pe && (swB sc x px pe || !(compP pe && lclB sc x))
    | _ => false
  | .unp ts e, sc, ps => match ps with
    | .Assign [.Tuple l k pt] pe _ => chkTs N false ts sc l && chkE M N e sc pe && (match pe with
      | .Tuple vs _ _ => vs.all (foldedForSure 8)
      | _ => true)
    | _ => false
  | .par2 i j a b, sc, ps => match ps with
    | .Assign [.Tuple [.Name x px, .Name y py] _ _] (.Tuple [pa, pb] _ _) _ => nmB N i x && nmB N j y && lclB sc x && lclB sc y && decide (i ≠ j) && decide (x ≠ y) && (py.line == px.line) && chkE M N a sc pa && chkE M N b sc pb && parOk [.Name x px, .Name y py] [pa, pb]
    | _ => false
  | .par3 i j k a b c, sc, ps => match ps with
    | .Assign [.Tuple [.Name x px, .Name y py, .Name z pz] _ _] (.Tuple [pa, pb, pc] _ _) _ => nmB N i x && nmB N j y && nmB N k z && lclB sc x && lclB sc y && lclB sc z && decide (i ≠ j) && decide (i ≠ k) && decide (j ≠ k) && decide (x ≠ y) && decide (x ≠ z) && decide (y ≠ z) &&
        (py.line == px.line) && (pz.line == px.line) && chkE M N a sc pa && chkE M N b sc pb && chkE M N c sc pc && parOk [.Name x px, .Name y py, .Name z pz] [pa, pb, pc]
    | _ => false
  | .idx o i e, sc, ps => match ps with
    | .Assign [.Subscript po pi _] pe _ => chkE M N o sc po && chkE M N i sc pi && chkE M N e sc pe
    | _ => false
  | .exp e, sc, ps => match ps with
    | .Expr pe _ => chkE M N e sc pe && !compP pe
    | _ => false
  | .ite c a b, sc, ps => match ps with
    | .If pc pa pb _ => tstB c && chkE M N c sc pc && chkSs a sc pa && chkSs b sc pb
    | _ => false
  | .for_ t it b, sc, ps => match ps with
    | .For ptg pit pb [] _ => chkT N false t sc ptg && chkIt M N it sc ptg pit && chkSs b sc pb
    | _ => false
  | .whl c b, sc, ps => match ps with
    | .While pc pb [] _ => tstB c && chkE M N c sc pc && chkSs b sc pb
    | _ => false
  | .ret e, sc, ps => match ps with
    | .Return (some pe) _ => chkE M N e sc pe
    | _ => false
  | .retN, _, ps => match ps with
    | .Return none _ => true
    | _ => false
  | .brk, _, ps => match ps with
    | .Break _ => true
    | _ => false
  | .cnt, _, ps => match ps with
    | .Continue _ => true
    | _ => false
  | .pas, _, ps => match ps with
    | .Pass _ => true
    | _ => false
  | .rse _, _, _ => false
  | .nev, _, _ => true
def chkSs : Ss → Scope → List Stmt → Bool
  | .nil, _, l => match l with
    | [] => true
    | _ => false
  | .cons s r, sc, l => match l with
    | [] => false
    | p :: q => chkS s sc p && chkSs r sc q
end
end EvS

namespace EvS
open PySem PySem.Spec PyProof.Rows L2 Ev

/-! ### what a tree's reading is -/
section
variable (L : Lw) (W : WX) (C : Ev.Ctx)
def tE (e : E) : TE := fun σ H Q => ∃ ρ μ st, Sim L H μ st ∧ EnR L H μ ρ σ ∧ RQ L H μ (WE W σ) (evE C e ρ st) (QV (L := L) Q)
abbrev QB (Q : Bool → Hp → Prop) : Vl → Sto → Hp → Mu → Prop := fun v _ H' _ => ∃ b, v = .d (.bl b) ∧ Q b H'
def tT (e : E) : TT := fun σ H Q => ∃ ρ μ st, Sim L H μ st ∧ EnR L H μ ρ σ ∧ RQ L H μ (WE W σ) (evE C e ρ st) (QB Q)
abbrev QA (Q : List V → Hp → Prop) : List Vl → Sto → Hp → Mu → Prop := fun vs _ H' μ' => ∀ us, RVs L H' μ' vs us → Q us H'
def tA (es : Es) : TA := fun σ H Q => ∃ ρ μ st, Sim L H μ st ∧ EnR L H μ ρ σ ∧ RQ L H μ (WE W σ) (evEs C es ρ st) (QA L Q)
def tPo (o : Po) : L2.TO := fun σ H Q => ∃ ρ μ st, Sim L H μ st ∧ EnR L H μ ρ σ ∧ RQ L H μ (WE W σ) (evPo C o ρ st) (fun o _ H' _ => Q o H')
def tPB (o : Po) : TT := fun σ H Q => ∃ ρ μ st, Sim L H μ st ∧ EnR L H μ ρ σ ∧ RQ L H μ (WE W σ) (evPoB C o ρ st) (fun o _ H' _ => Q o H')
def tAnds (es : Es) : TE := fun σ H Q => ∃ ρ μ st, Sim L H μ st ∧ EnR L H μ ρ σ ∧ RQ L H μ (WE W σ) (evAnd C es ρ st) (QV (L := L) Q)
def tOrs (es : Es) : TE := fun σ H Q => ∃ ρ μ st, Sim L H μ st ∧ EnR L H μ ρ σ ∧ RQ L H μ (WE W σ) (evOr C es ρ st) (QV (L := L) Q)
def tAndsT (es : Es) : TT := fun σ H Q => ∃ ρ μ st, Sim L H μ st ∧ EnR L H μ ρ σ ∧ RQ L H μ (WE W σ) (evAnd C es ρ st) (QB Q)
def tOrsT (es : Es) : TT := fun σ H Q => ∃ ρ μ st, Sim L H μ st ∧ EnR L H μ ρ σ ∧ RQ L H μ (WE W σ) (evOr C es ρ st) (QB Q)
/-- what is walked yields the data xs -/
def WalkD (J : L2.It) (xs : List D) (H0 : Hp) : Prop := xs.length ≤ line ∧ ∃ (G : Hp → Prop) (Y : Nat → Hp → V → Hp → Prop), Walk J xs.length G Y ∧ (∀ H', (∀ a o, H0 a = some o → Fix o → H' a = some o) → G H') ∧
  ∀ i H x H', i < xs.length → (∀ a o, H0 a = some o → Fix o → H a = some o) → Y i H x H' → New1 H H' ∧ ∃ d, xs[i]? = some d ∧ RD L.K H' d x
def tI (it : Ev.It) : TI := fun σ H R => ∃ ρ μ st, Sim L H μ st ∧ EnR L H μ ρ σ ∧ RQ L H μ (WE W σ) (evIt C it ρ st) (fun xs _ H' _ => ∀ J, WalkD L J xs H' → R J H')
end

section
variable {L : Lw} {W : WX} {C : Ev.Ctx} {ρ : En} {σ : L2.St} {H : Hp} {μ : Mu} {st : Sto}
/-- one after the other -/
theorem tE_bind {α : Type} {f : Vl → Sto → R α} {Q' : α → Sto → Hp → Mu → Prop} {Q1 : VK} {e : E} (S : Sim L H μ st) (n : EnR L H μ ρ σ) (h : RQ L H μ (WE W σ) ((evE C e ρ st).bind f) Q')
    (k : ∀ u x st' H' μ', Ext H μ H' μ' → Sim L H' μ' st' → EnR L H' μ' ρ σ → RV L H' μ' u x → RQ L H' μ' (WE W σ) (f u st') Q' → Q1 x H') : tE L W C e σ H Q1 :=
  ⟨ρ, μ, st, S, n, h.bind.mono fun a st' H' μ' e s q u r => k a u st' H' μ' e s (n.ext e) r q⟩
theorem tA_bind {α : Type} {f : List Vl → Sto → R α} {Q' : α → Sto → Hp → Mu → Prop} {Q1 : List V → Hp → Prop} {e : Es} (S : Sim L H μ st) (n : EnR L H μ ρ σ) (h : RQ L H μ (WE W σ) ((evEs C e ρ st).bind f) Q')
    (k : ∀ u x st' H' μ', Ext H μ H' μ' → Sim L H' μ' st' → EnR L H' μ' ρ σ → RVs L H' μ' u x → RQ L H' μ' (WE W σ) (f u st') Q' → Q1 x H') : tA L W C e σ H Q1 :=
  ⟨ρ, μ, st, S, n, h.bind.mono fun a st' H' μ' e s q u r => k a u st' H' μ' e s (n.ext e) r q⟩
theorem tPo_bind {α : Type} {f : Option Int → Sto → R α} {Q' : α → Sto → Hp → Mu → Prop} {Q1 : Option Int → Hp → Prop} {e : Po} (S : Sim L H μ st) (n : EnR L H μ ρ σ) (h : RQ L H μ (WE W σ) ((evPo C e ρ st).bind f) Q')
    (k : ∀ u st' H' μ', Ext H μ H' μ' → Sim L H' μ' st' → EnR L H' μ' ρ σ → RQ L H' μ' (WE W σ) (f u st') Q' → Q1 u H') : tPo L W C e σ H Q1 :=
  ⟨ρ, μ, st, S, n, h.bind.mono fun a st' H' μ' e s q => k a st' H' μ' e s (n.ext e) q⟩
theorem onB_cases {α : Type} {E : XK} {v : Vl} {t f : R α} {Q : α → Sto → Hp → Mu → Prop} (h : RQ L H μ E (onB v t f) Q) : ∃ b, v = .d (.bl b) ∧ RQ L H μ E (if b = true then t else f) Q := by
  unfold onB at h
  split at h
  · exact ⟨true, rfl, h⟩
  · exact ⟨false, rfl, h⟩
  · exact h.elim
theorem onD_cases {α : Type} {E : XK} {o : Option α} {f : α → R Vl} {Q : Vl → Sto → Hp → Mu → Prop} (h : RQ L H μ E (onD o f) Q) : ∃ x, o = some x ∧ RQ L H μ E (f x) Q := by
  unfold onD at h
  split at h
  · exact ⟨_, rfl, h⟩
  · exact h.elim
theorem ofO_cases {E : XK} {o : Option D} {Q : Vl → Sto → Hp → Mu → Prop} (h : RQ L H μ E (ofO o st) Q) : ∃ x, o = some x ∧ RQ L H μ E (.ok (.d x) st) Q := by
  unfold ofO at h
  split at h
  · exact ⟨_, rfl, h⟩
  · exact h.elim
/-- a test: the value is a truth -/
theorem tT_bind {α : Type} {t f : Sto → R α} {Q' : α → Sto → Hp → Mu → Prop} {Q1 : Bool → Hp → Prop} {e : E} (S : Sim L H μ st) (n : EnR L H μ ρ σ) (h : RQ L H μ (WE W σ) ((evE C e ρ st).bind fun v st => onB v (t st) (f st)) Q')
    (k : ∀ b st' H' μ', Ext H μ H' μ' → Sim L H' μ' st' → EnR L H' μ' ρ σ → RQ L H' μ' (WE W σ) (if b = true then t st' else f st') Q' → Q1 b H') : tT L W C e σ H Q1 :=
  ⟨ρ, μ, st, S, n, h.bind.mono fun a st' H' μ' e s q => by
    obtain ⟨b, eb, q2⟩ := onB_cases q
    exact ⟨b, eb, k b st' H' μ' e s (n.ext e) q2⟩⟩
theorem tE_tB {e : E} {Q : Bool → Hp → Prop} (h : tT L W C e σ H Q) : tE L W C e σ H fun x H1 => ∃ c, x = .bl c ∧ Q c H1 := by
  obtain ⟨ρ, μ, st, S, n, h⟩ := h
  refine ⟨ρ, μ, st, S, n, h.mono fun a st' H' μ' e s q u r => ?_⟩
  obtain ⟨b, rfl, q⟩ := q
  exact ⟨b, r, q⟩

/-! ### data alone -/
theorem RVs.dats : ∀ {vs : List Vl} {us : List V} {xs : List D}, RVs L H μ vs us → datVs vs = some xs → RDs L.K H xs us
  | [], us, xs, h, e => by
    cases e
    exact h
  | .d x :: vs, us, xs, ⟨u, r, h1, h2, h3⟩, e => by
    unfold datVs at e
    cases q : datVs vs with
    | none => rw [q] at e; cases e
    | some ys =>
      rw [q] at e
      cases e
      exact ⟨u, r, h1, h2, h3.dats q⟩
  | .fn _ :: _, _, _, _, e => by cases e
  | .clo _ _ :: _, _, _, _, e => by cases e
  | .ref _ :: _, _, _, _, e => by cases e
  | .dct _ :: _, _, _, _, e => by cases e
theorem datVs_len : ∀ {vs : List Vl} {xs : List D}, datVs vs = some xs → xs.length = vs.length
  | [], xs, e => by cases e; rfl
  | .d x :: vs, xs, e => by
    unfold datVs at e
    cases q : datVs vs with
    | none => rw [q] at e; cases e
    | some ys =>
      rw [q] at e
      cases e
      rw [List.length_cons, List.length_cons, datVs_len q]
  | .fn _ :: _, _, e => by cases e
  | .clo _ _ :: _, _, e => by cases e
  | .ref _ :: _, _, e => by cases e
  | .dct _ :: _, _, e => by cases e
def _root_.Ev.Es.len : Es → Nat
  | .nil => 0
  | .cons _ es => es.len + 1
theorem evEs_len : ∀ {es : Es} {st st' : Sto} {vs : List Vl}, evEs C es ρ st = .ok vs st' → vs.length = es.len
  | .nil, st, st', vs, h => by
    unfold evEs at h
    cases h
    rfl
  | .cons e es, st, st', vs, h => by
    unfold evEs at h
    cases q : evE C e ρ st with
    | ok v s1 =>
      rw [q] at h
      have h : (evEs C es ρ s1).bind (fun vs st => .ok (v :: vs) st) = .ok vs st' := h
      cases q2 : evEs C es ρ s1 with
      | ok us s2 =>
        rw [q2] at h
        have h : R.ok (v :: us) s2 = .ok vs st' := h
        cases h
        rw [List.length_cons, evEs_len q2]
        rfl
      | ex c fs s2 => rw [q2] at h; cases h
      | no => rw [q2] at h; cases h
    | ex c fs s1 => rw [q] at h; cases h
    | no => rw [q] at h; cases h
theorem RQ.monoE {α : Type} {E : XK} {r : R α} {Q Q' : α → Sto → Hp → Mu → Prop} (h : RQ L H μ E r Q) (hq : ∀ a st H' μ', r = .ok a st → Ext H μ H' μ' → Sim L H' μ' st → Q a st H' μ' → Q' a st H' μ') : RQ L H μ E r Q' := by
  cases r with
  | ok a st => exact fun H' μ' e s => hq a st H' μ' rfl e s (h H' μ' e s)
  | ex c fs st => exact h
  | no => exact h
theorem tA_bindL {α : Type} {f : List Vl → Sto → R α} {Q' : α → Sto → Hp → Mu → Prop} {Q1 : List V → Hp → Prop} {e : Es} (S : Sim L H μ st) (n : EnR L H μ ρ σ) (h : RQ L H μ (WE W σ) ((evEs C e ρ st).bind f) Q')
    (k : ∀ u x st' H' μ', u.length = e.len → Ext H μ H' μ' → Sim L H' μ' st' → EnR L H' μ' ρ σ → RVs L H' μ' u x → RQ L H' μ' (WE W σ) (f u st') Q' → Q1 x H') : tA L W C e σ H Q1 :=
  ⟨ρ, μ, st, S, n, h.bind.monoE fun a st' H' μ' q e s z u r => k a u st' H' μ' (evEs_len q) e s (n.ext e) r z⟩
end
end EvS

namespace EvS
open PySem PySem.Spec PyProof.Rows L2 Ev

/-! ### shapes that no tree has -/
section
variable {M : Nm} {N : List Str} {sc : Scope}
theorem no_star (e : E) (a : Expr) (p : Pos) : chkE M N e sc (.Starred a p) = false := by
  cases e with
  | blt b es => cases b <;> rfl
  | _ => rfl
theorem no_set (e : E) (a : List Expr) (k : Nat) (p : Pos) : chkE M N e sc (.Set a k p) = false := by
  cases e with
  | blt b es => cases b <;> rfl
  | _ => rfl
theorem no_slice (e : E) (a b c : Option Expr) (p : Pos) : chkE M N e sc (.Slice a b c p) = false := by
  cases e with
  | blt b es => cases b <;> rfl
  | _ => rfl
theorem chk_star {e : E} {pe : Expr} {es : List Expr} {env : Env} (h : chkE M N e sc pe = true) : starEach (pe :: es) env = (false, eval pe env) :: starEach es env := by
  cases pe with
  | Starred a p => rw [no_star] at h; cases h
  | _ => rfl
theorem chk_plain {pos : Pos} {env : Env} : ∀ {es : Es} {pes : List Expr}, chkEs M N es sc pes = true → (backTo pos (starEach pes env)).any (·.1) = false
  | .nil, pes, h => by
    cases pes with
    | nil => rfl
    | cons p r => cases h
  | .cons e es, pes, h => by
    cases pes with
    | nil => cases h
    | cons p r =>
      have h : (chkE M N e sc p && chkEs M N es sc r) = true := h
      rw [Bool.and_eq_true] at h
      rw [chk_star h.1]
      exact chk_plain (es := es) h.2
theorem chk_all {pos : Pos} {env : Env} : ∀ {es : Es} {pes : List Expr}, chkEs M N es sc pes = true → (backTo pos (starEach pes env)).all (fun x => !x.1) = true
  | .nil, pes, h => by
    cases pes with
    | nil => rfl
    | cons p r => cases h
  | .cons e es, pes, h => by
    cases pes with
    | nil => cases h
    | cons p r =>
      have h : (chkE M N e sc p && chkEs M N es sc r) = true := h
      rw [Bool.and_eq_true] at h
      rw [chk_star h.1]
      exact chk_all (es := es) h.2
theorem chk_len : ∀ {es : Es} {pes : List Expr}, chkEs M N es sc pes = true → pes.length = es.len
  | .nil, pes, h => by
    cases pes with
    | nil => rfl
    | cons p r => cases h
  | .cons e es, pes, h => by
    cases pes with
    | nil => cases h
    | cons p r =>
      have h : (chkE M N e sc p && chkEs M N es sc r) = true := h
      rw [Bool.and_eq_true] at h
      rw [List.length_cons, chk_len (es := es) h.2]
      rfl
theorem chk_mark {e : E} {pe : Expr} (op : CmpOp) (h : chkE M N e sc pe = true) : behindInMarks op pe = false := by
  cases pe with
  | Set a k p => rw [no_set] at h; cases h
  | _ => rfl
theorem chk_marks {e : E} {pe pb : Expr} (op op' : CmpOp) (h : chkE M N e sc pe = true) : lastMarks [op, op'] [pb, pe] = false := chk_mark op' h
theorem chk_ix {e : E} {pe : Expr} (h : chkE M N e sc pe = true) : PlainIx pe := by
  cases pe with
  | Slice a b c p => rw [no_slice] at h; cases h
  | _ => exact fun _ _ => rfl
theorem chk_fold {e : E} {pe : Expr} {env : Env} (h : chkE M N e sc pe = true) (x : Value) : foldedSetIterable pe env x = pure x := by
  cases pe with
  | Set a k p => rw [no_set] at h; cases h
  | _ => rfl
theorem chk_comp {pe : Expr} {t : Option Expr} {l : Nat} {env : Env} (h : compP pe = false) : swapsWith pe t l env = pure false := by
  cases pe with
  | ListComp _ _ _ _ => cases h
  | SetComp _ _ _ _ => cases h
  | DictComp _ _ _ _ _ => cases h
  | _ => rfl
end

section
variable {X : L2.Cx}
/-! ### what is walked, by its value -/
def iAny (K : PySem.W.Frag) (te : TE) : TI := fun σ H R => te σ H fun x H1 => (∃ a xs, x = .ref a ∧ SqL K H1 a xs ∧ R (Itl K a) H1) ∨ (∃ a xs, x = .ref a ∧ SqT K H1 a xs ∧ R (Itt K a) H1) ∨ ∃ z, x = .str z ∧ R (Its z) H1
theorem pi_any {l tg : Expr} {tl : TE} (hl : PE X l tl) : PI X tg l (iAny X.K tl) := by
  refine ⟨fun pins s σ H R I h => ?_⟩
  refine thn (hl.run pins s σ H _ I h) fun v s1 ⟨x, H1, I1, r1, q1⟩ => ?_
  rcases q1 with ⟨a, xs, e, hq, q⟩ | ⟨a, xs, e, hq, q⟩ | ⟨z, e, q⟩
  · subst e
    cases r1
    obtain ⟨its, rv, p, hz⟩ := I1.list hq
    exact wpAny_pyIter_list p.isList (pi_one (tk := s1.toks) I1 _ (turn_list a _) ⟨_, Heap.get?_push_size _ rfl, rfl, rfl⟩ q)
  · subst e
    cases r1
    obtain ⟨its, rv, p, hz⟩ := I1.tuple hq
    exact wpAny_pyIter_tuple (show s1.heap.IsTuple a its.toArray from p) (pi_one (tk := s1.toks) I1 _ (turn_tuple a _) ⟨_, Heap.get?_push_size _ rfl, rfl, rfl⟩ q)
  · subst e
    obtain ⟨t, rfl⟩ := r1
    cases ha : z.cps.all (· < 128)
    · exact wpAny_pyIter_wide ha (pi_one (tk := s1.toks) I1 _ (turn_str _ z t "str_iterator" (.inr rfl)) ⟨_, Heap.get?_push_size _ rfl, rfl, rfl⟩ q)
    · exact wpAny_pyIter_ascii ha (pi_one (tk := s1.toks) I1 _ (turn_str _ z t "str_ascii_iterator" (.inl rfl)) ⟨_, Heap.get?_push_size _ rfl, rfl, rfl⟩ q)

/-! ### s[::-1] of a text -/
def tRevA (K : PySem.W.Frag) (te : TE) : TE := fun σ H Q => te σ H fun x H1 => (∃ z : List Nat, x = .str ⟨z.toArray⟩ ∧ z.length ≤ sizeLine ∧ Q (.str ⟨z.reverse.toArray⟩) H1) ∨ ∃ a xs, x = .ref a ∧ SqL K H1 a xs ∧ ∀ p, H1 p = none → Q (.ref p) (upd H1 p (.lst xs.reverse))
theorem rev_ix (z : List Nat) : ((Builtin.Str.strSliceIndices none none (-1) z.length).filterMap ((z.toArray)[·]?)) = z.reverse := by
  have e : Builtin.Str.strSliceIndices none none (-1) z.length = sliceRange ((z.length : Int) - 1) (-1) (-1) := by
    unfold Builtin.Str.strSliceIndices
    simp
  rw [e, PySem.W.krv_sliceRange, PySem.W.krv_range, List.filterMap_reverse]
  have := PySem.W.krv_all z.toArray
  simp only [List.size_toArray] at this
  rw [this]
theorem rev_len (n : Nat) : (Builtin.Str.strSliceIndices none none (-1) n).length = n := by
  have e : Builtin.Str.strSliceIndices none none (-1) n = sliceRange ((n : Int) - 1) (-1) (-1) := by
    unfold Builtin.Str.strSliceIndices
    simp
  rw [e, PySem.W.krv_sliceRange, List.length_map, List.length_range]
theorem pe_revA {e : Expr} {te : TE} {k : Nat} {p1 p2 p3 pos : Pos} (he : PE X e te) : PE X (.Subscript e (.Slice none none (some (.UnaryOp .USub (.Constant (.int 1) k p1) p2)) p3) pos) (tRevA X.K te) := by
  refine ⟨fun pins s σ H Q I h => ?_⟩
  refine Subscript_ (thn (he.run pins s σ H _ I h) fun v s1 ⟨x, H1, I1, r1, q1⟩ => ?_)
  have hst : PO X (some (.UnaryOp .USub (.Constant (.int 1) k p1) p2)) (tPart (tUn (rU fun i => .int (-i)) (tC (.int 1)))) := po_some (pe_un un_neg pe_int)
  refine wpAny_Slice (thn (po_none.run pins s1 σ H1 (fun o H2 => o = none ∧ H2 = H1) I1 ⟨rfl, rfl⟩) fun vl s2 ⟨l, H2, I2, pl, el, e2⟩ => ?_)
  subst el e2
  refine thn (po_none.run pins s2 σ H2 (fun o H3 => o = none ∧ H3 = H2) I2 ⟨rfl, rfl⟩) fun vu s3 ⟨u, H3, I3, pu, eu, e3⟩ => ?_
  subst eu e3
  refine thn (hst.run pins s3 σ H3 (fun o H4 => o = some (-1) ∧ H4 = H3) I3 ⟨1, rfl, -1, rfl, rfl, rfl⟩) fun vs s4 ⟨o, H4, I4, ps, eo, e4⟩ => ?_
  subst eo e4
  have I5 : Inv X pins σ H4 { s4 with heap := s4.heap.push { cls := .type "slice", data := .fields #[vl, vu, vs] } } := I4.kept (t' := s4.toks) fun b ob q => Heap.get?_push_of_some _ q
  show wpAny (model X.prog X.w) X.A (subscriptTail e (.Slice none none (some (.UnaryOp .USub (.Constant (.int 1) k p1) p2)) p3) v (.ref s4.heap.objs.size)) (EP X pins σ Q) X.xe { s4 with heap := s4.heap.push { cls := .type "slice", data := .fields #[vl, vu, vs] } }
  rcases q1 with ⟨z, ex, hz, q⟩ | ⟨a, xs, ex, hx, q⟩
  · subst ex
    obtain ⟨t, rfl⟩ := r1
    cases pl
    cases pu
    cases ps with
    | int _ t1 =>
    refine tail_any (ops := [.str ⟨z.toArray⟩ t, .ref s4.heap.objs.size]) (typeIs_str _ _ _) F.slot_str_getitem.lookup ?_ (by with_unfolding_all rfl)
    refine wpAny_getItem_str_slice (l := none) (u := none) (st := some (-1, t1)) ⟨_, Heap.get?_push_size _ rfl, rfl, rfl⟩ rfl ?_
    have hl : (⟨z.toArray⟩ : Str).length = z.length := by simp [Str.length]
    show Made.post (if ((-1 : Int) == 1 && _) = true then Made.val (.str _ t)
      else Made.str ⟨((Builtin.Str.strSliceIndices none none (-1) (⟨z.toArray⟩ : Str).length).filterMap ((z.toArray)[·]?)).toArray⟩) (EP X pins σ Q) _
    rw [if_neg (by simp), hl, rev_ix]
    refine ⟨?_, .str _, H4, I5.tok _, ⟨_, rfl⟩, q⟩
    show z.reverse.toArray.size ≤ sizeLine
    simpa using hz
  · subst ex
    cases r1
    obtain ⟨its, r, ht, hz⟩ := I5.list hx
    have hlen := r.length
    refine tail_any (ops := [.ref a, .ref s4.heap.objs.size]) ht.isList.typeIs (PySem.slot_list_getitem.lookup) ?_ (by with_unfolding_all rfl)
    refine wpAny_getItem_list_slice ht.isList (Heap.IsSliceOf.new _ vl vu vs) pl pu ps (by decide) ?_ (by rw [List.size_toArray]; omega)
    rw [PySem.W.krv_pick]
    refine ⟨.ref _, _, I5.laid (t' := s4.toks) (o := .lst xs.reverse) (fun b ob q => Heap.get?_push_of_some _ q) (Nat.le_refl _) ?_, rfl, q _ (I5.hok.fresh (Nat.le_refl _))⟩
    exact ⟨by rw [List.length_reverse]; exact hz, _, 0, r.reverse, Heap.get?_push_size _ rfl⟩

/-! ### o.m(..) by values: the type is told by P -/
def TyBy (X : L2.Cx) (T : String) (P : V → Hp → Prop) : Prop := ∀ (pins : List (Addr × Obj)) (σ : L2.St) (H : Hp) (s : Shared) (x : V) (v : Value), Inv X pins σ H s → RelV x v → P x H → s.TypeIs v T ∧ ∀ a, v = .ref a → ∃ ob, s.heap.get? a = some ob ∧ ob.dict = none
def tMB (P : V → Hp → Prop) (r : V → List V → Hp → VK → Prop) (to : TE) (t : TA) : TE := fun σ H Q => to σ H fun x H1 => P x H1 ∧ t σ H1 fun xs H2 => r x xs H2 Q
variable {o e : Expr} {es : List Expr} {to : TE} {t : TA} {name : Str} {apos cpos : Pos} {T id : String} {r : V → List V → Hp → VK → Prop} {P : V → Hp → Prop}
theorem pe_mb0 (ty : TyBy X T P) (pa : PlainAttrs T) (slot : Slot T name id) (hty : typeOf (.builtin id) = pure (.type "method_descriptor")) (hm : MtR X id r) (ho : PE X o to)
    (hbase : attributeBase o name X.env (eval o X.env) = eval o X.env) (hline : (apos.endLine == cpos.line) = true) : PE X (.Call (.Attribute o name apos) [] [] cpos) (tMB P r to tNil) := by
  refine ⟨fun pins s σ H Q I h => ?_⟩
  refine wpAny_Call_method0_late hbase hline (thn (ho.run pins s σ H _ I h) fun v s1 ⟨x, H1, I1, r1, tq, q1⟩ => ?_)
  obtain ⟨h1, h2⟩ := ty _ _ _ _ _ _ I1 r1 tq
  exact ⟨T, id, pa, slot, hty, h1, h2, Calls.callWith_builtin rfl (PySem.evalArgs_none (hm pins s1 σ H1 x [] v [] Q I1 r1 .nil q1))⟩
theorem pe_mb (ty : TyBy X T P) (pa : PlainAttrs T) (slot : Slot T name id) (hty : typeOf (.builtin id) = pure (.type "method_descriptor")) (hm : MtR X id r) (ho : PE X o to) (ha : PA X (e :: es) t)
    (hbase : attributeBase o name X.env (eval o X.env) = eval o X.env)
    (hfew : ((backTo cpos (starEach (e :: es) X.env)).all (fun x => !x.1) && (backToKw cpos (keywordEach [] X.env)).all (fun x => x.1.isSome)
      && decide ((e :: es).length + ([] : List Keyword).length + (if ([] : List Keyword).isEmpty then 0 else 1) < 30)) = true)
    (hline : (apos.endLine == cpos.line) = true) (hs : starEach (e :: es) X.env = (false, eval e X.env) :: starEach es X.env) (hplain : (backTo cpos (starEach es X.env)).any (·.1) = false) :
    PE X (.Call (.Attribute o name apos) (e :: es) [] cpos) (tMB P r to t) := by
  refine ⟨fun pins s σ H Q I h => ?_⟩
  refine wpAny_Call_method_late hbase hfew hline rfl (thn (ho.run pins s σ H _ I h) fun v s1 ⟨x, H1, I1, r1, tq, q1⟩ => ?_)
  obtain ⟨h1, h2⟩ := ty _ _ _ _ _ _ I1 r1 tq
  refine ⟨T, id, pa, slot, hty, h1, h2, ?_⟩
  have hA := ha.run cpos pins s1 σ H1 _ I1 q1
  rw [hs] at hA ⊢
  refine Calls.callWith_builtin (by show (false || (backTo cpos (starEach es X.env)).any (·.1)) = false; rw [hplain] <;> rfl) (Calls.evalArgs_plain ?_)
  exact thn hA fun us s2 ⟨vs, H2, I2, r2, q2⟩ => hm pins s2 σ H2 x vs v us Q I2 r1 r2 q2
theorem ty_list : TyBy X "list" (fun x H => ∃ a xs, x = .ref a ∧ H a = some (.lst xs)) := by
  intro pins σ H s x v I rx h
  obtain ⟨a, xs, rfl, h⟩ := h
  exact tyV_is I rx (.inl ⟨rfl, xs, SqL.of h⟩)
theorem ty_dict : TyBy X "dict" (fun x H => ∃ a P w xs, x = .ref a ∧ H a = some (DicO P w a xs)) := by
  intro pins σ H s x v I rx h
  obtain ⟨a, P, w, xs, rfl, h⟩ := h
  cases rx
  obtain ⟨⟨_, o, es, ep, e, ex, _⟩, _⟩ := I.hok a _ h
  refine ⟨⟨o, e, ex.1⟩, fun b e2 => ?_⟩
  cases e2
  exact ⟨o, e, ex.2.1⟩

/-! ### f() -/
theorem pe_callS0 {CX : CXT} {k : Nat} {f : Addr} {fd : FuncData} {ps : List Str} {sp : Sp} {E : L2.St → XK} {x : Str} {p pos : Pos} (F : FnOk X.prog X.w X.K X.mg X.base CX k f fd ps sp) (hr : Room k X.A) (hg : Gl X x) (hm : X.mg x = some (.ref f)) (hk : PySem.W.keepIn X.K (.ref f) = true) (hb : Binds X.K fd ps []) (hx : ∀ σ, PassesAt CX X σ (E σ))
    (hdb : (x == ("__debug__" : Str)) = false) : PE X (.Call (.Name x p) [] [] pos) (tCallS sp E tNil) := by
  refine ⟨fun pins s σ H Q I h => ?_⟩
  refine wpAny_Call_Name_kw (ld_glob I hg hm ?_ hdb)
  exact PySem.W.callWith_K0 I.kIn hk (run_fnS (us := []) F hr hb (hx σ) I .nil h)
theorem takesN {X : L2.Cx} : Takes X (fun _ _ _ _ => False) := fun _ _ x => by
  obtain ⟨_, _, _, _, _, _, _, _, _, _, _, _, _, _, _, _, z⟩ := x
  exact z.elim
end
end EvS

namespace EvS
open PySem PySem.Spec PyProof.Rows L2 Ev

/-- what a def of the table promises -/
def spF (L : Lw) (C : Ev.Ctx) (g : Nat) : Sp := fun vs H Q E => ∃ us μ st, Sim L H μ st ∧ RVs L H μ us vs ∧ RQ L H μ E (C.call g us st) (QV (L := L) Q)
/-- what a lambda promises -/
def CloOk (L : Lw) (k : Nat) (C : Ev.Ctx) : Prop := ∀ (l : Nat) (cs : List Vl) (f : Addr) (A : Around) (outer : List Env) (s : Shared) (H : Hp) (μ : Mu) (st : Sto) (vs : List Vl) (us : List V) (ws : List Value) (Q : VK) (E : XK),
  Room k A → Env0 L.P L.w L.K L.mg L.base A outer s H → Vals us ws → RVs L H μ vs us → RV L H μ (.clo l cs) (.ref f) → Sim L H μ st → RQ L H μ E (C.lam l cs vs st) (QV (L := L) Q) →
  codeAny (model L.P L.w) A (.call (.ref f) ⟨ws, []⟩) (CR (L2.CX L.P L.w) outer L.P L.w H s Q E) s
/-- what a lambda's maker leans on -/
structure LamMk (caps : List Str) (params : Arguments) (scope : Scope) : Prop where
  def_ : ∀ env, defaultsOf params env = ([], [])
  cap : ∀ x ∈ caps, scope.names.lookup x = some .free
  free : ∀ y ∈ scope.names, y.2 = .free → y.1 ∈ caps
/-- what stands around a text at the level k -/
structure CxOk (L : Lw) (M : Nm) (k : Nat) (C : Ev.Ctx) : Prop where
  con : ∀ i v x, C.con i = some v → M.cons[i]? = some x → (x == ("__debug__" : Str)) = false ∧ ∃ u val, L.mg x = some val ∧ RelV u val ∧ ∀ H μ, RV L H μ v u
  fn : ∀ g x, M.fns[g]? = some x → (x == ("__debug__" : Str)) = false ∧ ∃ fd ps, FnOk L.P L.w L.K L.mg L.base (CX L.P L.w) k (L.fa g) fd ps (spF L C g) ∧ L.mg x = some (.ref (L.fa g)) ∧ PySem.W.keepIn L.K (.ref (L.fa g)) = true ∧ Binds L.K fd ps []
  fnV : ∀ g, g < L.T.fns.length → ∃ fd ps, FnOk L.P L.w L.K L.mg L.base (CX L.P L.w) k (L.fa g) fd ps (spF L C g) ∧ PySem.W.keepIn L.K (.ref (L.fa g)) = true ∧ Binds L.K fd ps []
  blt : ∀ n ∈ bnames, L.mg n = none
  lam : CloOk L k C
  lamS : ∀ l caps params body scope, M.lamB l caps params body scope = true → ∃ ps N, L.lamOk l caps ps N params body scope
  lamD : ∀ l caps ps N params body scope, L.lamOk l caps ps N params body scope → LamMk caps params scope
/-- lambdas may be made in X -/
structure MkX (L : Lw) (X : L2.Cx) : Prop where
  tab : ∃ c P, X.env.code = .ref c ∧ LamX.TabB X.base X.mg c P ∧ (P, X.env.qual ++ "<lambda>") ∈ L.tabs ∧ ∀ p ∈ L.tabs, p.1 = P → p.2 = X.env.qual ++ "<lambda>"
  fn : ∀ x, X.fn x = true
structure GdM (L : Lw) (M : Nm) (k : Nat) (X : L2.Cx) : Prop extends Gd L k X where
  mkx : M.lmk = some X.env.scope.names → MkX L X

variable (L : Lw) (M : Nm) (k : Nat) (C : Ev.Ctx)
abbrev GE (e : E) : Prop := ∀ (X : L2.Cx) (W : WX) (pe : Expr), GdM L M k X → Takes X W → chkE M X.N e X.env.scope pe = true → PE X pe (tE L W C e) ∧ (tstB e = true → PT X pe (tT L W C e))
abbrev GEs (es : Es) : Prop := ∀ (X : L2.Cx) (W : WX) (pes : List Expr), GdM L M k X → Takes X W → chkEs M X.N es X.env.scope pes = true →
  PA X pes (tA L W C es) ∧ (pes ≠ [] → ∀ pos, PE X (.BoolOp .And pes pos) (tAnds L W C es) ∧ PE X (.BoolOp .Or pes pos) (tOrs L W C es) ∧ (tstBs es = true → PW X (.BoolOp .And pes pos) (tAndsT L W C es) ∧ PW X (.BoolOp .Or pes pos) (tOrsT L W C es)))
abbrev GPo (o : Po) : Prop := ∀ (X : L2.Cx) (W : WX), GdM L M k X → Takes X W → (∀ pe, chkPo M X.N o X.env.scope pe = true → PO X pe (tPo L W C o)) ∧ ∀ ps, chkPoB M X.N o X.env.scope ps = true → PTs X ps (tPB L W C o)
abbrev GI (i : Ev.It) : Prop := ∀ (X : L2.Cx) (W : WX) (tg pe : Expr), GdM L M k X → Takes X W → chkIt M X.N i X.env.scope tg pe = true → PI X tg pe (tI L W C i) ∧ ∀ x, foldedSetIterable pe X.env x = pure x

variable {L M k C}
section
variable {X : L2.Cx} {W : WX} {pe : Expr}
theorem pt_plain {e : E} (h : PE X pe (tE L W C e)) (hi : ∀ whole, isTrue pe X.env whole = (do let v ← whole; standAt pe.pos; holding [v] (truthy v))) : PT X pe (tT L W C e) :=
  (pt_val h hi).imp fun σ H Q q => tE_tB q
theorem nm_of {N : List Str} {i : Nat} {x : Str} (h : nmB N i x = true) : N[i]? = some x := by
  unfold nmB at h
  split at h
  · rename_i y hy
    rw [hy, of_decide_eq_true h]
  · cases h
theorem vis_of {sc : Scope} {x : Str} (h : visB sc x = true) : Vis sc x := by
  unfold visB at h
  unfold Vis
  split at h <;> first | (rename_i e; exact .inl e) | (rename_i e; exact .inr (.inl e)) | (rename_i e; exact .inr (.inr e)) | cases h
theorem loc_of {sc : Scope} {x : Str} (h : locB sc x = true) : L2.Loc sc x := by
  unfold locB at h
  unfold L2.Loc
  split at h <;> first | (rename_i e; exact .inl e) | (rename_i e; exact .inr e) | cases h
theorem lcl_of {sc : Scope} {x : Str} (h : lclB sc x = true) : sc.names.lookup x = some .local := by
  unfold lclB at h
  split at h <;> first | assumption | cases h
theorem gl_of {x : Str} (h : glB X.env.scope x = true) : Gl X x := by
  unfold glB at h
  split at h <;> first | assumption | cases h
theorem isB_of {n : String} {x : Str} (h : isB X.env.scope n x = true) : x = Str.ofString n ∧ Gl X x := by
  unfold isB at h
  rw [Bool.and_eq_true] at h
  exact ⟨of_decide_eq_true h.1, gl_of h.2⟩
theorem Gd.var (g : Gd L k X) {i : Nat} {x : Str} (h : nmB X.N i x = true) : X.N[i]? = some x ∧ (x == ("__debug__" : Str)) = false ∧ (x == ("__classdict__" : Str)) = false :=
  ⟨nm_of h, g.nb x (List.mem_of_getElem? (nm_of h))⟩

theorem ge_cst (d : D) : GE L M k C (.cst d) := by
  intro X W pe g tk h
  cases pe with
  | Constant c j pos =>
    have h : conB d c = true := h
    have key : ∀ v : V, (∀ H, RD L.K H d v) → PE X (.Constant c j pos) (tC v) → PE X (.Constant c j pos) (tE L W C (.cst d)) := fun v r p => p.imp fun σ H Q q => by
      obtain ⟨ρ, μ, st, S, n, q⟩ := q
      exact (gd_of S q).val (r H)
    have main : PE X (.Constant c j pos) (tE L W C (.cst d)) := by
      unfold conB at h
      split at h
      · exact key .non (fun _ => rfl) pe_non
      · rename_i a b
        have e := eq_of_beq h
        subst e
        exact key (.bl _) (fun _ => rfl) pe_bl
      · rename_i a b
        have e := eq_of_beq h
        subst e
        exact key (.int _) (fun _ => rfl) pe_int
      · rename_i b z
        rw [Bool.and_eq_true, Bool.and_eq_true] at h
        have e := of_decide_eq_true h.1.1
        subst e
        exact key (.str _) (fun _ => ⟨rfl, of_decide_eq_true h.1.2, fun c hc => of_decide_eq_true (List.all_eq_true.mp h.2 c hc)⟩) pe_str
      · cases h
    exact ⟨main, fun _ => pt_plain main (by intro _; rfl)⟩
  | _ => cases h
theorem ge_var (i : Nat) : GE L M k C (.var i) := by
  intro X W pe g tk h
  cases pe with
  | Name x pos =>
    have h : (nmB X.N i x && visB X.env.scope x) = true := h
    rw [Bool.and_eq_true] at h
    obtain ⟨h1, h2, h3⟩ := g.var h.1
    have main : PE X (.Name x pos) (tE L W C (.var i)) := (pe_var h1 (vis_of h.2) h2 h3).imp fun σ H Q q => by
      obtain ⟨ρ, μ, st, S, n, q⟩ := q
      unfold evE at q
      split at q
      · rename_i v hv
        obtain ⟨u, hu, r⟩ := n.2 i v (En.get_some hv)
        exact ⟨u, hu, q.ok S u r⟩
      · exact q.elim
    exact ⟨main, fun _ => pt_plain main (by intro _; rfl)⟩
  | _ => cases h
theorem ge_frz (i : Nat) : GE L M k C (.frz i) := by
  intro X W pe g tk h
  cases pe with
  | Name x pos =>
    have h : (nmB X.N i x && visB X.env.scope x) = true := h
    rw [Bool.and_eq_true] at h
    obtain ⟨h1, h2, h3⟩ := g.var h.1
    have main : PE X (.Name x pos) (tE L W C (.frz i)) := (PE.lk (pe_var h1 (vis_of h.2) h2 h3)).imp fun σ H Q q => by
      obtain ⟨ρ, μ, st, S, n, q⟩ := q
      unfold evE at q
      split at q
      · rename_i r hv
        split at q
        · rename_i xs hr
          obtain ⟨u, hu, rv⟩ := n.2 i _ (En.get_some hv)
          obtain ⟨a, vs, rfl, e1, e2, e3, e4⟩ := lst_cell S rv hr
          refine ⟨_, hu, .inr ⟨a, _, rfl, e2, trivial, fun od => ?_⟩⟩
          have ex : Ext H μ (upd H a (.frz od (.lst vs))) μ := Ext.put S e1 e2 trivial
          exact q _ _ ex (S.put e1 e2 trivial trivial ⟨a, od, vs, e1, upd_same, e3, e4.ext ex⟩) _ ⟨a, vs, rfl, .inl ⟨od, upd_same⟩, e3, e4.ext ex⟩
        · rename_i xs hr
          obtain ⟨u, hu, rv⟩ := n.2 i _ (En.get_some hv)
          exact ⟨u, hu, .inl (q.ok S u (fz_cell S rv hr))⟩
        · exact q.elim
      · exact q.elim
    exact ⟨main, fun _ => pt_plain main (by intro _; rfl)⟩
  | _ => cases h
theorem ge_glo (hC : CxOk L M k C) (i : Nat) : GE L M k C (.glo i) := by
  intro X W pe g tk h
  cases pe with
  | Name x pos =>
    have h : (nmB M.cons i x && glB X.env.scope x) = true := h
    rw [Bool.and_eq_true] at h
    have main : PE X (.Name x pos) (tE L W C (.glo i)) := by
      cases q : C.con i with
      | none =>
        refine ⟨fun pins s σ H Q I z => ?_⟩
        obtain ⟨ρ, μ, st, S, n, z⟩ := z
        unfold evE at z
        rw [q] at z
        exact z.elim
      | some v =>
        obtain ⟨hd, u, val, e1, e2, e3⟩ := hC.con i v x q (nm_of h.1)
        refine (pe_glob (gl_of h.2) (by rw [g.mg]; exact e1) e2 hd).imp fun σ H Q z => ?_
        obtain ⟨ρ, μ, st, S, n, z⟩ := z
        unfold evE at z
        rw [q] at z
        exact z.ok S u (e3 _ _)
    exact ⟨main, fun _ => pt_plain main (by intro _; rfl)⟩
  | _ => cases h
theorem ge_tup {es : Es} (ih : GEs L M k C es) : GE L M k C (.tup es) := by
  intro X W pe g tk h
  cases pe with
  | Tuple l x1 pos =>
    have h : (chkEs M X.N es X.env.scope l && decide (l.length ≤ 1000)) = true := h
    rw [Bool.and_eq_true] at h
    have main : PE X (.Tuple l x1 pos) (tE L W C (.tup es)) := (pe_tup (ih X W l g tk h.1).1).imp fun σ H Q z => by
      obtain ⟨ρ, μ, st, S, n, z⟩ := z
      refine tA_bindL S n z fun u x st' H' μ' hl e S' n' r z => ?_
      obtain ⟨xs, e1, z⟩ := onD_cases z
      have rd := r.dats e1
      have ll : xs.length ≤ line := by
        rw [datVs_len e1, hl, ← chk_len h.1]
        exact Nat.le_trans (of_decide_eq_true h.2) (by decide)
      exact ⟨len_vs rd ll, fun p hp => (gd_of S' z).tup ll rd hp⟩
    exact ⟨main, fun _ => pt_plain main (by intro _; rfl)⟩
  | _ => cases h
theorem ge_lst {es : Es} (ih : GEs L M k C es) : GE L M k C (.lst es) := by
  intro X W pe g tk h
  cases pe with
  | List l pos =>
    have h : (chkEs M X.N es X.env.scope l && decide (l.length ≤ 1000)) = true := h
    rw [Bool.and_eq_true] at h
    have main : PE X (.List l pos) (tE L W C (.lst es)) := (PE.lk (pe_lst (ih X W l g tk h.1).1)).imp fun σ H Q z => by
      obtain ⟨ρ, μ, st, S, n, z⟩ := z
      refine tA_bindL S n z fun u x st' H' μ' hl e S' n' r z => ?_
      obtain ⟨xs, e1, z⟩ := onD_cases z
      have rd := r.dats e1
      have ll : xs.length ≤ line := by
        rw [datVs_len e1, hl, ← chk_len h.1]
        exact Nat.le_trans (of_decide_eq_true h.2) (by decide)
      exact ⟨len_vs rd ll, fun p hp => (gd_of S' z).lst ll rd hp⟩
    exact ⟨main, fun _ => pt_plain main (by intro _; rfl)⟩
  | _ => cases h
theorem ge_new {es : Es} (ih : GEs L M k C es) : GE L M k C (.new es) := by
  intro X W pe g tk h
  cases pe with
  | List l pos =>
    have h : (chkEs M X.N es X.env.scope l && decide (l.length ≤ 1000)) = true := h
    rw [Bool.and_eq_true] at h
    have main : PE X (.List l pos) (tE L W C (.new es)) := (pe_lst (ih X W l g tk h.1).1).imp fun σ H Q z => by
      obtain ⟨ρ, μ, st, S, n, z⟩ := z
      refine tA_bindL S n z fun u x st' H' μ' hl e S' n' r z => ?_
      obtain ⟨xs, e1, z⟩ := onD_cases z
      have rd := r.dats e1
      have ll : xs.length ≤ line := by
        rw [datVs_len e1, hl, ← chk_len h.1]
        exact Nat.le_trans (of_decide_eq_true h.2) (by decide)
      refine ⟨len_vs rd ll, fun p hp => ?_⟩
      have ex : Ext H' μ' (upd H' p (.lst x)) (μ' ++ [some p]) := Ext.new hp
      refine z _ _ ex (S'.new hp trivial ⟨p, x, by simp, upd_same, ll, rd.ext ex⟩) _ ⟨?_, fun a ha => ?_, p, rfl⟩
      · rw [List.length_append, S'.len]
        exact Nat.lt_succ_self _
      · rw [← S'.len] at ha
        simp at ha
        rw [ha]
    exact ⟨main, fun _ => pt_plain main (by intro _; rfl)⟩
  | _ => cases h
theorem opB_of {o : Op} {po : Operator} (h : opB o po = true) : po = pyOp o := by
  cases o <;> cases po <;> first | rfl | cases h
theorem copB_of {o : Cop} {po : CmpOp} (h : copB o po = true) : po = pyCop o := by
  cases o <;> cases po <;> first | rfl | cases h
theorem ge_bin {o : Op} {a b : E} (ha : GE L M k C a) (hb : GE L M k C b) : GE L M k C (.bin o a b) := by
  intro X W pe g tk h
  cases pe with
  | BinOp pa po pb pos =>
    have h : (opB o po && chkE M X.N a X.env.scope pa && chkE M X.N b X.env.scope pb) = true := h
    rw [Bool.and_eq_true, Bool.and_eq_true] at h
    have e := opB_of h.1.1
    subst e
    have main : PE X (.BinOp pa (pyOp o) pb pos) (tE L W C (.bin o a b)) := (pe_op (opR_D o) (ha X W pa g tk h.1.2).1 (hb X W pb g tk h.2).1).imp fun σ H Q z => by
      obtain ⟨ρ, μ, st, S, n, z⟩ := z
      refine tE_bind S n z fun u x st' H' μ' e S' n' r z => ?_
      refine tE_bind S' n' z fun v y st2 H2 μ2 e2 S2 n2 r2 z => ?_
      obtain ⟨c, e3, z⟩ := onD_cases z
      obtain ⟨d, e4, z⟩ := onD_cases z
      obtain ⟨w, e5, z⟩ := ofO_cases z
      have q1 := rawV_rw S2 (r.ext e2) e3
      have q2 := rawV_rw S2 r2 e4
      have q3 := gd_of S2 z
      rw [← g.K] at q1 q2 q3
      exact ⟨c, d, w, q1, q2, e5, q3⟩
    exact ⟨main, fun _ => pt_plain main (by intro _; rfl)⟩
  | _ => cases h
theorem ge_neg {a : E} (ha : GE L M k C a) : GE L M k C (.neg a) := by
  intro X W pe g tk h
  cases pe with
  | UnaryOp po pa pos =>
    cases po with
    | USub =>
      have h : chkE M X.N a X.env.scope pa = true := h
      have main : PE X (.UnaryOp .USub pa pos) (tE L W C (.neg a)) := (pe_un un_neg (ha X W pa g tk h).1).imp fun σ H Q z => by
        obtain ⟨ρ, μ, st, S, n, z⟩ := z
        refine tE_bind S n z fun u x st' H' μ' e S' n' r z => ?_
        split at z
        · rename_i i
          obtain rfl : x = .int i := r
          exact ⟨i, rfl, (gd_of S' z).val rfl⟩
        · exact z.elim
      exact ⟨main, fun _ => pt_plain main (by intro _; rfl)⟩
    | _ => cases h
  | _ => cases h
/-- comparisons by values -/
def rCmpV (L : Lw) (o : Cop) : R2 := fun x y H Q => ∃ (E : XK) (u v : Vl) (μ : Mu) (st : Sto), Sim L H μ st ∧ RV L H μ u x ∧ RV L H μ v y ∧ RQ L H μ E (cmpV o u v st) (QV (L := L) Q)
theorem cmpR_ok (g : Gd L k X) (o : Cop) : OpR X (compareOp (pyCop o)) (rCmpV L o) := by
  intro pins s σ H x y v u Q I rx ry h
  obtain ⟨E, a, b, μ, st, S, h1, h2, h3⟩ := h
  exact cmp_ok g o I S h1 h2 rx ry h3
theorem ge_cmp {o : Cop} {a b : E} (ha : GE L M k C a) (hb : GE L M k C b) : GE L M k C (.cmp o a b) := by
  intro X W pe g tk h
  cases pe with
  | Compare pa pos pbs pp =>
    cases pos with
    | nil => cases h
    | cons po r1 =>
      cases r1 with
      | cons _ _ => cases h
      | nil =>
        cases pbs with
        | nil => cases h
        | cons pb r2 =>
          cases r2 with
          | cons _ _ => cases h
          | nil =>
            have h : (copB o po && chkE M X.N a X.env.scope pa && chkE M X.N b X.env.scope pb) = true := h
            rw [Bool.and_eq_true, Bool.and_eq_true] at h
            have e := copB_of h.1.1
            subst e
            refine ⟨(pe_cmpR (cmpR_ok g.toGd o) (ha X W pa g tk h.1.2).1 (hb X W pb g tk h.2).1 (chk_mark _ h.2)).imp fun σ H Q z => ?_, fun _ => (pt_cmpR (cmpR_ok g.toGd o) (ha X W pa g tk h.1.2).1 (hb X W pb g tk h.2).1 (chk_mark _ h.2)).imp fun σ H Q z => ?_⟩
            · obtain ⟨ρ, μ, st, S, n, z⟩ := z
              refine tE_bind S n z fun u x st' H' μ' e S' n' r z => ?_
              refine tE_bind S' n' z fun v y st2 H2 μ2 e2 S2 n2 r2 z => ?_
              exact ⟨_, u, v, μ2, st2, S2, r.ext e2, r2, z⟩
            · obtain ⟨ρ, μ, st, S, n, z⟩ := z
              refine tE_bind S n z fun u x st' H' μ' e S' n' r z => ?_
              refine tE_bind S' n' z fun v y st2 H2 μ2 e2 S2 n2 r2 z => ?_
              refine ⟨_, u, v, μ2, st2, S2, r.ext e2, r2, z.mono fun w s3 H3 μ3 _ _ q t ht => ?_⟩
              obtain ⟨b, rfl, q⟩ := q
              exact ⟨b, ht, q⟩
  | _ => cases h
theorem chain_go {o o' : Cop} {a b c : E} {σ : L2.St} {H : Hp} {Q : VK} (z : tE L W C (.chain o o' a b c) σ H Q) : tChain (rCmpV L o) (rCmpV L o') (tE L W C a) (tE L W C b) (tE L W C c) σ H Q := by
  obtain ⟨ρ, μ, st, S, n, z⟩ := z
  refine tE_bind S n z fun u x st' H' μ' e S' n' r z => ?_
  refine tE_bind S' n' z fun v y st2 H2 μ2 e2 S2 n2 r2 z => ?_
  refine ⟨_, u, v, μ2, st2, S2, r.ext e2, r2, z.bind.mono fun w s3 H3 μ3 e3 S3 q t ht => ?_⟩
  obtain ⟨d, ed, q2⟩ := onB_cases q
  clear q
  subst ed
  refine ⟨d, ht, ?_⟩
  cases d with
  | false => exact (gd_of S3 q2).val rfl
  | true =>
    rw [if_pos rfl] at q2 ⊢
    refine tE_bind S3 (n2.ext e3) q2 fun w y4 st4 H4 μ4 e4 S4 n4 r4 z => ?_
    exact ⟨_, v, w, μ4, st4, S4, (r2.ext e3).ext e4, r4, z⟩
theorem ge_chain {o o' : Cop} {a b c : E} (ha : GE L M k C a) (hb : GE L M k C b) (hc : GE L M k C c) : GE L M k C (.chain o o' a b c) := by
  intro X W pe g tk h
  cases pe with
  | Compare pa pos pbs pp =>
    cases pos with
    | nil => cases h
    | cons po r1 =>
      cases r1 with
      | nil => cases h
      | cons po' r1 =>
        cases r1 with
        | cons _ _ => cases h
        | nil =>
          cases pbs with
          | nil => cases h
          | cons pb r2 =>
            cases r2 with
            | nil => cases h
            | cons pc r2 =>
              cases r2 with
              | cons _ _ => cases h
              | nil =>
                have h : (copB o po && copB o' po' && chkE M X.N a X.env.scope pa && chkE M X.N b X.env.scope pb && chkE M X.N c X.env.scope pc) = true := h
                simp only [Bool.and_eq_true] at h
                obtain ⟨⟨⟨⟨h1, h2⟩, h3⟩, h4⟩, h5⟩ := h
                have e := copB_of h1
                subst e
                have e := copB_of h2
                subst e
                refine ⟨(pe_chain (cmpR_ok g.toGd o) (cmpR_ok g.toGd o') (ha X W pa g tk h3).1 (hb X W pb g tk h4).1 (hc X W pc g tk h5).1 (chk_marks _ _ h5)).imp fun σ H Q z => chain_go z,
                  fun _ => (pt_chain (cmpR_ok g.toGd o) (cmpR_ok g.toGd o') (ha X W pa g tk h3).1 (hb X W pb g tk h4).1 (hc X W pc g tk h5).1 (chk_marks _ _ h5)).imp fun σ H Q z => chain_go ?_⟩
                obtain ⟨ρ, μ, st, S, n, z⟩ := z
                refine ⟨ρ, μ, st, S, n, z.mono fun w s3 H3 μ3 _ _ q t ht => ?_⟩
                obtain ⟨b, rfl, q⟩ := q
                exact ⟨b, ht, q⟩
  | _ => cases h
theorem rv_none {H : Hp} {μ : Mu} {v : Vl} {x : V} (h : RV L H μ v x) : noneV v = decide (x = .non) := by
  cases v with
  | d y =>
    cases y with
    | non => obtain rfl : x = .non := h; rfl
    | bl b => obtain rfl : x = .bl b := h; rfl
    | int b => obtain rfl : x = .int b := h; rfl
    | str b => obtain ⟨rfl, _⟩ := h; rfl
    | tup b => obtain ⟨a, vs, rfl, _⟩ := h; rfl
    | lst b => obtain ⟨a, vs, rfl, _⟩ := h; rfl
  | fn g => obtain ⟨_, rfl⟩ := h; rfl
  | clo l cs => obtain ⟨f, o, cl, _, rfl, _⟩ := h; rfl
  | ref r => obtain ⟨_, _, a, rfl⟩ := h; rfl
  | dct kvs => obtain ⟨a, o, rfl, _⟩ := h; rfl
theorem ge_isN {a : E} (ha : GE L M k C a) : GE L M k C (.isN a) := by
  intro X W pe g tk h
  have key : ∀ {pa : Expr} {σ : L2.St} {H : Hp} {Q : VK}, tE L W C (.isN a) σ H Q → tIsN (tE L W C a) σ H Q := fun {pa σ H Q} z => by
    obtain ⟨ρ, μ, st, S, n, z⟩ := z
    refine tE_bind S n z fun u x st' H' μ' e S' n' r z => ?_
    rw [← rv_none r]
    exact (gd_of S' z).val rfl
  unfold chkE at h
  split at h
  · rename_i pa j p2 pos
    have p := pc_isN (X := X) (j := j) (pos' := p2) (ha X W pa g tk h).1
    exact ⟨(pe_cmp p).imp fun σ H Q z => key (pa := pa) z, fun _ => (pt_cmp p).imp fun σ H Q z => key (pa := pa) (tE_tB z)⟩
  · cases h
theorem ge_notN {a : E} (ha : GE L M k C a) : GE L M k C (.notN a) := by
  intro X W pe g tk h
  have key : ∀ {pa : Expr} {σ : L2.St} {H : Hp} {Q : VK}, tE L W C (.notN a) σ H Q → tNotN (tE L W C a) σ H Q := fun {pa σ H Q} z => by
    obtain ⟨ρ, μ, st, S, n, z⟩ := z
    refine tE_bind S n z fun u x st' H' μ' e S' n' r z => ?_
    rw [← rv_none r]
    exact (gd_of S' z).val rfl
  unfold chkE at h
  split at h
  · rename_i pa j p2 pos
    have p := pc_notN (X := X) (j := j) (pos' := p2) (ha X W pa g tk h).1
    exact ⟨(pe_cmp p).imp fun σ H Q z => key (pa := pa) z, fun _ => (pt_cmp p).imp fun σ H Q z => key (pa := pa) (tE_tB z)⟩
  · cases h
end
end EvS

namespace EvS
open PySem PySem.Spec PyProof.Rows L2 Ev
variable {L : Lw} {M : Nm} {k : Nat} {C : Ev.Ctx}
section
variable {X : L2.Cx} {W : WX} {pe : Expr}
theorem gEs_nil : GEs L M k C .nil := by
  intro X W pes g tk h
  cases pes with
  | nil =>
    refine ⟨pa_nil.imp fun σ H Q z => ?_, fun z => absurd rfl z⟩
    obtain ⟨ρ, μ, st, S, n, z⟩ := z
    exact z.ok S [] rfl
  | cons _ _ => cases h
theorem gEs_cons {e : E} {es : Es} (he : GE L M k C e) (hs : GEs L M k C es) : GEs L M k C (.cons e es) := by
  intro X W pes g tk h
  cases pes with
  | nil => cases h
  | cons p r =>
    have h : (chkE M X.N e X.env.scope p && chkEs M X.N es X.env.scope r) = true := h
    rw [Bool.and_eq_true] at h
    obtain ⟨p1, p2⟩ := he X W p g tk h.1
    obtain ⟨q1, q2⟩ := hs X W r g tk h.2
    refine ⟨(pa_cons p1 q1 (chk_star h.1)).imp fun σ H Q z => ?_, fun _ pos => ?_⟩
    · obtain ⟨ρ, μ, st, S, n, z⟩ := z
      refine tE_bind S n z fun u x st' H' μ' e S' n' r z => ?_
      refine tA_bind S' n' z fun v y st2 H2 μ2 e2 S2 n2 r2 z => ?_
      exact z.ok S2 _ ⟨x, y, rfl, r.ext e2, r2⟩
    · cases r with
      | nil =>
        have en : es = .nil := by
          cases es with
          | nil => rfl
          | cons _ _ => cases h.2
        subst en
        refine ⟨(pe_one p1).imp fun σ H Q z => z, (pe_one p1).imp fun σ H Q z => z, fun ht => ?_⟩
        have ht : (tstB e && tstBs .nil) = true := ht
        rw [Bool.and_eq_true] at ht
        exact ⟨(pw_and1 (p2 ht.1)).imp fun σ H Q z => z, (pw_or1 (p2 ht.1)).imp fun σ H Q z => z⟩
      | cons p' r =>
        cases es with
        | nil => cases h.2
        | cons e' es =>
          obtain ⟨a1, a2, a3⟩ := q2 (by simp) pos
          refine ⟨(pe_and p1 a1).imp fun σ H Q z => ?_, (pe_or p1 a2).imp fun σ H Q z => ?_, fun ht => ?_⟩
          · obtain ⟨ρ, μ, st, S, n, z⟩ := z
            refine tE_bind S n z fun u x st' H' μ' e S' n' r z => ?_
            obtain ⟨b, eb, z2⟩ := onB_cases z
            subst eb
            refine ⟨b, r, ?_⟩
            cases b with
            | true => exact ⟨ρ, μ', st', S', n', z2⟩
            | false => exact (gd_of S' z2).val rfl
          · obtain ⟨ρ, μ, st, S, n, z⟩ := z
            refine tE_bind S n z fun u x st' H' μ' e S' n' r z => ?_
            obtain ⟨b, eb, z2⟩ := onB_cases z
            subst eb
            refine ⟨b, r, ?_⟩
            cases b with
            | false => exact ⟨ρ, μ', st', S', n', z2⟩
            | true => exact (gd_of S' z2).val rfl
          · have ht : (tstB e && tstBs (.cons e' es)) = true := ht
            rw [Bool.and_eq_true] at ht
            obtain ⟨w1, w2⟩ := a3 ht.2
            refine ⟨(pw_and (p2 ht.1) w1).imp fun σ H Q z => ?_, (pw_or (p2 ht.1) w2).imp fun σ H Q z => ?_⟩
            · obtain ⟨ρ, μ, st, S, n, z⟩ := z
              refine ⟨ρ, μ, st, S, n, z.bind.mono fun a st' H' μ' ex S' q => ?_⟩
              obtain ⟨b, eb, z2⟩ := onB_cases q
              refine ⟨b, eb, ?_⟩
              cases b with
              | true => exact ⟨ρ, μ', st', S', n.ext ex, z2⟩
              | false =>
                obtain ⟨b, e3, q⟩ := z2.ok S'
                cases e3
                exact q
            · obtain ⟨ρ, μ, st, S, n, z⟩ := z
              refine ⟨ρ, μ, st, S, n, z.bind.mono fun a st' H' μ' ex S' q => ?_⟩
              obtain ⟨b, eb, z2⟩ := onB_cases q
              refine ⟨b, eb, ?_⟩
              cases b with
              | false => exact ⟨ρ, μ', st', S', n.ext ex, z2⟩
              | true =>
                obtain ⟨b, e3, q⟩ := z2.ok S'
                cases e3
                exact q
theorem ge_and {a : E} {es : Es} (ha : GE L M k C a) (hs : GEs L M k C es) : GE L M k C (.and a es) := by
  intro X W pe g tk h
  unfold chkE at h
  split at h
  · rename_i pa pb l pos
    rw [Bool.and_eq_true] at h
    obtain ⟨p1, p2⟩ := ha X W pa g tk h.1
    obtain ⟨_, q2⟩ := hs X W _ g tk h.2
    obtain ⟨a1, a2, a3⟩ := q2 (by simp) pos
    refine ⟨(pe_and p1 a1).imp fun σ H Q z => ?_, fun ht => ((pw_and (p2 (by
      have ht : (tstB a && tstBs es) = true := ht
      rw [Bool.and_eq_true] at ht
      exact ht.1)) (a3 (by
      have ht : (tstB a && tstBs es) = true := ht
      rw [Bool.and_eq_true] at ht
      exact ht.2)).1).imp fun σ H Q z => ?_).pt⟩
    · obtain ⟨ρ, μ, st, S, n, z⟩ := z
      refine tE_bind S n z fun u x st' H' μ' e S' n' r z => ?_
      obtain ⟨b, eb, z2⟩ := onB_cases z
      subst eb
      refine ⟨b, r, ?_⟩
      cases b with
      | true => exact ⟨ρ, μ', st', S', n', z2⟩
      | false => exact (gd_of S' z2).val rfl
    · obtain ⟨ρ, μ, st, S, n, z⟩ := z
      refine ⟨ρ, μ, st, S, n, z.bind.mono fun a st' H' μ' ex S' q => ?_⟩
      obtain ⟨b, eb, z2⟩ := onB_cases q
      refine ⟨b, eb, ?_⟩
      cases b with
      | true => exact ⟨ρ, μ', st', S', n.ext ex, z2⟩
      | false =>
        obtain ⟨b, e3, q⟩ := z2.ok S'
        cases e3
        exact q
  · cases h
theorem ge_or {a : E} {es : Es} (ha : GE L M k C a) (hs : GEs L M k C es) : GE L M k C (.or a es) := by
  intro X W pe g tk h
  unfold chkE at h
  split at h
  · rename_i pa pb l pos
    rw [Bool.and_eq_true] at h
    obtain ⟨p1, p2⟩ := ha X W pa g tk h.1
    obtain ⟨_, q2⟩ := hs X W _ g tk h.2
    obtain ⟨a1, a2, a3⟩ := q2 (by simp) pos
    refine ⟨(pe_or p1 a2).imp fun σ H Q z => ?_, fun ht => ((pw_or (p2 (by
      have ht : (tstB a && tstBs es) = true := ht
      rw [Bool.and_eq_true] at ht
      exact ht.1)) (a3 (by
      have ht : (tstB a && tstBs es) = true := ht
      rw [Bool.and_eq_true] at ht
      exact ht.2)).2).imp fun σ H Q z => ?_).pt⟩
    · obtain ⟨ρ, μ, st, S, n, z⟩ := z
      refine tE_bind S n z fun u x st' H' μ' e S' n' r z => ?_
      obtain ⟨b, eb, z2⟩ := onB_cases z
      subst eb
      refine ⟨b, r, ?_⟩
      cases b with
      | false => exact ⟨ρ, μ', st', S', n', z2⟩
      | true => exact (gd_of S' z2).val rfl
    · obtain ⟨ρ, μ, st, S, n, z⟩ := z
      refine ⟨ρ, μ, st, S, n, z.bind.mono fun a st' H' μ' ex S' q => ?_⟩
      obtain ⟨b, eb, z2⟩ := onB_cases q
      refine ⟨b, eb, ?_⟩
      cases b with
      | false => exact ⟨ρ, μ', st', S', n.ext ex, z2⟩
      | true =>
        obtain ⟨b, e3, q⟩ := z2.ok S'
        cases e3
        exact q
  · cases h
theorem ge_not {a : E} (ha : GE L M k C a) : GE L M k C (.not a) := by
  intro X W pe g tk h
  unfold chkE at h
  split at h
  · rename_i pa pos
    obtain ⟨p1, p2⟩ := ha X W pa g tk h
    refine ⟨(pe_not p1).imp fun σ H Q z => ?_, fun ht => (pt_not (p2 ht)).imp fun σ H Q z => ?_⟩
    · obtain ⟨ρ, μ, st, S, n, z⟩ := z
      refine tE_bind S n z fun u x st' H' μ' e S' n' r z => ?_
      split at z
      · rename_i b
        exact ⟨b, r, (gd_of S' z).val rfl⟩
      · exact z.elim
    · obtain ⟨ρ, μ, st, S, n, z⟩ := z
      refine ⟨ρ, μ, st, S, n, z.bind.mono fun a st' H' μ' ex S' q => ?_⟩
      split at q
      · rename_i b
        obtain ⟨c, e3, q⟩ := q.ok S'
        cases e3
        exact ⟨b, rfl, q⟩
      · exact q.elim
  · cases h
theorem ge_ife {c a b : E} (hc : GE L M k C c) (ha : GE L M k C a) (hb : GE L M k C b) : GE L M k C (.ife c a b) := by
  intro X W pe g tk h
  cases pe with
  | IfExp pc pa pb pos =>
    have h : (tstB c && chkE M X.N c X.env.scope pc && chkE M X.N a X.env.scope pa && chkE M X.N b X.env.scope pb) = true := h
    simp only [Bool.and_eq_true] at h
    obtain ⟨⟨⟨h1, h2⟩, h3⟩, h4⟩ := h
    refine ⟨(pe_ifExp ((hc X W pc g tk h2).2 h1) (ha X W pa g tk h3).1 (hb X W pb g tk h4).1).imp fun σ H Q z => ?_, fun ht => by cases ht⟩
    obtain ⟨ρ, μ, st, S, n, z⟩ := z
    refine tT_bind (t := fun st => evE C a ρ st) (f := fun st => evE C b ρ st) S n z fun d st' H' μ' e S' n' z => ?_
    cases d with
    | true => exact ⟨ρ, μ', st', S', n', z⟩
    | false => exact ⟨ρ, μ', st', S', n', z⟩
  | _ => cases h
theorem IxR.ex {r : XK → R2} (h : ∀ E, IxR X (r E)) : IxR X (fun x y H Q => ∃ E, r E x y H Q) := by
  intro value slice pins s σ H x y v u Q I rx ry q hs
  obtain ⟨E, q⟩ := q
  exact h E value slice pins s σ H x y v u Q I rx ry q hs
theorem MtR.ex {id : String} {r : XK → V → List V → Hp → VK → Prop} (h : ∀ E, MtR X id (r E)) : MtR X id (fun x y H Q => ∃ E, r E x y H Q) := by
  intro pins s σ H x xs v us Q I rx rs q
  obtain ⟨E, q⟩ := q
  exact h E pins s σ H x xs v us Q I rx rs q
theorem CallR.ex {f : Value} {r : XK → List V → Hp → VK → Prop} (h : ∀ E, CallR X f (r E)) : CallR X f (fun x H Q => ∃ E, r E x H Q) := by
  intro pins s σ H xs us Q I rs q
  obtain ⟨E, q⟩ := q
  exact h E pins s σ H xs us Q I rs q
theorem ge_idx {a b : E} (ha : GE L M k C a) (hb : GE L M k C b) : GE L M k C (.idx a b) := by
  intro X W pe g tk h
  cases pe with
  | Subscript pa pb pos =>
    have h : (chkE M X.N a X.env.scope pa && chkE M X.N b X.env.scope pb) = true := h
    rw [Bool.and_eq_true] at h
    have main : PE X (.Subscript pa pb pos) (tE L W C (.idx a b)) := (pe_ix (IxR.ex fun E => ix_ok (E := E) g.toGd) (ha X W pa g tk h.1).1 (hb X W pb g tk h.2).1 (chk_ix h.2)).imp fun σ H Q z => by
      obtain ⟨ρ, μ, st, S, n, z⟩ := z
      refine tE_bind S n z fun u x st' H' μ' e S' n' r z => ?_
      refine tE_bind S' n' z fun v y st2 H2 μ2 e2 S2 n2 r2 z => ?_
      exact ⟨_, u, v, μ2, st2, S2, r.ext e2, r2, z⟩
    exact ⟨main, fun _ => pt_plain main (by intro _; rfl)⟩
  | _ => cases h
/-- a slice of data -/
def rSlD (K : PySem.W.Frag) : V → Option Int → Option Int → Hp → VK → Prop := fun x lo hi H Q => ∃ a z, RW K H a x ∧ Ev.cutD a lo hi = some z ∧ GD K H z Q
theorem sIx_same (n d : Nat) (o : Option Int) : Ev.sIx n d o = HT.sIx n d o := by
  cases o with
  | none => rfl
  | some i =>
    show (if 0 ≤ i then min i.toNat n else (i + n).toNat) = if i < 0 then (i + n).toNat else min i.toNat n
    by_cases h : 0 ≤ i
    · rw [if_pos h, if_neg (by omega)]
    · rw [if_neg h, if_pos (by omega)]
theorem cut_rd {K : PySem.W.Frag} {H : Hp} {xs : List D} {vs : List V} {lo hi : Option Int} (r : RDs K H xs vs) : RDs K H (cut xs lo hi) (cutV vs lo hi) := by
  unfold cut cutV
  rw [r.len, sIx_same, sIx_same]
  exact (r.drop _).take _
theorem cut_le {α : Type} (xs : List α) (lo hi : Option Int) : (cut xs lo hi).length ≤ xs.length := by
  unfold cut
  rw [List.length_take, List.length_drop]
  omega
theorem slR_D : SlR X (rSlD X.K) := by
  intro pins s σ H x v vl vu lo hi sl Q I rx hs pl pu h
  obtain ⟨a, z, ra, hz, q⟩ := h
  unfold Ev.cutD at hz
  split at hz
  · rename_i t
    cases hz
    obtain ⟨rfl, l1, c1⟩ := ra.str
    refine sl_str pins s σ H _ v vl vu lo hi sl Q I rx hs pl pu ⟨_, rfl, by rw [str_len, ← line_eq]; exact l1, ?_⟩
    have e : cutS ⟨t.toArray⟩ lo hi = ⟨(cut t lo hi).toArray⟩ := by
      unfold cutS cut
      rw [str_len, sIx_same, sIx_same]
    rw [e]
    exact q.val ⟨rfl, Nat.le_trans (cut_le _ _ _) l1, fun c hc => c1 c (List.mem_of_mem_drop (List.mem_of_mem_take hc))⟩
  · rename_i xs
    cases hz
    obtain ⟨p, vs, rfl, h1, l1, r1⟩ := ra.tup
    refine sl_tupA pins s σ H _ v vl vu lo hi sl Q I rx hs pl pu ⟨p, vs, rfl, h1, fun hw => ?_, fun hw p3 hp => ?_⟩
    · have e : cut xs lo hi = xs := by
        unfold cut
        rw [sIx_same, sIx_same, ← r1.len, hw.1, hw.2, List.drop_zero, Nat.sub_zero, r1.len, List.take_length]
      rw [e] at q
      exact q.val ⟨p, vs, rfl, h1, l1, r1⟩
    · exact q.tup (Nat.le_trans (cut_le _ _ _) l1) (cut_rd r1) hp
  · rename_i xs
    cases hz
    obtain ⟨p, vs, rfl, h1, l1, r1⟩ := ra.lst
    obtain ⟨T, id, a1, a2, a3⟩ := sl_list pins s σ H _ v vl vu lo hi sl (QL Q) I rx hs pl pu ⟨p, vs, rfl, h1, fun p3 hp => q.lst (Nat.le_trans (cut_le _ _ _) l1) (cut_rd r1) hp⟩
    exact ⟨T, id, a1, a2, EP_lkw a3⟩
  · cases hz
theorem ge_slc {a : E} {lo hi : Po} (ha : GE L M k C a) (hl : GPo L M k C lo) (hh : GPo L M k C hi) : GE L M k C (.slc a lo hi) := by
  intro X W pe g tk h
  unfold chkE at h
  split at h
  · rename_i pa pl ph p2 pos
    simp only [Bool.and_eq_true] at h
    have main : PE X (.Subscript pa (.Slice pl ph none p2) pos) (tE L W C (.slc a lo hi)) := (pe_slice slR_D (ha X W pa g tk h.1.1).1 ((hl X W g tk).1 pl h.1.2) ((hh X W g tk).1 ph h.2)).imp fun σ H Q z => by
      obtain ⟨ρ, μ, st, S, n, z⟩ := z
      refine tE_bind S n z fun u x st' H' μ' e S' n' r z => ?_
      refine tPo_bind S' n' z fun v st2 H2 μ2 e2 S2 n2 z => ?_
      refine tPo_bind S2 n2 z fun w st3 H3 μ3 e3 S3 n3 z => ?_
      obtain ⟨c, e4, z⟩ := onD_cases z
      obtain ⟨d, e5, z⟩ := ofO_cases z
      have q1 := rawV_rw S3 ((r.ext e2).ext e3) e4
      have q2 := gd_of S3 z
      rw [← g.K] at q1 q2
      exact ⟨c, d, q1, e5, q2⟩
    exact ⟨main, fun _ => pt_plain main (by intro _; rfl)⟩
  · cases h
theorem ge_rev {a : E} (ha : GE L M k C a) : GE L M k C (.rev a) := by
  intro X W pe g tk h
  unfold chkE at h
  split at h
  · rename_i pa j p1 p2 p3 pos
    have main := (PE.lk (pe_revA (X := X) (k := j) (p1 := p1) (p2 := p2) (p3 := p3) (pos := pos) (ha X W pa g tk h).1)).imp (t' := tE L W C (.rev a)) fun σ H Q z => by
      obtain ⟨ρ, μ, st, S, n, z⟩ := z
      refine tE_bind S n z fun u x st' H' μ' e S' n' r z => ?_
      obtain ⟨c, e4, z⟩ := onD_cases z
      obtain ⟨d, e5, z⟩ := ofO_cases z
      have q1 := rawV_rw S' r e4
      have q2 := gd_of S' z
      unfold revD at e5
      split at e5
      · rename_i t
        cases e5
        obtain ⟨rfl, l1, c1⟩ := q1.str
        refine .inl ⟨t, rfl, by rw [← line_eq]; exact l1, .inl (q2.val ⟨rfl, by rw [List.length_reverse]; exact l1, fun c hc => c1 c (List.mem_reverse.mp hc)⟩)⟩
      · rename_i xs
        cases e5
        obtain ⟨p, vs, rfl, h1, l1, r1⟩ := q1.lst
        rw [← g.K] at h1
        exact .inr ⟨p, vs, rfl, h1, fun p3 hp => q2.lst (by rw [List.length_reverse]; exact l1) r1.rev hp⟩
      · cases e5
    exact ⟨main, fun _ => pt_plain main (by intro _; rfl)⟩
  · cases h
theorem ge_call (hC : CxOk L M k C) {i : Nat} {es : Es} (hs : GEs L M k C es) : GE L M k C (.call i es) := by
  intro X W pe g tk h
  unfold chkE at h
  split at h
  · rename_i x p l pos
    simp only [Bool.and_eq_true] at h
    obtain ⟨hd, fd, ps, F, e1, e2, e3⟩ := hC.fn i x (nm_of h.1.1)
    have F' := F
    rw [← g.P, ← g.w, ← g.K, ← g.mg, ← g.base] at F'
    rw [← g.mg] at e1
    rw [← g.K] at e2 e3
    have ha := (hs X W l g tk h.2).1
    have main : PE X (.Call (.Name x p) l [] pos) (tE L W C (.call i es)) := by
      have z := h.2
      cases l with
      | nil =>
        refine (pe_callS0 (E := WE W) F' g.room (gl_of h.1.2) e1 e2 e3 (passAt tk) hd).imp fun σ H Q z => ?_
        obtain ⟨ρ, μ, st, S, n, z⟩ := z
        have en : es = .nil := by
          cases es with
          | nil => rfl
          | cons _ _ => cases h.2
        subst en
        exact ⟨[], μ, st, S, rfl, z⟩
      | cons pa l =>
        cases es with
        | nil => cases z
        | cons e es =>
          have z : (chkE M X.N e X.env.scope pa && chkEs M X.N es X.env.scope l) = true := z
          rw [Bool.and_eq_true] at z
          refine (pe_callS (E := WE W) F' g.room (gl_of h.1.2) e1 e2 e3 (passAt tk) ha hd (chk_star z.1) (chk_plain z.2)).imp fun σ H Q z => ?_
          obtain ⟨ρ, μ, st, S, n, z⟩ := z
          exact tA_bind S n z fun u x st' H' μ' e S' n' r z => ⟨u, μ', st', S', r, z⟩
    exact ⟨main, fun _ => pt_plain main (by intro _; rfl)⟩
  · cases h
theorem blt_pe (hC : CxOk L M k C) (g : GdM L M k X) {b : Bf} {x : Str} {p pos : Pos} {pa : Expr} {l : List Expr} {t : TA} (hb : bltOk b = true) (hx : isB X.env.scope (bltN b) x = true) (ha : PA X (pa :: l) t)
    (h1 : starEach (pa :: l) X.env = (false, eval pa X.env) :: starEach l X.env) (h2 : (backTo pos (starEach l X.env)).any (·.1) = false) : PE X (.Call (.Name x p) (pa :: l) [] pos) (tCB (fun vs H Q => ∃ E, rBltV L E b vs H Q) t) := by
  obtain ⟨rfl, hg⟩ := isB_of hx
  have hm : ∀ n ∈ bnames, X.mg n = none := fun n hn => by rw [g.mg]; exact hC.blt n hn
  cases b with
  | isi t => cases hb
  | sorted => exact pe_callB (CallR.ex fun E => sorted_ok (E := E) g.toGd) hg (hm _ (by decide)) boot_sorted ha (by decide) (by decide) h1 h2
  | str => cases hb
  | len => exact pe_callB (CallR.ex fun E => len_ok (E := E) g.toGd) hg (hm _ (by decide)) boot_len ha (by decide) (by decide) h1 h2
  | all => exact pe_callB (CallR.ex fun E => all_ok (E := E) g.toGd) hg (hm _ (by decide)) boot_all ha (by decide) (by decide) h1 h2
  | any => exact pe_callB (CallR.ex fun E => any_ok (E := E) g.toGd) hg (hm _ (by decide)) boot_any ha (by decide) (by decide) h1 h2
  | tuple => exact pe_callTy (CallR.ex fun E => tuple_ok (E := E) g.toGd) hg (hm _ (by decide)) boot_tuple ha (by decide) (by decide) h1 h2
  | list => exact pe_callTy (CallR.ex fun E => list_ok (E := E) g.toGd) hg (hm _ (by decide)) boot_list ha (by decide) (by decide) h1 h2
  | int => exact pe_callTy (CallR.ex fun E => int_ok (E := E) g.toGd) hg (hm _ (by decide)) boot_int ha (by decide) (by decide) h1 h2
  | bool => exact pe_callTy (CallR.ex fun E => bool_ok (E := E) g.toGd) hg (hm _ (by decide)) boot_bool ha (by decide) (by decide) h1 h2
  | abs => exact pe_callB (CallR.ex fun E => abs_ok (E := E) g.toGd) hg (hm _ (by decide)) boot_abs ha (by decide) (by decide) h1 h2
  | min => exact pe_callB (CallR.ex fun E => min_ok (E := E) g.toGd) hg (hm _ (by decide)) boot_min ha (by decide) (by decide) h1 h2
  | max => exact pe_callB (CallR.ex fun E => max_ok (E := E) g.toGd) hg (hm _ (by decide)) boot_max ha (by decide) (by decide) h1 h2
end
end EvS

namespace EvS
open PySem PySem.Spec PyProof.Rows L2 Ev
variable {L : Lw} {M : Nm} {k : Nat} {C : Ev.Ctx}
section
variable {X : L2.Cx} {W : WX} {pe : Expr}
theorem ge_isi (hC : CxOk L M k C) {t : Ty} {e : E} (he : GE L M k C e) : GE L M k C (.blt (.isi t) (.cons e .nil)) := by
  intro X W pe g tk h
  unfold chkE at h
  simp only at h
  split at h
  · rename_i x p pa y p2 pos
    simp only [Bool.and_eq_true] at h
    obtain ⟨⟨h1, h2⟩, h3⟩ := h
    have h3 : (chkE M X.N e X.env.scope pa && true) = true := h3
    rw [Bool.and_true] at h3
    obtain ⟨rfl, g1⟩ := isB_of h1
    obtain ⟨rfl, g2⟩ := isB_of h2
    have hm : ∀ n ∈ bnames, X.mg n = none := fun n hn => by rw [g.mg]; exact hC.blt n hn
    have hy : PE X (.Name (Str.ofString (tyS t)) p2) (tC (.ty (tyS t))) := by
      cases t
      · exact pe_bltn g2 (hm _ (by decide)) boot_int rfl (by decide) (by decide)
      · exact pe_bltn g2 (hm _ (by decide)) boot_bool rfl (by decide) (by decide)
      · exact pe_bltn g2 (hm _ (by decide)) boot_str rfl (by decide) (by decide)
      · exact pe_bltn g2 (hm _ (by decide)) boot_tuple rfl (by decide) (by decide)
      · exact pe_bltn g2 (hm _ (by decide)) boot_list rfl (by decide) (by decide)
    have main : PE X (.Call (.Name (Str.ofString "isinstance") p) [pa, .Name (Str.ofString (tyS t)) p2] [] pos) (tE L W C (.blt (.isi t) (.cons e .nil))) :=
      (pe_callB (CallR.ex fun E => isi_ok (E := E) g.toGd t) g1 (hm _ (by decide)) boot_isinstance (pa_cons (he X W pa g tk h3).1 (pa_cons hy pa_nil (by rfl)) (chk_star h3)) (by decide) (by decide) (chk_star h3) (by rfl)).imp fun σ H Q z => by
        obtain ⟨ρ, μ, st, S, n, z⟩ := z
        have z : RQ L H μ (WE W σ) (((evE C e ρ st).bind fun v st => (R.ok [] st).bind fun vs st => R.ok (v :: vs) st).bind fun vs st => onD (rawVs st vs) fun xs => ofO (bltD (.isi t) xs) st) (QV (L := L) Q) := z
        have z2 : RQ L H μ (WE W σ) ((evE C e ρ st).bind fun v st => onD (rawVs st [v]) fun xs => ofO (bltD (.isi t) xs) st) (QV (L := L) Q) := by
          cases q : evE C e ρ st with
          | ok a s => rw [q] at z; exact z
          | ex c fs s => rw [q] at z; exact z
          | no => rw [q] at z; exact z
        refine tE_bind S n z2 fun u x st' H' μ' e S' n' r z => ?_
        exact ⟨_, x, rfl, [u], μ', st', S', ⟨x, [], rfl, r, rfl⟩, z⟩
    exact ⟨main, fun _ => pt_plain main (by intro _; rfl)⟩
  · cases h
theorem ge_blt (hC : CxOk L M k C) {b : Bf} {es : Es} (hb : ∀ t, b ≠ .isi t) (hs : GEs L M k C es) : GE L M k C (.blt b es) := by
  intro X W pe g tk h
  have h : (match (generalizing := false) pe with
      | .Call (.Name x _) (pa :: l) [] _ => bltOk b && isB X.env.scope (bltN b) x && chkEs M X.N es X.env.scope (pa :: l)
      | _ => false) = true := by
    cases b with
    | isi t => exact absurd rfl (hb t)
    | _ =>
      unfold chkE at h
      exact h
  split at h
  · rename_i x p pa l pos _
    simp only [Bool.and_eq_true] at h
    obtain ⟨⟨h1, h2⟩, h3⟩ := h
    cases es with
    | nil => cases h3
    | cons e es =>
      have h4 : (chkE M X.N e X.env.scope pa && chkEs M X.N es X.env.scope l) = true := h3
      rw [Bool.and_eq_true] at h4
      have main : PE X (.Call (.Name x p) (pa :: l) [] pos) (tE L W C (.blt b (.cons e es))) := (blt_pe hC g h1 h2 (hs X W _ g tk h3).1 (chk_star h4.1) (chk_plain h4.2)).imp fun σ H Q z => by
        obtain ⟨ρ, μ, st, S, n, z⟩ := z
        refine tA_bind S n z fun u x st' H' μ' e S' n' r z => ?_
        exact ⟨_, u, μ', st', S', r, z⟩
      exact ⟨main, fun _ => pt_plain main (by intro _; rfl)⟩
  · cases h
theorem kindM_list {m : Mf} {u : Vl} {x : V} {H : Hp} {μ : Mu} {st : Sto} (hm : m = .append ∨ m = .pop) (h : kindM m u st = true) (S : Sim L H μ st) (rv : RV L H μ u x) : ∃ a xs, x = .ref a ∧ H a = some (.lst xs) := by
  have : ∃ r xs, u = .ref r ∧ st[r]? = some (.lst xs) := by
    rcases hm with rfl | rfl
    all_goals
      cases u with
      | ref r =>
        have h : (match (generalizing := false) st[r]? with
          | some (.lst _) => true
          | _ => false) = true := h
        split at h
        · rename_i xs e
          exact ⟨r, xs, rfl, e⟩
        · cases h
      | _ => cases h
  obtain ⟨r', xs, rfl, e⟩ := this
  obtain ⟨a, vs, rfl, _, h2, _⟩ := lst_cell S rv e
  exact ⟨a, vs, rfl, h2⟩
end
end EvS

namespace EvS
open PySem PySem.Spec PyProof.Rows L2 Ev
variable {L : Lw} {M : Nm} {k : Nat} {C : Ev.Ctx}
section
variable {X : L2.Cx} {W : WX} {pe : Expr}
theorem kindM_dict {u : Vl} {x : V} {H : Hp} {μ : Mu} {st : Sto} (h : kindM .get2 u st = true) (S : Sim L H μ st) (rv : RV L H μ u x) : ∃ a P w xs, x = .ref a ∧ H a = some (DicO P w a xs) := by
  cases u with
  | ref r =>
    have h : (match (generalizing := false) st[r]? with
      | some (.dic _) => true
      | _ => false) = true := h
    split at h
    · rename_i xs e
      obtain ⟨a, vs, rfl, _, h2, _⟩ := dic_cell S rv e
      exact ⟨a, _, _, vs, rfl, h2⟩
    · cases h
  | _ => cases h
theorem mth_go {m : Mf} {o : E} {es : Es} {σ : L2.St} {H : Hp} {Q : VK} {P : V → Hp → Prop} (hP : ∀ (u : Vl) (x : V) (H : Hp) (μ : Mu) (st : Sto), kindM m u st = true → Sim L H μ st → RV L H μ u x → P x H)
    (z : tE L W C (.mth m o es) σ H Q) : tMB P (fun x xs H Q => ∃ E, rMtV L E m x xs H Q) (tE L W C o) (tA L W C es) σ H Q := by
  obtain ⟨ρ, μ, st, S, n, z⟩ := z
  refine tE_bind S n z fun u x st' H' μ' e S' n' r z => ?_
  split at z
  · rename_i hk
    refine ⟨hP u x H' μ' st' hk S' r, ?_⟩
    refine tA_bind S' n' z fun v y st2 H2 μ2 e2 S2 n2 r2 z => ?_
    exact ⟨_, u, v, μ2, st2, S2, r.ext e2, r2, z⟩
  · exact z.elim
theorem ge_mth {m : Mf} {o : E} {es : Es} (ho : GE L M k C o) (hs : GEs L M k C es) : GE L M k C (.mth m o es) := by
  intro X W pe g tk h
  unfold chkE at h
  split at h
  · rename_i po nm apos l cpos
    simp only [Bool.and_eq_true] at h
    obtain ⟨⟨⟨⟨⟨⟨h0, h1⟩, h2⟩, h3⟩, h4⟩, h5⟩, h6⟩ := h
    have e1 := of_decide_eq_true h1
    subst e1
    have hbase : ∀ nm, attributeBase po nm X.env (eval po X.env) = eval po X.env := fun nm => by
      cases po with
      | Name _ _ => rfl
      | _ => cases h2
    have p1 := (ho X W po g tk h3).1
    have p2 := (hs X W l g tk h4).1
    have hl := of_decide_eq_true h6
    have main : PE X (.Call (.Attribute po (Str.ofString (mthN m)) apos) l [] cpos) (tE L W C (.mth m o es)) := by
      cases m with
      | append =>
        match l, es, hl with
        | [pa], .cons e es, _ =>
          have h7 : (chkE M X.N e X.env.scope pa && chkEs M X.N es X.env.scope []) = true := h4
          rw [Bool.and_eq_true] at h7
          exact (pe_mb ty_list PySem.F.plainAttrs_list PySem.F.slot_list_append PySem.F.type_list_append (MtR.ex fun E => append_ok (E := E) g.toGd) p1 p2 (hbase _) (by rw [chk_star h7.1]; rfl) h5 (chk_star h7.1) (chk_plain h7.2)).imp fun σ H Q z => mth_go (fun u x H μ st hk S r => kindM_list (.inl rfl) hk S r) z
        | [pa], .nil, _ => cases h4
      | pop =>
        match l, es, hl with
        | [], .nil, _ =>
          refine (pe_mb0 ty_list PySem.F.plainAttrs_list PySem.F.slot_list_pop PySem.F.type_list_pop (MtR.ex fun E => pop_ok (E := E) g.toGd) p1 (hbase _) h5).imp fun σ H Q z => ?_
          obtain ⟨ρ, μ, st, S, n, z⟩ := z
          refine tE_bind S n z fun u x st' H' μ' e S' n' r z => ?_
          split at z
          · rename_i hk
            refine ⟨kindM_list (.inr rfl) hk S' r, ?_⟩
            exact ⟨_, u, [], μ', st', S', r, rfl, z⟩
          · exact z.elim
        | [], .cons _ _, _ => cases h4
      | get2 =>
        match l, es, hl with
        | [pa, pb], .cons e es, _ =>
          have h7 : (chkE M X.N e X.env.scope pa && chkEs M X.N es X.env.scope [pb]) = true := h4
          rw [Bool.and_eq_true] at h7
          have hb : starEach [pb] X.env = (false, eval pb X.env) :: starEach [] X.env := by
            cases es with
            | nil => cases h7.2
            | cons e2 es =>
              have h8 : (chkE M X.N e2 X.env.scope pb && chkEs M X.N es X.env.scope []) = true := h7.2
              rw [Bool.and_eq_true] at h8
              exact chk_star h8.1
          exact (pe_mb ty_dict PySem.F.plainAttrs_dict PySem.F.slot_dict_get PySem.F.type_dict_get (MtR.ex fun E => get2_ok (E := E) g.toGd) p1 p2 (hbase _) (by rw [chk_star h7.1, hb]; rfl) h5 (chk_star h7.1) (chk_plain h7.2)).imp fun σ H Q z => mth_go (fun u x H μ st hk S r => kindM_dict hk S r) z
        | [pa, pb], .nil, _ => cases h4
      | _ => cases h0
    exact ⟨main, fun _ => pt_plain main (by intro _; rfl)⟩
  · cases h
end
end EvS

namespace EvS
open PySem PySem.Spec PyProof.Rows L2 Ev
variable {L : Lw} {M : Nm} {k : Nat} {C : Ev.Ctx}
section
variable {X : L2.Cx} {W : WX} {pins : List (Addr × Obj)} {σ : L2.St} {H : Hp} {μ : Mu} {s : Shared} {st : Sto}
/-- a lambda's value called -/
theorem clo_run (hC : CxOk L M k C) (g : Gd L k X) (tk : Takes X W) {l : Nat} {cs vs : List Vl} {f : Addr} {us : List V} {ws : List Value} {Q : VK} (I : Inv X pins σ H s) (S : Sim L H μ st) (rv : RV L H μ (.clo l cs) (.ref f)) (rs : RVs L H μ vs us) (rw_ : Vals us ws)
    (z : RQ L H μ (WE W σ) (C.lam l cs vs st) (QV (L := L) Q)) : wpAny (model X.prog X.w) X.A (call (.ref f) ws) (EP X pins σ Q) X.xe s := by
  have e0 : Env0 L.P L.w L.K L.mg L.base X.A X.stack s H := by
    rw [← g.P, ← g.w, ← g.K, ← g.mg, ← g.base]
    exact I.env0
  have c := hC.lam l cs f X.A X.stack s H μ st vs us ws Q (WE W σ) g.room e0 rw_ rs rv S z
  rw [← g.P, ← g.w] at c
  refine wpAny_call (codeAny_mono c fun r s' hq => ?_)
  cases r with
  | error e => exact passAt tk σ pins H s e s' I hq
  | ok fl =>
    cases fl with
    | ret u => exact I.after hq
    | next => exact False.elim hq
    | brk => exact False.elim hq
    | cont => exact False.elim hq
theorem fnAt_of {l : Nat} {cs : List Vl} {f : Addr} (I : Inv X pins σ H s) (rv : RV L H μ (.clo l cs) (.ref f)) : PySem.W.FnAt f s.heap := by
  obtain ⟨f', o, cl, caps, e, h1, ⟨ps, N, params, body, scope, qual, pm, ctv, c', _, _, _, h3, _⟩, _⟩ := rv
  cases e
  have z := still_get I.hok h1
  rw [h3] at z
  exact ⟨_, _, _, _, z⟩
end
theorem ge_callv (hC : CxOk L M k C) {i : Nat} {es : Es} (hs : GEs L M k C es) : GE L M k C (.callv i es) := by
  intro X W pe g tk h
  unfold chkE at h
  split at h
  · rename_i x p l pos
    simp only [Bool.and_eq_true] at h
    obtain ⟨⟨h1, h2⟩, h3⟩ := h
    obtain ⟨v1, v2, v3⟩ := g.var h1
    have pa := (hs X W l g tk h3).1
    have main : PE X (.Call (.Name x p) l [] pos) (tE L W C (.callv i es)) := by
      refine ⟨fun pins s σ H Q I z => ?_⟩
      obtain ⟨ρ, μ, st, S, n, z⟩ := z
      have args : ∀ {f : List Vl → Sto → R Vl}, RQ L H μ (WE W σ) ((evEs C es ρ st).bind f) (QV (L := L) Q) → ∀ {s1 : Shared}, Inv X pins σ H s1 → wpAny (model X.prog X.w) X.A (spliced (backTo pos (starEach l X.env))) (fun ws s₁ => ∃ H2 μ2 st2 vs us, Inv X pins σ H2 s₁ ∧ Ext H μ H2 μ2 ∧ Sim L H2 μ2 st2 ∧ RVs L H2 μ2 vs us ∧ Vals us ws ∧ RQ L H2 μ2 (WE W σ) (f vs st2) (QV (L := L) Q)) X.xe s1 := fun {f} z {s1} I1 =>
        thn (pa.run pos pins s1 σ H (fun us H2 => ∃ μ2 st2 vs, Ext H μ H2 μ2 ∧ Sim L H2 μ2 st2 ∧ RVs L H2 μ2 vs us ∧ RQ L H2 μ2 (WE W σ) (f vs st2) (QV (L := L) Q)) I1 ⟨ρ, μ, st, S, n, z.bind.mono fun vs st2 H2 μ2 e2 S2 q us r => ⟨μ2, st2, vs, e2, S2, r, q⟩⟩) fun ws s2 ⟨us, H2, I2, rw_, μ2, st2, vs, e2, S2, r, q⟩ => ⟨H2, μ2, st2, vs, us, I2, e2, S2, r, rw_, q⟩
      have name : ∀ {v : Vl} (hv : ρ.get i = some v) {P : Value → Shared → Prop}, (∀ u uv s1, RV L H μ v u → RelV u uv → Inv X pins σ H s1 → P uv s1) → wpAny (model X.prog X.w) X.A (eval (.Name x p) X.env) P X.xe s := fun {v} hv {P} hp => by
        obtain ⟨u, hu, rv⟩ := n.2 i v (En.get_some hv)
        refine thn ((pe_var (pos := p) v1 (vis_of h2) v2 v3).run pins s σ H (fun w H1 => w = u ∧ H1 = H) I ⟨u, hu, rfl, rfl⟩) fun uv s1 ⟨w, H1, I1, r1, q1⟩ => ?_
        obtain ⟨rfl, rfl⟩ := q1
        exact hp _ uv s1 rv r1 I1
      have star : ∀ pe l', l = pe :: l' → starEach (pe :: l') X.env = (false, eval pe X.env) :: starEach l' X.env ∧ (backTo pos (starEach l' X.env)).any (·.1) = false := fun pe l' e => by
        subst e
        cases es with
        | nil => cases h3
        | cons e es =>
          have h4 : (chkE M X.N e X.env.scope pe && chkEs M X.N es X.env.scope l') = true := h3
          rw [Bool.and_eq_true] at h4
          exact ⟨chk_star h4.1, chk_plain h4.2⟩
      unfold evE at z
      split at z
      · rename_i j hv
        refine wpAny_Call_Name_kw (name hv fun u uv s1 rv r1 I1 => ?_)
        obtain ⟨hi, rfl⟩ := rv
        cases r1
        obtain ⟨fd, ps, F, hk, hbi⟩ := hC.fnV j hi
        rw [← g.P, ← g.w, ← g.K, ← g.mg, ← g.base] at F
        rw [← g.K] at hbi hk
        have go : ∀ {ws s2}, (∃ H2 μ2 st2 vs us, Inv X pins σ H2 s2 ∧ Ext H μ H2 μ2 ∧ Sim L H2 μ2 st2 ∧ RVs L H2 μ2 vs us ∧ Vals us ws ∧ RQ L H2 μ2 (WE W σ) (C.call j vs st2) (QV (L := L) Q)) → X.K.In s2.heap ∧ wpAny (model X.prog X.w) X.A (call (.ref (L.fa j)) ([] ++ ws)) (EP X pins σ Q) X.xe s2 := fun {ws s2} ⟨H2, μ2, st2, vs, us, I2, e2, S2, r, rw_, q⟩ =>
          ⟨I2.kIn, run_fnS (E := WE W) F g.room hbi (passAt tk σ) I2 rw_ ⟨vs, μ2, st2, S2, r, q⟩⟩
        cases l with
        | nil =>
          have en : es = .nil := by
            cases es with
            | nil => rfl
            | cons _ _ => cases h3
          subst en
          exact PySem.W.callWith_K0 I1.kIn hk (go ⟨H, μ, st, [], [], I1, Ext.refl _ _, S, rfl, .nil, z⟩).2
        | cons pa' l' =>
          obtain ⟨s1', s2'⟩ := star pa' l' rfl
          exact PySem.W.callWith_K (h₀ := X.base) I1.ok.mod.kin hk (thn (args z I1) fun ws s2 q => go q) s1' s2'
      · rename_i j cs hv
        refine wpAny_Call_Name_kw (name hv fun u uv s1 rv r1 I1 => ?_)
        have rv' := rv
        obtain ⟨f, o, cl, caps, rfl, _⟩ := rv
        cases r1
        have go : ∀ {ws s2}, (∃ H2 μ2 st2 vs us, Inv X pins σ H2 s2 ∧ Ext H μ H2 μ2 ∧ Sim L H2 μ2 st2 ∧ RVs L H2 μ2 vs us ∧ Vals us ws ∧ RQ L H2 μ2 (WE W σ) (C.lam j cs vs st2) (QV (L := L) Q)) → PySem.W.FnAt f s2.heap ∧ wpAny (model X.prog X.w) X.A (call (.ref f) ([] ++ ws)) (EP X pins σ Q) X.xe s2 := fun {ws s2} ⟨H2, μ2, st2, vs, us, I2, e2, S2, r, rw_, q⟩ =>
          ⟨fnAt_of I2 (rv'.ext e2), clo_run hC g.toGd tk I2 S2 (rv'.ext e2) r rw_ q⟩
        cases l with
        | nil =>
          have en : es = .nil := by
            cases es with
            | nil => rfl
            | cons _ _ => cases h3
          subst en
          obtain ⟨a1, a2⟩ := go (ws := []) ⟨H, μ, st, [], [], I1, Ext.refl _ _, S, rfl, .nil, z⟩
          exact PySem.W.callWith_F0 a1 a2
        | cons pa' l' =>
          obtain ⟨s1', s2'⟩ := star pa' l' rfl
          exact PySem.W.callWith_F (fnAt_of I1 rv') (thn (args z I1) fun ws s2 q => go q) s1' s2'
      · exact z.elim
    exact ⟨main, fun _ => pt_plain main (by intro _; rfl)⟩
  · cases h
end EvS

namespace EvS
open PySem PySem.Spec PyProof.Rows L2 Ev
variable {L : Lw} {M : Nm} {k : Nat} {C : Ev.Ctx}
section
variable {X : L2.Cx} {W : WX} {pins : List (Addr × Obj)} {σ : L2.St} {H : Hp} {μ : Mu} {s : Shared} {st : Sto}
/-- a table has grown by a code object -/
theorem grown {Pt c : Addr} {q : Str} {ps more : Array Value} {u : HO} (S : Sim L H μ st) (hP : H Pt = some (.tbl ps)) (nC : H c = none) (hu : ∀ p ∈ L.tabs, p.1 = Pt → p.2 = q) (ht : TriplesOk (ps ++ more).toList)
    (hc : CodeAt (upd (upd H Pt (.tbl (ps ++ more))) c u) c q) (ha : ∀ (pos : Pos) (cv : Value), codeAmong pos (ps ++ more).toList = some cv → (∃ c, cv = .ref c ∧ CodeAt H c q) ∨ cv = .ref c) :
    Ext H μ (upd (upd H Pt (.tbl (ps ++ more))) c u) μ ∧ Sim L (upd (upd H Pt (.tbl (ps ++ more))) c u) μ st := by
  have nt : ∀ a o, H a = some o → NoTbl o → upd (upd H Pt (.tbl (ps ++ more))) c u a = some o := fun a o h n => by
    rw [upd_ne (ne_of_none h nC), upd_ne]
    · exact h
    · rintro rfl
      rw [hP] at h
      cases h
      exact n
  have fx : ∀ a o, H a = some o → Fix o → upd (upd H Pt (.tbl (ps ++ more))) c u a = some o := fun a o h f => nt a o h f.noTbl
  have ex : Ext H μ (upd (upd H Pt (.tbl (ps ++ more))) c u) μ := ⟨fx, fun a o h n _ => nt a o h n, Nat.le_refl _, fun _ _ _ h => h, fun r _ h => .inl ⟨r, h⟩, fun a qs h => by
    by_cases e : a = Pt
    · rw [e, upd_ne (ne_of_none hP nC), upd_same]
      exact ⟨_, rfl⟩
    · rw [upd_ne (ne_of_none h nC), upd_ne e]
      exact ⟨qs, h⟩⟩
  refine ⟨ex, S.len, S.inj, fun r cl h => CellR.keep ex (fun a hr => ⟨hr, fun o ho => ?_⟩) (S.cell r cl h), fun r a h => ?_, fun p hp => ?_⟩
  · obtain ⟨o', h1, h2⟩ := S.some_ r a hr
    rw [ho] at h1
    cases h1
    exact nt a o ho h2
  · obtain ⟨o, h1, h2⟩ := S.some_ r a h
    exact ⟨o, nt a o h1 h2, h2⟩
  · by_cases e : p.1 = Pt
    · refine ⟨ps ++ more, by rw [e, upd_ne (ne_of_none hP nC), upd_same], ht, fun pos cv hcv => ?_⟩
      rw [hu p hp e]
      rcases ha pos cv hcv with ⟨c2, e1, e2⟩ | e1
      · exact ⟨c2, e1, e2.fix fun a o h z => nt a o h (by obtain ⟨_, _, rfl⟩ := z; trivial)⟩
      · exact ⟨c, e1, hc⟩
    · obtain ⟨qs, h1, h2, h3⟩ := S.tab p hp
      refine ⟨qs, by rw [upd_ne (ne_of_none h1 nC), upd_ne e]; exact h1, h2, fun pos cv hcv => ?_⟩
      obtain ⟨c2, e1, e2⟩ := h3 pos cv hcv
      exact ⟨c2, e1, e2.fix fun a o h z => nt a o h (by obtain ⟨_, _, rfl⟩ := z; trivial)⟩
/-- a lambda is made -/
theorem lam_make {caps : List Str} {params : Arguments} {body : Expr} {scope : Scope} {pos : Pos} (I : Inv X pins σ H s) (S : Sim L H μ st) (mk : MkX L X) (lm : LamMk caps params scope) (hcap : ∀ n ∈ caps, X.env.scope.names.lookup n = some .cell) {Q : Value → Shared → Prop}
    (h : ∀ (f c' : Addr) (pm ctv : Value) (H1 : Hp) (s' : Shared), Inv X pins σ H1 s' → Ext H μ H1 μ → Sim L H1 μ st →
      s'.heap.get? f = some (PySem.W.kla_obj "<lambda>" (X.env.qual ++ "<lambda>") params body scope (cloFrom X.env.cells scope.names []) pm c' ctv) → H1 f = none → s.heap.objs.size ≤ f → CodeAt H1 c' (X.env.qual ++ "<lambda>") → Q (.ref f) s') :
    wpAny (model X.prog X.w) X.A (eval (.Lambda params body scope pos) X.env) Q X.xe s := by
  obtain ⟨c, P, hcode, TB, hm, hu⟩ := mk.tab
  obtain ⟨ps, hP, ht, ha⟩ := S.tab _ hm
  have hP : H P = some (.tbl ps) := hP
  have ha : ∀ (pos : Pos) (cv : Value), codeAmong pos ps.toList = some cv → ∃ c, cv = .ref c ∧ CodeAt H c (X.env.qual ++ "<lambda>") := ha
  have hfree : ∀ y ∈ scope.names, y.2 = .free → ∃ c, X.env.cells.lookup y.1 = some c := fun y hy e => I.ok.has _ (.inl (hcap _ (lm.free y hy e)))
  refine PySem.W.kla_eval (lm.def_ _) ?_
  have bP : s.heap.BuiltinsAt X.mg P := TB.bm.keeps I.bk
  have hP' : s.heap.get? P = some { cls := .none, data := .fields ps } := I.hok P _ hP
  cases hc : codeAmong pos ps.toList with
  | none =>
    refine PySem.W.kla_makeFunction (mg := X.mg) (c := c) (P := P) (ps := ps) (closure_ok hfree) I.ok.glob (I.mod.glob.keeps I.bk) hcode (TB.code.keeps I.bk) hP' ht hc TB.gP bP fun c' ctv h' tk hx hge hlt hrec htb => ?_
    obtain ⟨c2, oc, vs, t, e2, hoc, hd, hv⟩ := hrec
    cases e2
    have hsz : s.heap.objs.size ≤ h'.objs.size := Nat.le_trans hge (Nat.le_of_lt hlt)
    have nC : H c' = none := I.hok.fresh hge
    have I1 := LamX.inv_table (q := X.env.qual ++ "<lambda>") (t' := tk) (more := #[rawInt pos.line, rawInt pos.col, .ref c']) (h' := h'.push (PySem.W.kla_obj "<lambda>" (X.env.qual ++ "<lambda>") params body scope (cloFrom X.env.cells scope.names []) ((X.mg "__name__").getD .none) c' ctv)) I hP
      (fun b o hb e => Heap.get?_push_of_some _ (hx b o hb e)) (Heap.get?_push_of_some _ htb) hge ⟨oc, vs, t, Heap.get?_push_of_some _ hoc, hd, hv⟩
    obtain ⟨od, I2⟩ := I1.lock upd_same (show Mut (some (LamX.CodeO c' (X.env.qual ++ "<lambda>"))) from trivial)
    rw [upd_upd] at I2
    have e1 : (h'.push (PySem.W.kla_obj "<lambda>" (X.env.qual ++ "<lambda>") params body scope (cloFrom X.env.cells scope.names []) ((X.mg "__name__").getD .none) c' ctv)).get? c' = some od := (I2.hok c' _ upd_same).1
    rw [Heap.get?_push_of_some _ hoc] at e1
    have e1 := Option.some.inj e1
    have ca : CodeAt (upd (upd H P (.tbl (ps ++ #[rawInt pos.line, rawInt pos.col, .ref c']))) c' (.frz od (LamX.CodeO c' (X.env.qual ++ "<lambda>")))) c' (X.env.qual ++ "<lambda>") := ⟨od, _, vs, t, upd_same, by rw [← e1]; exact hd, hv⟩
    have eL : (ps ++ #[rawInt pos.line, rawInt pos.col, .ref c']).toList = ps.toList ++ [rawInt pos.line, rawInt pos.col, .ref c'] := by simp
    obtain ⟨x1, x2⟩ := grown S hP nC hu (by rw [eL]; exact PySem.TriplesOk_snoc _ _ _ _ ht) ca fun p' cv hcv => by
      rw [eL] at hcv
      rcases LamX.among_app _ ht hcv with z | z
      · exact .inl (ha p' cv z)
      · exact .inr z
    refine h h'.objs.size c' _ ctv _ _ I2 x1 x2 (Heap.get?_push_size _ rfl) ?_ hsz ca
    rw [upd_ne (Nat.ne_of_gt hlt), upd_ne (Nat.ne_of_gt (Nat.lt_of_lt_of_le (Heap.lt_size hP') hsz))]
    exact I.hok.fresh hsz
  | some cv =>
    obtain ⟨c', e, hco⟩ := ha pos cv hc
    subst e
    refine PySem.W.kla_makeFunctionHit (mg := X.mg) (c := c) (P := P) (ps := ps) (closure_ok hfree) I.ok.glob (I.mod.glob.keeps I.bk) hcode (TB.code.keeps I.bk) hP' ht hc bP fun ctv h' tk hx hsz => ?_
    exact h h'.objs.size c' _ ctv H _ (I.kept fun b o e => Heap.get?_push_of_some _ (hx b o e)) (Ext.refl _ _) S (Heap.get?_push_size _ rfl) (I.hok.fresh hsz) hsz hco
theorem Inv.drop {A : Hl} (I : Inv X (pins ++ A) σ H s) : Inv X pins σ H s :=
  ⟨I.ok, I.os, I.bare, I.base, I.loc, I.cell, I.free, I.freeC, fun p hp => I.pin p (by
    rcases List.mem_append.mp hp with h | h
    · exact List.mem_append_left _ h
    · exact List.mem_append_right _ (List.mem_append_left _ h)), I.hok, I.len⟩
/-- a new object is held fast -/
theorem Inv.fast {f : Addr} {o : Obj} (I : Inv X pins σ H s) (h : s.heap.get? f = some o) (n : H f = none) (hL : f ≠ X.env.locals) (hF : f ∉ X.fs) (hc : ∀ v, o.data ≠ .cell v) : Inv X (pins ++ [(f, o)]) σ H s :=
  I.pins_of fun p hp => by
    rcases List.mem_append.mp hp with h' | h'
    · exact I.pin p (List.mem_append_right _ h')
    · rw [List.mem_singleton.mp h']
      exact ⟨h, n, hL, hF, hc⟩
/-- an argument: a value, or a lambda that was just made -/
def RA (L : Lw) (X : L2.Cx) (ρ : En) (H : Hp) (μ : Mu) (A : Hl) (v : Vl) (u : V) : Prop := RV L H μ v u ∨
  ∃ (l : Nat) (cs : List Vl) (f : Addr) (is : List Nat) (caps ps N : List Str) (params : Arguments) (body : Expr) (scope : Scope) (pm ctv : Value) (c' : Addr), v = .clo l cs ∧ u = .ref f ∧ capsOf ρ is = some cs ∧ namesOf X.N is = some caps ∧ (∀ n ∈ caps, X.env.scope.names.lookup n = some .cell) ∧
    L.lamOk l caps ps N params body scope ∧ (f, PySem.W.kla_obj "<lambda>" (X.env.qual ++ "<lambda>") params body scope (cloFrom X.env.cells scope.names []) pm c' ctv) ∈ A ∧ CodeAt H c' (X.env.qual ++ "<lambda>")
def RAs (L : Lw) (X : L2.Cx) (ρ : En) (H : Hp) (μ : Mu) (A : Hl) : List Vl → List V → Prop
  | [], us => us = []
  | v :: vs, us => ∃ u r, us = u :: r ∧ RA L X ρ H μ A v u ∧ RAs L X ρ H μ A vs r
/-- functions alone -/
def FnA (X : L2.Cx) (A : Hl) : Prop := ∀ p ∈ A, (∃ fd, p.2.data = .func fd) ∧ X.base.get? p.1 = none
theorem CodeAt.ext {H' : Hp} {μ' : Mu} (e : Ext H μ H' μ') {c : Addr} {q : Str} (h : CodeAt H c q) : CodeAt H' c q := h.fix fun a o h z => e.im a o h (by obtain ⟨_, _, rfl⟩ := z; trivial)
theorem RA.ext {ρ : En} {H' : Hp} {μ' : Mu} {A A' : Hl} (e : Ext H μ H' μ') (hA : ∀ p ∈ A, p ∈ A') {v : Vl} {u : V} (h : RA L X ρ H μ A v u) : RA L X ρ H' μ' A' v u := by
  rcases h with h | ⟨l, cs, f, is, caps, ps, N, params, body, scope, pm, ctv, c', h1, h2, h3, h4, h5, h6, h7, h8⟩
  · exact .inl (h.ext e)
  · exact .inr ⟨l, cs, f, is, caps, ps, N, params, body, scope, pm, ctv, c', h1, h2, h3, h4, h5, h6, hA _ h7, h8.ext e⟩
inductive EachA (P : E → Prop) : Es → Prop where
  | nil : EachA P .nil
  | cons {e : E} {es : Es} : P e → EachA P es → EachA P (.cons e es)
theorem chkAs_cons {N : List Str} {sc : Scope} {e : E} {es : Es} {p : Expr} {r : List Expr} (h : chkAs M N (.cons e es) sc (p :: r) = true) : (∃ l is, e = .lam l is) ∨ (chkE M N e sc p && chkAs M N es sc r) = true := by
  cases e with
  | lam l is => exact .inl ⟨l, is, rfl⟩
  | _ => exact .inr h
/-- the arguments, from the left -/
theorem args_run (hC : CxOk L M k C) (g : GdM L M k X) (mk : MkX L X) (tk : Takes X W) {ρ : En} {pos : Pos} : ∀ (es : Es) (pes : List Expr) (pins : List (Addr × Obj)) (s : Shared) (H : Hp) (μ : Mu) (st : Sto) (Q : List Vl → Sto → Hp → Mu → Prop) (Post : List Value → Shared → Prop),
    EachA (GE L M k C) es → chkAs M X.N es X.env.scope pes = true → Inv X pins σ H s → Sim L H μ st → EnR L H μ ρ σ → RQ L H μ (WE W σ) (evEs C es ρ st) Q →
    (∀ vs us ws st' H' μ' A s', Ext H μ H' μ' → Sim L H' μ' st' → Inv X (pins ++ A) σ H' s' → FnA X A → Vals us ws → RAs L X ρ H' μ' A vs us → Q vs st' H' μ' → Post ws s') →
    wpAny (model X.prog X.w) X.A (spliced (backTo pos (starEach pes X.env))) Post X.xe s
  | .nil, pes, pins, s, H, μ, st, Q, Post, he, hk, I, S, n, z, hp => by
    cases pes with
    | nil => exact Calls.spliced_nil (hp [] [] [] st H μ [] s (Ext.refl _ _) S (by rw [List.append_nil]; exact I) (fun p h => absurd h (by simp)) .nil rfl (z.ok S))
    | cons _ _ => cases hk
  | .cons e es, pes, pins, s, H, μ, st, Q, Post, he, hk, I, S, n, z, hp => by
    cases pes with
    | nil => cases hk
    | cons p r =>
      cases he with
      | cons he hes =>
      have z : RQ L H μ (WE W σ) ((evE C e ρ st).bind fun v st => (evEs C es ρ st).bind fun vs st => .ok (v :: vs) st) Q := z
      have tail : ∀ (v : Vl) (u : V) (uv : Value) (pins1 : List (Addr × Obj)) (A0 : Hl) (s1 : Shared) (H1 : Hp) (μ1 : Mu) (st1 : Sto), chkAs M X.N es X.env.scope r = true → Ext H μ H1 μ1 → Sim L H1 μ1 st1 → Inv X (pins ++ A0) σ H1 s1 → FnA X A0 → RelV u uv → RA L X ρ H1 μ1 A0 v u →
          RQ L H1 μ1 (WE W σ) ((evEs C es ρ st1).bind fun vs st => .ok (v :: vs) st) Q → wpAny (model X.prog X.w) X.A (spliced (backTo pos (starEach r X.env))) (fun ws s' => Post (uv :: ws) s') X.xe s1 :=
        fun v u uv pins1 A0 s1 H1 μ1 st1 hk e1 S1 I1 fa ru ra z1 =>
          args_run hC g mk tk es r (pins ++ A0) s1 H1 μ1 st1 (fun vs st2 H2 μ2 => Q (v :: vs) st2 H2 μ2) _ hes hk I1 S1 (n.ext e1) (z1.bind.mono fun vs st2 H2 μ2 e2 S2 q => q.ok S2) fun vs us ws st2 H2 μ2 A s2 e2 S2 I2 fa2 rw_ ras q =>
            hp (v :: vs) (u :: us) (uv :: ws) st2 H2 μ2 (A0 ++ A) s2 (e1.trans e2) S2 (by rw [← List.append_assoc]; exact I2) (fun q hq => (List.mem_append.mp hq).elim (fa q) (fa2 q)) (.cons ru rw_)
              ⟨u, us, rfl, ra.ext e2 fun q hq => List.mem_append_left _ hq, by
                have key : ∀ {vs : List Vl} {us : List V}, RAs L X ρ H2 μ2 A vs us → RAs L X ρ H2 μ2 (A0 ++ A) vs us := fun {vs} => by
                  induction vs with
                  | nil => intro us h; exact h
                  | cons v vs ih =>
                    intro us h
                    obtain ⟨u, r, h1, h2, h3⟩ := h
                    exact ⟨u, r, h1, h2.ext (Ext.refl _ _) fun q hq => List.mem_append_right _ hq, ih h3⟩
                exact key ras⟩ q
      have gen : ∀ (hk1 : chkE M X.N e X.env.scope p = true) (hk2 : chkAs M X.N es X.env.scope r = true), wpAny (model X.prog X.w) X.A (spliced (backTo pos (starEach (p :: r) X.env))) Post X.xe s := fun hk1 hk2 => by
        rw [chk_star hk1]
        refine Calls.spliced_cons (thn ((he X W p g tk hk1).1.run pins s σ H (fun u H1 => ∃ v μ1 st1, Ext H μ H1 μ1 ∧ Sim L H1 μ1 st1 ∧ RV L H1 μ1 v u ∧ RQ L H1 μ1 (WE W σ) ((evEs C es ρ st1).bind fun vs st => .ok (v :: vs) st) Q) I
          ⟨ρ, μ, st, S, n, z.bind.mono fun v st1 H1 μ1 e1 S1 q u r => ⟨v, μ1, st1, e1, S1, r, q⟩⟩) fun uv s1 ⟨u, H1, I1, ru, v, μ1, st1, e1, S1, rv, z1⟩ => ?_)
        exact tail v u uv pins [] s1 H1 μ1 st1 hk2 e1 S1 (by rw [List.append_nil]; exact I1) (fun p h => absurd h (by simp)) ru (.inl rv) z1
      rcases chkAs_cons hk with ⟨l, is, rfl⟩ | hk
      · have hsplit := hk
        have hk : ((match (generalizing := false) p with
        | .Lambda params body scope _ => (match (generalizing := false) namesOf X.N is with
          | some caps => M.lamB l caps params body scope && caps.all (celB X.env.scope)
          | none => false)
        | _ => false) && chkAs M X.N es X.env.scope r) = true := hk
        rw [Bool.and_eq_true] at hk
        obtain ⟨hk1, hk2⟩ := hk
        split at hk1
        · rename_i params body scope lpos
          split at hk1
          · rename_i caps hn
            rw [Bool.and_eq_true] at hk1
            obtain ⟨ps, N, lo⟩ := hC.lamS _ _ _ _ _ hk1.1
            have lm := hC.lamD _ _ _ _ _ _ _ lo
            have hcap : ∀ n ∈ caps, X.env.scope.names.lookup n = some .cell := fun x hx => by
              have q := List.all_eq_true.mp hk1.2 x hx
              unfold celB at q
              split at q
              · assumption
              · cases q
            have z : RQ L H μ (WE W σ) ((onD (capsOf ρ is) fun vs => .ok (.clo l vs) st).bind fun v st => (evEs C es ρ st).bind fun vs st => .ok (v :: vs) st) Q := z
            cases hcs : capsOf ρ is with
            | none => rw [hcs] at z; exact z.elim
            | some cs =>
              rw [hcs] at z
              have z : RQ L H μ (WE W σ) ((evEs C es ρ st).bind fun vs st => .ok (.clo l cs :: vs) st) Q := z
              show wpAny _ _ (spliced ((false, eval (.Lambda params body scope lpos) X.env) :: backTo pos (starEach r X.env))) _ _ s
              refine Calls.spliced_cons (lam_make I S mk lm hcap fun f c' pm ctv H1 s1 I1 e1 S1 hf hn1 hsz ca => ?_)
              have hL : f ≠ X.env.locals := fun q => by
                have := I.lt
                rw [← q] at this
                exact Nat.lt_irrefl _ (Nat.lt_of_lt_of_le this hsz)
              exact tail (.clo l cs) (.ref f) (.ref f) pins [(f, _)] s1 H1 μ st hk2 e1 S1 (Inv.fast I1 hf hn1 hL (I.nofs hsz) fun v q => by cases q) (fun q hq => by
                rw [List.mem_singleton.mp hq]
                exact ⟨⟨_, rfl⟩, Heap.get?_none_of_le (Nat.le_trans I.ok.bsz (Nat.le_trans I.sz hsz))⟩) rfl (.inr ⟨l, cs, f, is, caps, ps, N, params, body, scope, pm, ctv, c', rfl, rfl, hcs, hn, hcap, lo, List.mem_singleton.mpr rfl, ca⟩) (RQ.ext e1 z)
          · cases hk1
        · cases hk1
      · rw [Bool.and_eq_true] at hk
        exact gen hk.1 hk.2
end
end EvS

namespace EvS
open PySem PySem.Spec PyProof.Rows L2 Ev
variable {L : Lw} {M : Nm} {k : Nat} {C : Ev.Ctx}
section
variable {X : L2.Cx} {W : WX} {pins : List (Addr × Obj)} {σ : L2.St} {H : Hp} {μ : Mu} {s : Shared} {st : Sto}
/-- the frame's cells with what stands there -/
def cellsB (X : L2.Cx) (h : Heap) : Hl := X.env.cells.filterMap fun p => if X.env.cells.lookup p.1 = some p.2 then (h.get? p.2).map fun o => (p.2, o) else none
theorem lookup_in {α : Type} {a : Addr} {o : α} : ∀ {l : List (Addr × α)}, l.lookup a = some o → (a, o) ∈ l
  | [], h => by cases h
  | (b, u) :: r, h => by
    rw [List.lookup_cons] at h
    split at h
    · rename_i q
      cases h
      rw [eq_of_beq q]
      exact List.mem_cons_self
    · exact List.mem_cons_of_mem _ (lookup_in h)
theorem in_lookup {α : Type} {a : Addr} {o : α} : ∀ {l : List (Addr × α)}, (a, o) ∈ l → ∃ o', l.lookup a = some o'
  | [], h => by cases h
  | (b, u) :: r, h => by
    rw [List.lookup_cons]
    split
    · exact ⟨_, rfl⟩
    · rename_i q
      rcases List.mem_cons.mp h with e | e
      · cases e
        simp at q
      · exact in_lookup e
theorem lookup_app {α : Type} {a : Addr} {o : α} {A B : List (Addr × α)} (h : (A ++ B).lookup a = some o) : A.lookup a = some o ∨ B.lookup a = some o := by
  induction A with
  | nil => exact .inr h
  | cons p A ih =>
    rw [List.cons_append, List.lookup_cons] at h
    rw [List.lookup_cons]
    split at h
    · exact .inl h
    · exact ih h
theorem app_lookup {α : Type} {a : Addr} {o : α} {A B : List (Addr × α)} (h : (a, o) ∈ A ++ B) : ∃ o', (A ++ B).lookup a = some o' := in_lookup h
theorem cellsB_of {h : Heap} {a : Addr} {o : Obj} (e : (cellsB X h).lookup a = some o) : (∃ x, X.env.cells.lookup x = some a) ∧ h.get? a = some o := by
  obtain ⟨p, _, q⟩ := List.mem_filterMap.mp (lookup_in e)
  split at q
  · rename_i hl
    cases hg : h.get? p.2 with
    | none => rw [hg] at q; cases q
    | some o' =>
      rw [hg] at q
      cases q
      exact ⟨⟨_, hl⟩, hg⟩
  · cases q
theorem cellsB_in {h : Heap} {x : Str} {c : Addr} {o : Obj} (e : X.env.cells.lookup x = some c) (hg : h.get? c = some o) : (c, o) ∈ cellsB X h :=
  List.mem_filterMap.mpr ⟨(x, c), PySem.mem_of_lookup e, by rw [if_pos e, hg]; rfl⟩
/-- what is held over the call -/
theorem hold_stand {A : Hl} (I : Inv X (pins ++ A) σ H s) (fa : FnA X A) : Stand (A ++ cellsB X s.heap) H s.heap ∧ NF (A ++ cellsB X s.heap) := by
  refine ⟨fun a o e => ?_, fun a o e vs hd => ?_⟩
  · rcases lookup_app e with e | e
    · have q := I.pin (a, o) (List.mem_append_right _ (List.mem_append_right _ (lookup_in e)))
      exact ⟨q.1, q.2.1⟩
    · obtain ⟨⟨x, hx⟩, hg⟩ := cellsB_of e
      exact ⟨hg, I.freeC x a hx⟩
  · rcases lookup_app e with e | e
    · obtain ⟨⟨fd, q⟩, _⟩ := fa _ (lookup_in e)
      rw [hd] at q
      cases q
    · obtain ⟨⟨x, hx⟩, hg⟩ := cellsB_of e
      obtain ⟨v, o', h1, h2⟩ := I.cell x a hx
      rw [hg] at h1
      cases h1
      rw [hd] at h2
      cases h2
theorem hold_env {A : Hl} (I : Inv X (pins ++ A) σ H s) (fa : FnA X A) (mk : MkX L X) : Env0 X.prog X.w X.K X.mg X.base X.A X.stack s (held (A ++ cellsB X s.heap) H) := by
  refine env0_held (hold_stand I fa).1 (fun a o e => ?_) (fun a o e hb => ?_) I.env0
  · rintro ⟨o', hb⟩
    rcases lookup_app e with e | e
    · rw [(fa _ (lookup_in e)).2] at hb
      cases hb
    · obtain ⟨⟨x, hx⟩, hg⟩ := cellsB_of e
      have h1 := I.ok.cab x a (mk.fn x) hx
      exact absurd (Nat.lt_of_lt_of_le (Heap.lt_size hb) (Nat.le_trans I.ok.bsz h1)) (Nat.lt_irrefl _)
  · rcases lookup_app e with e | e
    · have q := I.pin (a, o) (List.mem_append_right _ (List.mem_append_right _ (lookup_in e)))
      rcases List.mem_cons.mp (I.stkSub a hb) with z | z
      · exact q.2.2.1 z
      · exact q.2.2.2.1 z
    · obtain ⟨⟨x, hx⟩, hg⟩ := cellsB_of e
      have h1 := I.ok.cab x a (mk.fn x) hx
      rcases List.mem_cons.mp (I.stkSub a hb) with z | z
      · exact I.cne x a hx z
      · obtain ⟨_, o', ho, _⟩ := I.ok.funs.mem z
        exact absurd (Nat.lt_of_lt_of_le (Heap.lt_size ho) h1) (Nat.lt_irrefl _)
theorem clo_lookup {caps : List Str} {params : Arguments} {scope : Scope} (I : Inv X pins σ H s) (lm : LamMk caps params scope) (hcap : ∀ n ∈ caps, X.env.scope.names.lookup n = some .cell) {x : Str} {c : Addr} (e : (cloFrom X.env.cells scope.names []).lookup x = some c) : X.env.cells.lookup x = some c ∧ x ∈ caps := by
  rcases cloFrom_mem (PySem.mem_of_lookup e) with hm | ⟨h1, h2⟩
  · cases hm
  · have hx := lm.free _ h1 rfl
    obtain ⟨c1, hc⟩ := I.ok.has _ (.inl (hcap _ hx))
    rw [hc] at h2
    have h2 : c = c1 := h2
    rw [h2]
    exact ⟨hc, hx⟩
theorem rcl_hold {Al : Hl} {caps0 : List Str} {params : Arguments} {scope : Scope} {ρ : En} (I : Inv X pins σ H s) (n : EnR L H μ ρ σ) (S : Stand Al H s.heap) (hB : ∀ x c o, X.env.cells.lookup x = some c → s.heap.get? c = some o → ∃ o', Al.lookup c = some o') (lm : LamMk caps0 params scope) (hcap : ∀ n ∈ caps0, X.env.scope.names.lookup n = some .cell) :
    ∀ (is : List Nat) (cs : List Vl) (caps : List Str), capsOf ρ is = some cs → namesOf X.N is = some caps → (∀ x ∈ caps, x ∈ caps0) → RCl L (held Al H) μ cs caps (cloFrom X.env.cells scope.names [])
  | [], cs, caps, h1, h2, _ => by
    cases h1
    cases h2
    exact rfl
  | i :: is, cs, caps, h1, h2, hs => by
    unfold capsOf at h1
    split at h1
    · rename_i v hv
      split at h1
      · rename_i vs hvs
        cases h1
        unfold namesOf at h2
        split at h2
        · rename_i x xs hx hxs
          cases h2
          have hx0 : x ∈ caps0 := hs x List.mem_cons_self
          have kx := hcap x hx0
          obtain ⟨u, hu, rv⟩ := n.2 i v (En.get_some hv)
          obtain ⟨m, hn, hl⟩ := I.loc
          obtain ⟨uv, ru, lk⟩ := hl i x u hx hu (.inr (.inl kx))
          have kx' : X.env.kindOf x = some .cell := kx
          rcases lk with ⟨z, _⟩ | ⟨_, c, hc, oc, hoc, hd⟩
          · rw [kx'] at z; cases z
          · have hm : (x, NameKind.free) ∈ scope.names := PySem.mem_of_lookup (lm.cap x hx0)
            obtain ⟨c2, h2⟩ := mem_lookup (cloFrom_has (cells := X.env.cells) (acc := []) hm)
            obtain ⟨h3, _⟩ := clo_lookup I lm hcap h2
            rw [hc] at h3
            cases h3
            obtain ⟨o', ho'⟩ := hB x c oc hc hoc
            have e := (S c o' ho').1
            rw [hoc] at e
            cases e
            exact ⟨x, xs, c, oc, uv, u, rfl, h2, held_in ho', hd, ru, rv.ext (sub_held fun a o q => (S a o q).2).ext, rcl_hold I n S hB lm hcap is vs xs hvs hxs fun y hy => hs y (List.mem_cons_of_mem _ hy)⟩
        · cases h2
      · cases h1
    · cases h1
theorem rvs_hold (hC : CxOk L M k C) {A : Hl} {ρ : En} (I : Inv X (pins ++ A) σ H s) (n : EnR L H μ ρ σ) (fa : FnA X A) : ∀ {vs : List Vl} {us : List V}, RAs L X ρ H μ A vs us → RVs L (held (A ++ cellsB X s.heap) H) μ vs us
  | [], us, h => h
  | v :: vs, us, ⟨u, r, h1, h2, h3⟩ => by
    have S := (hold_stand I fa).1
    have sb : Sub H (held (A ++ cellsB X s.heap) H) := sub_held fun a o q => (S a o q).2
    refine ⟨u, r, h1, ?_, rvs_hold hC I n fa h3⟩
    rcases h2 with h2 | ⟨l, cs, f, is, caps, ps, N, params, body, scope, pm, ctv, c', rfl, rfl, a1, a2, a3, a4, a5, a6⟩
    · exact h2.ext sb.ext
    · have lm := hC.lamD _ _ _ _ _ _ _ a4
      obtain ⟨o', ho'⟩ := in_lookup (List.mem_append_left (cellsB X s.heap) a5)
      have e := (S f o' ho').1
      have e2 := (I.pin _ (List.mem_append_right _ (List.mem_append_right _ a5))).1
      rw [e2] at e
      cases e
      refine ⟨f, _, _, caps, rfl, held_in ho', ⟨ps, N, params, body, scope, _, pm, ctv, c', a4, fun x c e => (clo_lookup I lm a3 e).2, fun x y c e1 e2 => ?_, rfl, a6.ext (sb.ext (μ := μ))⟩, ?_⟩
      · exact I.ok.inj x y c (clo_lookup I lm a3 e1).1 (clo_lookup I lm a3 e2).1
      · exact rcl_hold I n S (fun x c o e1 e2 => in_lookup (List.mem_append_right _ (cellsB_in e1 e2))) lm a3 is cs caps a1 a2 fun _ h => h
end
theorem as_star {N : List Str} {sc : Scope} {e : E} {es : Es} {pe : Expr} {r : List Expr} {env : Env} (h : chkAs M N (.cons e es) sc (pe :: r) = true) : starEach (pe :: r) env = (false, eval pe env) :: starEach r env := by
  rcases chkAs_cons h with ⟨l, is, rfl⟩ | h
  · cases pe with
    | Starred a p => cases h
    | _ => rfl
  · rw [Bool.and_eq_true] at h
    exact chk_star h.1
theorem as_tail {N : List Str} {sc : Scope} {e : E} {es : Es} {pe : Expr} {r : List Expr} (h : chkAs M N (.cons e es) sc (pe :: r) = true) : chkAs M N es sc r = true := by
  rcases chkAs_cons h with ⟨l, is, rfl⟩ | h
  · have h : (_ && chkAs M N es sc r) = true := h
    rw [Bool.and_eq_true] at h
    exact h.2
  · rw [Bool.and_eq_true] at h
    exact h.2
theorem as_plain {N : List Str} {sc : Scope} {pos : Pos} {env : Env} : ∀ {es : Es} {pes : List Expr}, chkAs M N es sc pes = true → (backTo pos (starEach pes env)).any (·.1) = false
  | .nil, pes, h => by
    cases pes with
    | nil => rfl
    | cons p r => cases h
  | .cons e es, pes, h => by
    cases pes with
    | nil => cases h
    | cons p r =>
      rw [as_star h]
      exact as_plain (es := es) (as_tail h)
theorem ge_calll (hC : CxOk L M k C) {i : Nat} {es : Es} (hs : EachA (GE L M k C) es) : GE L M k C (.calll i es) := by
  intro X W pe g tk h
  unfold chkE at h
  split at h
  · rename_i x p pa l' pos
    simp only [Bool.and_eq_true] at h
    obtain ⟨⟨⟨h1, h2⟩, h3⟩, h4⟩ := h
    have mk := g.mkx (of_decide_eq_true h4)
    obtain ⟨hd, fd, ps, F, e1, e2, e3⟩ := hC.fn i x (nm_of h1)
    have F' := F
    rw [← g.P, ← g.w, ← g.K, ← g.mg, ← g.base] at F'
    rw [← g.mg] at e1
    rw [← g.K] at e2 e3
    have main : PE X (.Call (.Name x p) (pa :: l') [] pos) (tE L W C (.calll i es)) := by
      refine ⟨fun pins s σ H Q I z => ?_⟩
      obtain ⟨ρ, μ, st, S, n, z⟩ := z
      have z : RQ L H μ (WE W σ) ((evEs C es ρ st).bind fun vs st => (C.call i vs st).bind fun v st => if v.flat then .ok v st else .no) (QV (L := L) Q) := z
      have run : wpAny (model X.prog X.w) X.A (spliced (backTo pos (starEach (pa :: l') X.env))) (fun ws s₁ => X.K.In s₁.heap ∧ wpAny (model X.prog X.w) X.A (call (.ref (L.fa i)) ([] ++ ws)) (EP X pins σ Q) X.xe s₁) X.xe s := by
        refine args_run hC g mk tk es (pa :: l') pins s H μ st _ _ hs h3 I S n z.bind fun vs us ws st' H' μ' A s' e' S' I' fa rw_ ras q => ⟨I'.kIn, ?_⟩
        obtain ⟨std, nf⟩ := hold_stand I' fa
        have sb : Sub H' (held (A ++ cellsB X s'.heap) H') := sub_held fun a o q => (std a o q).2
        have sp : spF L C i us (held (A ++ cellsB X s'.heap) H') (QU (A ++ cellsB X s'.heap) Q) (EU (A ++ cellsB X s'.heap) (WE W σ)) :=
          ⟨vs, μ', st', S'.sub sb, rvs_hold hC I' (n.ext e') fa ras, RQ.unheld (fun a o q => (std a o q).2) nf q⟩
        have hl := F'.len _ _ _ _ sp
        have hb' := e3 s' ws I'.kIn (by rw [List.append_nil, ← rw_.length, hl])
        rw [List.append_nil] at hb'
        refine wpAny_call (codeAny_mono (F'.run X.A X.stack s' _ ⟨ws, []⟩ ws us _ _ g.room (hold_env I' fa mk) hb' rw_ sp) fun r s2 hq => ?_)
        have hq := cr_unheld std hq
        cases r with
        | error e => exact passAt tk σ pins H' s' e s2 (Inv.drop I') hq
        | ok fl =>
          cases fl with
          | ret u => exact (Inv.drop I').after hq
          | next => exact False.elim hq
          | brk => exact False.elim hq
          | cont => exact False.elim hq
      refine wpAny_Call_Name_kw (ld_glob I (gl_of h2) e1 ?_ hd)
      cases es with
      | nil => cases h3
      | cons e es => exact PySem.W.callWith_K (h₀ := X.base) I.ok.mod.kin e2 run (as_star h3) (as_plain (as_tail h3))
    exact ⟨main, fun _ => pt_plain main (by intro _; rfl)⟩
  · cases h
end EvS

/-! what the own trees compute: rules for plain data -/
namespace Ev
@[simp] theorem bind_ok {α β : Type} (a : α) (s : Sto) (f : α → Sto → R β) : (R.ok a s).bind f = f a s := rfl
@[simp] theorem bind_no {α β : Type} (f : α → Sto → R β) : (R.no : R α).bind f = .no := rfl
@[simp] theorem out_ok {α : Type} (a : α) (s : Sto) (ρ : En) (f : α → Sto → O) : (R.ok a s).out ρ f = f a s := rfl
@[simp] theorem then_nx (ρ : En) (s : Sto) (f : En → Sto → O) : (O.nx ρ s).then f = f ρ s := rfl
@[simp] theorem then_rt (v : Vl) (s : Sto) (f : En → Sto → O) : (O.rt v s).then f = O.rt v s := rfl
@[simp] theorem then_bk (ρ : En) (s : Sto) (f : En → Sto → O) : (O.bk ρ s).then f = O.bk ρ s := rfl
@[simp] theorem then_ct (ρ : En) (s : Sto) (f : En → Sto → O) : (O.ct ρ s).then f = O.ct ρ s := rfl
@[simp] theorem onB_bl {α : Type} (b : Bool) (t f : R α) : onB (.d (.bl b)) t f = bif b then t else f := by cases b <;> rfl
@[simp] theorem onD_some {α : Type} (a : α) (f : α → R Vl) : onD (some a) f = f a := rfl
@[simp] theorem ofO_some (a : D) (s : Sto) : ofO (some a) s = .ok (.d a) s := rfl
@[simp] theorem ofB_some (a : Bool) (s : Sto) : ofB (some a) s = .ok (.d (.bl a)) s := rfl
@[simp] theorem res_nx (ρ : En) (s : Sto) : (O.nx ρ s).res = .ok (.d .non) s := rfl
@[simp] theorem res_rt (v : Vl) (s : Sto) : (O.rt v s).res = .ok v s := rfl
@[simp] theorem back_ok (x : D) (s st : Sto) : (R.ok (.d x) s).back st = .ok (.d x) st := rfl
@[simp] theorem rawV_d (x : D) (st : Sto) : rawV st (.d x) = some x := rfl
@[simp] theorem rawVs_nil (st : Sto) : rawVs st [] = some [] := rfl
@[simp] theorem rawVs_d (x : D) (vs : List Vl) (st : Sto) : rawVs st (.d x :: vs) = (rawVs st vs).map (x :: ·) := by
  show (match rawVs st vs with
    | none => none
    | some xs => some (x :: xs)) = _
  cases rawVs st vs <;> rfl
@[simp] theorem datVs_nil : datVs [] = some [] := rfl
@[simp] theorem datVs_d (x : D) (vs : List Vl) : datVs (.d x :: vs) = (datVs vs).map (x :: ·) := by
  show (match datVs vs with
    | none => none
    | some xs => some (x :: xs)) = _
  cases datVs vs <;> rfl
theorem call_alone {T : Tab} {n g : Nat} {f : Fd} {vs : List Vl} {st : Sto} (hf : T.fns[g]? = some f) (hl : vs.length = f.np) (ha : f.alone = true) (hp : Vl.pures vs = true) : (T.cx (n + 1)).call g vs st = (evSs (T.cx n) f.body (begin_ f.nn vs) []).res.back st := by
  show (match T.fns[g]? with
    | none => _
    | some f => _) = _
  rw [hf]
  simp only
  rw [if_pos hl, if_pos ha, if_pos hp]
theorem call_open {T : Tab} {n g : Nat} {f : Fd} {vs : List Vl} {st : Sto} (hf : T.fns[g]? = some f) (hl : vs.length = f.np) (ha : f.alone = false) : (T.cx (n + 1)).call g vs st = (evSs (T.cx n) f.body (begin_ f.nn vs) st).res := by
  show (match T.fns[g]? with
    | none => _
    | some f => _) = _
  rw [hf]
  simp only
  rw [if_pos hl, if_neg (by rw [ha]; exact Bool.false_ne_true)]
/-- a for that runs through -/
theorem for_inv {step : D → En → Sto → O} (I : Nat → En → Sto → Prop) : ∀ (xs : List D) (j : Nat) (ρ : En) (st : Sto), (∀ i x ρ st, xs[i]? = some x → I (j + i) ρ st → ∃ ρ' st', (step x ρ st = .nx ρ' st' ∨ step x ρ st = .ct ρ' st') ∧ I (j + i + 1) ρ' st') → I j ρ st →
    ∃ ρ' st', forLoop step xs ρ st = .nx ρ' st' ∧ I (j + xs.length) ρ' st'
  | [], j, ρ, st, _, h0 => ⟨ρ, st, rfl, h0⟩
  | x :: xs, j, ρ, st, h, h0 => by
    obtain ⟨ρ1, st1, h1, h2⟩ := h 0 x ρ st rfl h0
    obtain ⟨ρ2, st2, h3, h4⟩ := for_inv I xs (j + 1) ρ1 st1 (fun i y ρ st hy hi => by
      have := h (i + 1) y ρ st hy (by rw [show j + (i + 1) = j + 1 + i by omega]; exact hi)
      rw [show j + (i + 1) = j + 1 + i by omega] at this
      exact this) h2
    refine ⟨ρ2, st2, ?_, by rw [List.length_cons, show j + (xs.length + 1) = j + 1 + xs.length by omega]; exact h4⟩
    unfold forLoop
    rcases h1 with h1 | h1
    · rw [h1]; exact h3
    · rw [h1]; exact h3
/-- a comprehension whose turns leave the store as it is -/
theorem lc_pure {step : D → Sto → R (Option D)} {f : D → Option D} {st : Sto} : ∀ {xs : List D}, (∀ x ∈ xs, step x st = .ok (f x) st) → lcLoop step xs st = .ok (xs.filterMap f) st
  | [], _ => rfl
  | x :: xs, h => by
    unfold lcLoop
    rw [h x List.mem_cons_self]
    simp only
    rw [lc_pure fun y hy => h y (List.mem_cons_of_mem _ hy)]
    simp only
    rw [List.filterMap_cons]
    cases f x <;> rfl
/-! ### the trees, one by one (a comprehension and a loop are left alone) -/
section
variable (C : Ctx) (ρ : En) (st : Sto)
@[simp] theorem e_cst (d : D) : evE C (.cst d) ρ st = .ok (.d d) st := rfl
@[simp] theorem e_var (i : Nat) : evE C (.var i) ρ st = match ρ.get i with
    | some v => .ok v st
    | none => .no := rfl
@[simp] theorem e_glo (k : Nat) : evE C (.glo k) ρ st = match C.con k with
    | some v => .ok v st
    | none => .no := rfl
@[simp] theorem e_frz (i : Nat) : evE C (.frz i) ρ st = match ρ.get i with
    | some (.ref r) => match st[r]? with
      | some (.lst xs) => .ok (.d (.lst xs)) (st.set r (.fz xs))
      | some (.fz xs) => .ok (.d (.lst xs)) st
      | _ => .no
    | _ => .no := rfl
@[simp] theorem e_tup (es : Es) : evE C (.tup es) ρ st = (evEs C es ρ st).bind fun vs st => onD (datVs vs) fun xs => .ok (.d (.tup xs)) st := rfl
@[simp] theorem e_lst (es : Es) : evE C (.lst es) ρ st = (evEs C es ρ st).bind fun vs st => onD (datVs vs) fun xs => .ok (.d (.lst xs)) st := rfl
@[simp] theorem e_new (es : Es) : evE C (.new es) ρ st = (evEs C es ρ st).bind fun vs st => onD (datVs vs) fun xs => .ok (.ref st.length) (st ++ [.lst xs]) := rfl
@[simp] theorem e_bin (o : Op) (a b : E) : evE C (.bin o a b) ρ st = (evE C a ρ st).bind fun u st => (evE C b ρ st).bind fun v st => onD (rawV st u) fun x => onD (rawV st v) fun y => ofO (opD o x y) st := rfl
@[simp] theorem e_neg (a : E) : evE C (.neg a) ρ st = (evE C a ρ st).bind fun v st => match v with
    | .d (.int i) => .ok (.d (.int (-i))) st
    | _ => .no := rfl
@[simp] theorem e_cmp (o : Cop) (a b : E) : evE C (.cmp o a b) ρ st = (evE C a ρ st).bind fun u st => (evE C b ρ st).bind fun v st => cmpV o u v st := rfl
@[simp] theorem e_chain (o o' : Cop) (a b c : E) : evE C (.chain o o' a b c) ρ st = (evE C a ρ st).bind fun u st => (evE C b ρ st).bind fun v st => (cmpV o u v st).bind fun k st =>
      onB k ((evE C c ρ st).bind fun w st => cmpV o' v w st) (.ok (.d (.bl false)) st) := rfl
@[simp] theorem e_isN (a : E) : evE C (.isN a) ρ st = (evE C a ρ st).bind fun v st => .ok (.d (.bl (noneV v))) st := rfl
@[simp] theorem e_notN (a : E) : evE C (.notN a) ρ st = (evE C a ρ st).bind fun v st => .ok (.d (.bl (!noneV v))) st := rfl
@[simp] theorem e_and (a : E) (es : Es) : evE C (.and a es) ρ st = (evE C a ρ st).bind fun v st => onB v (evAnd C es ρ st) (.ok (.d (.bl false)) st) := rfl
@[simp] theorem e_or (a : E) (es : Es) : evE C (.or a es) ρ st = (evE C a ρ st).bind fun v st => onB v (.ok (.d (.bl true)) st) (evOr C es ρ st) := rfl
@[simp] theorem e_not (a : E) : evE C (.not a) ρ st = (evE C a ρ st).bind fun v st => match v with
    | .d (.bl b) => .ok (.d (.bl (!b))) st
    | _ => .no := rfl
@[simp] theorem e_ife (c a b : E) : evE C (.ife c a b) ρ st = (evE C c ρ st).bind fun v st => onB v (evE C a ρ st) (evE C b ρ st) := rfl
@[simp] theorem e_idx (a i : E) : evE C (.idx a i) ρ st = (evE C a ρ st).bind fun u st => (evE C i ρ st).bind fun v st => idxV u v st := rfl
@[simp] theorem e_slc (a : E) (lo hi : Po) : evE C (.slc a lo hi) ρ st = (evE C a ρ st).bind fun u st => (evPo C lo ρ st).bind fun l st => (evPo C hi ρ st).bind fun h st =>
      onD (rawV st u) fun x => ofO (cutD x l h) st := rfl
@[simp] theorem e_rev (a : E) : evE C (.rev a) ρ st = (evE C a ρ st).bind fun u st => onD (rawV st u) fun x => ofO (revD x) st := rfl
@[simp] theorem e_call (g : Nat) (es : Es) : evE C (.call g es) ρ st = (evEs C es ρ st).bind fun vs st => C.call g vs st := rfl
@[simp] theorem e_blt (b : Bf) (es : Es) : evE C (.blt b es) ρ st = (evEs C es ρ st).bind fun vs st => onD (rawVs st vs) fun xs => ofO (bltD b xs) st := rfl
@[simp] theorem e_sset (a : E) : evE C (.sset a) ρ st = (evE C a ρ st).bind fun v st => onD (rawV st v) fun x => ofO (ssetD x) st := rfl
@[simp] theorem e_mth (m : Mf) (o : E) (es : Es) : evE C (.mth m o es) ρ st = (evE C o ρ st).bind fun u st => if kindM m u st then (evEs C es ρ st).bind fun vs st => mthD m u vs st else .no := rfl
@[simp] theorem es_nil : evEs C .nil ρ st = .ok [] st := rfl
@[simp] theorem es_cons (e : E) (es : Es) : evEs C (.cons e es) ρ st = (evE C e ρ st).bind fun v st => (evEs C es ρ st).bind fun vs st => .ok (v :: vs) st := rfl
@[simp] theorem and_one (e : E) : evAnd C (.cons e .nil) ρ st = evE C e ρ st := rfl
@[simp] theorem and_cons (e e2 : E) (es : Es) : evAnd C (.cons e (.cons e2 es)) ρ st = (evE C e ρ st).bind fun v st => onB v (evAnd C (.cons e2 es) ρ st) (.ok (.d (.bl false)) st) := rfl
@[simp] theorem or_one (e : E) : evOr C (.cons e .nil) ρ st = evE C e ρ st := rfl
@[simp] theorem or_cons (e e2 : E) (es : Es) : evOr C (.cons e (.cons e2 es)) ρ st = (evE C e ρ st).bind fun v st => onB v (.ok (.d (.bl true)) st) (evOr C (.cons e2 es) ρ st) := rfl
@[simp] theorem po_no : evPo C .no ρ st = .ok none st := rfl
@[simp] theorem po_e (a : E) : evPo C (.e a) ρ st = (evE C a ρ st).bind fun v st => match v with
    | .d (.int i) => .ok (some i) st
    | _ => .no := rfl
@[simp] theorem pb_no : evPoB C .no ρ st = .ok true st := rfl
@[simp] theorem pb_e (a : E) : evPoB C (.e a) ρ st = (evE C a ρ st).bind fun v st => match v with
    | .d (.bl i) => .ok i st
    | _ => .no := rfl
@[simp] theorem it_val (a : E) : evIt C (.val a) ρ st = (evE C a ρ st).bind fun v st => match v with
    | .d x => match itemsD x with
      | some xs => .ok xs st
      | none => .no
    | _ => .no := rfl
@[simp] theorem it_rng1 (a : E) : evIt C (.rng1 a) ρ st = (evE C a ρ st).bind fun v st => match v with
    | .d (.int i) => if i.natAbs ≤ line then .ok (rangeD 0 i.toNat) st else .no
    | _ => .no := rfl
@[simp] theorem it_rng2 (a b : E) : evIt C (.rng2 a b) ρ st = (evE C a ρ st).bind fun u st => (evE C b ρ st).bind fun v st => match u, v with
    | .d (.int i), .d (.int j) => if i.natAbs ≤ line / 2 && j.natAbs ≤ line / 2 then .ok (rangeD i (j - i).toNat) st else .no
    | _, _ => .no := rfl
@[simp] theorem it_zip (a b : E) : evIt C (.zip a b) ρ st = (evE C a ρ st).bind fun u st => (evE C b ρ st).bind fun v st => match u, v with
    | .d x, .d y => match zipV x y with
      | some zs => .ok zs st
      | none => .no
    | _, _ => .no := rfl
@[simp] theorem s_set (i : Nat) (e : E) : evS C (.set i e) ρ st = (evE C e ρ st).out ρ fun v st => .nx (ρ.put i v) st := rfl
@[simp] theorem s_unp (ts : Tgs) (e : E) : evS C (.unp ts e) ρ st = (evE C e ρ st).out ρ fun v st => match v with
    | .d (.tup xs) => match bindTs ts xs ρ with
      | some ρ' => .nx ρ' st
      | none => .no
    | _ => .no := rfl
@[simp] theorem s_par2 (i j : Nat) (a b : E) : evS C (.par2 i j a b) ρ st = (evE C a ρ st).out ρ fun u st => (evE C b ρ st).out ρ fun v st => .nx ((ρ.put i u).put j v) st := rfl
@[simp] theorem s_par3 (i j k : Nat) (a b c : E) : evS C (.par3 i j k a b c) ρ st = (evE C a ρ st).out ρ fun u st => (evE C b ρ st).out ρ fun v st => (evE C c ρ st).out ρ fun w st => .nx (((ρ.put i u).put j v).put k w) st := rfl
@[simp] theorem s_idx (o i e : E) : evS C (.idx o i e) ρ st = (evE C e ρ st).out ρ fun v st => (evE C o ρ st).out ρ fun u st => (evE C i ρ st).out ρ fun k st => match setV u k v st with
    | some st' => .nx ρ st'
    | none => .no := rfl
@[simp] theorem s_exp (e : E) : evS C (.exp e) ρ st = (evE C e ρ st).out ρ fun _ st => .nx ρ st := rfl
def onO (v : Vl) (t f : O) : O := match v with
  | .d (.bl true) => t
  | .d (.bl false) => f
  | _ => .no
@[simp] theorem onO_bl (b : Bool) (t f : O) : onO (.d (.bl b)) t f = bif b then t else f := by cases b <;> rfl
@[simp] theorem s_ite (c : E) (a b : Ss) : evS C (.ite c a b) ρ st = (evE C c ρ st).out ρ fun v st => onO v (evSs C a ρ st) (evSs C b ρ st) := by
  show ((evE C c ρ st).out ρ fun v st => match v with
    | .d (.bl true) => evSs C a ρ st
    | .d (.bl false) => evSs C b ρ st
    | _ => .no) = _
  congr 1
@[simp] theorem s_ret (e : E) : evS C (.ret e) ρ st = (evE C e ρ st).out ρ fun v st => .rt v st := rfl
@[simp] theorem s_retN : evS C .retN ρ st = .rt (.d .non) st := rfl
@[simp] theorem s_brk : evS C .brk ρ st = .bk ρ st := rfl
@[simp] theorem s_cnt : evS C .cnt ρ st = .ct ρ st := rfl
@[simp] theorem s_pas : evS C .pas ρ st = .nx ρ st := rfl
@[simp] theorem ss_nil : evSs C .nil ρ st = .nx ρ st := rfl
@[simp] theorem ss_cons (s : S) (r : Ss) : evSs C (.cons s r) ρ st = (evS C s ρ st).then fun ρ st => evSs C r ρ st := rfl
end
/-- a turn of a comprehension -/
def lcS (C : Ctx) (elt : E) (t : Tg) (c : Po) (own : List Nat) (ρ : En) : D → Sto → R (Option D) := fun x st => match bindT t x (ρ.wipe own) with
      | none => .no
      | some ρ' => (evPoB C c ρ' st).bind fun k st => match k with
        | false => .ok none st
        | true => (evE C elt ρ' st).bind fun v st => match v with
          | .d y => .ok (some y) st
          | _ => .no
theorem ev_lc {C : Ctx} {elt : E} {t : Tg} {it : It} {c : Po} {own : List Nat} {ρ : En} {st : Sto} (xs : List D) (f : D → Option D) (hit : evIt C it ρ st = .ok xs st) (hs : ∀ x ∈ xs, lcS C elt t c own ρ x st = .ok (f x) st) :
    evE C (.lc elt t it c own) ρ st = .ok (.d (.lst (xs.filterMap f))) st := by
  have e : evE C (.lc elt t it c own) ρ st = (evIt C it ρ st).bind fun xs st => (lcLoop (lcS C elt t c own ρ) xs st).bind fun ys st => .ok (.d (.lst ys)) st := rfl
  rw [e, hit, bind_ok, lc_pure hs]
  rfl
/-- a turn of a for -/
def forS (C : Ctx) (t : Tg) (b : Ss) : D → En → Sto → O := fun x ρ st => match bindT t x ρ with
      | some ρ' => evSs C b ρ' st
      | none => .no
theorem ev_for {C : Ctx} {t : Tg} {it : It} {b : Ss} {ρ : En} {st : Sto} {xs : List D} {st1 : Sto} (hit : evIt C it ρ st = .ok xs st1) :
    evS C (.for_ t it b) ρ st = forLoop (forS C t b) xs ρ st1 := by
  have e : evS C (.for_ t it b) ρ st = (evIt C it ρ st).out ρ fun xs st => forLoop (forS C t b) xs ρ st := rfl
  rw [e, hit]
  rfl
/-- a for that runs through -/
theorem ev_for_inv {C : Ctx} {t : Tg} {it : It} {b : Ss} {ρ : En} {st : Sto} {xs : List D} {st1 : Sto} (I : Nat → En → Sto → Prop) (hit : evIt C it ρ st = .ok xs st1)
    (h : ∀ i x ρ st, xs[i]? = some x → I i ρ st → ∃ ρ1 ρ2 st2, bindT t x ρ = some ρ1 ∧ (evSs C b ρ1 st = .nx ρ2 st2 ∨ evSs C b ρ1 st = .ct ρ2 st2) ∧ I (i + 1) ρ2 st2) (h0 : I 0 ρ st1) :
    ∃ ρ' st', evS C (.for_ t it b) ρ st = .nx ρ' st' ∧ I xs.length ρ' st' := by
  obtain ⟨ρ', st', h1, h2⟩ := for_inv (step := forS C t b) I xs 0 ρ st1 (fun i x ρ st hx hi => by
    rw [Nat.zero_add] at hi ⊢
    obtain ⟨ρ1, ρ2, st2, q1, q2, q3⟩ := h i x ρ st hx hi
    refine ⟨ρ2, st2, ?_, q3⟩
    unfold forS
    rw [q1]
    exact q2) h0
  rw [Nat.zero_add] at h2
  exact ⟨ρ', st', by rw [ev_for hit]; exact h1, h2⟩
theorem range_len : ∀ (n : Nat) (lo : Int), (rangeD lo n).length = n
  | 0, _ => rfl
  | n + 1, lo => by rw [rangeD, List.length_cons, range_len n]
theorem range_get : ∀ (n : Nat) (lo : Int) (i : Nat), i < n → (rangeD lo n)[i]? = some (.int (lo + i))
  | 0, _, _, h => absurd h (by omega)
  | n + 1, lo, 0, _ => by simp [rangeD]
  | n + 1, lo, i + 1, h => by
    show (rangeD (lo + 1) n)[i]? = _
    rw [range_get n (lo + 1) i (by omega)]
    congr 2
    omega
theorem range_lt {n : Nat} {lo : Int} {i : Nat} {x : D} (h : (rangeD lo n)[i]? = some x) : i < n ∧ x = .int (lo + i) := by
  have h1 := (List.getElem?_eq_some_iff.mp h).1
  rw [range_len] at h1
  rw [range_get n lo i h1] at h
  exact ⟨h1, (Option.some.inj h).symm⟩
theorem boolsD_map (bs : List Bool) : boolsD (bs.map D.bl) = some bs := by
  induction bs with
  | nil => rfl
  | cons b bs ih =>
    show (match boolsD (bs.map D.bl) with
      | some bs => some (b :: bs)
      | none => none) = _
    rw [ih]
theorem intsD_map (bs : List Int) : intsD (bs.map D.int) = some bs := by
  induction bs with
  | nil => rfl
  | cons b bs ih =>
    show (match intsD (bs.map D.int) with
      | some bs => some (b :: bs)
      | none => none) = _
    rw [ih]
theorem filterMap_some {α β : Type} (f : α → β) (xs : List α) : xs.filterMap (fun x => some (f x)) = xs.map f := by
  induction xs with
  | nil => rfl
  | cons x xs ih => rw [List.filterMap_cons, ih]; rfl
theorem mem_insI {x y : Int} : ∀ {l : List Int}, y ∈ insI x l ↔ y = x ∨ y ∈ l
  | [] => by simp [insI]
  | z :: l => by
    unfold insI
    split
    · simp
    · split
      · rename_i h
        subst h
        simp
      · rw [List.mem_cons, mem_insI (l := l), List.mem_cons]
        constructor
        · rintro (h | h | h)
          · exact .inr (.inl h)
          · exact .inl h
          · exact .inr (.inr h)
        · rintro (h | h | h)
          · exact .inr (.inl h)
          · exact .inl h
          · exact .inr (.inr h)
theorem mem_setI {y : Int} : ∀ {l : List Int}, y ∈ setI l ↔ y ∈ l
  | [] => by simp [setI]
  | x :: l => by
    show y ∈ insI x (setI l) ↔ _
    rw [mem_insI, mem_setI (l := l), List.mem_cons]
theorem up_insI {x : Int} : ∀ {l : List Int}, l.Pairwise (· < ·) → (insI x l).Pairwise (· < ·)
  | [], _ => by simp [insI]
  | y :: l, h => by
    obtain ⟨h1, h2⟩ := List.pairwise_cons.mp h
    unfold insI
    split
    · rename_i hlt
      refine List.pairwise_cons.mpr ⟨fun z hz => ?_, h⟩
      rcases List.mem_cons.mp hz with rfl | hz
      · exact hlt
      · exact Int.lt_trans hlt (h1 z hz)
    · split
      · exact h
      · rename_i n1 n2
        refine List.pairwise_cons.mpr ⟨fun z hz => ?_, up_insI h2⟩
        rcases mem_insI.mp hz with rfl | hz
        · omega
        · exact h1 z hz
theorem up_setI : ∀ l : List Int, (setI l).Pairwise (· < ·)
  | [] => List.Pairwise.nil
  | x :: l => up_insI (up_setI l)
theorem len_insI {x : Int} : ∀ l : List Int, (insI x l).length ≤ l.length + 1
  | [] => by simp [insI]
  | y :: l => by
    unfold insI
    split
    · simp
    · split
      · simp
      · simp only [List.length_cons]
        have := len_insI (x := x) l
        omega
theorem len_setI : ∀ l : List Int, (setI l).length ≤ l.length
  | [] => Nat.le_refl _
  | x :: l => by
    have := len_insI (x := x) (setI l)
    have := len_setI l
    show (insI x (setI l)).length ≤ l.length + 1
    omega
theorem up_inj : ∀ {a b : List Int}, a.Pairwise (· < ·) → b.Pairwise (· < ·) → (∀ k, k ∈ a ↔ k ∈ b) → a = b
  | [], [], _, _, _ => rfl
  | [], y :: b, _, _, h => absurd ((h y).mpr List.mem_cons_self) (by simp)
  | x :: a, [], _, _, h => absurd ((h x).mp List.mem_cons_self) (by simp)
  | x :: a, y :: b, ha, hb, h => by
    obtain ⟨a1, a2⟩ := List.pairwise_cons.mp ha
    obtain ⟨b1, b2⟩ := List.pairwise_cons.mp hb
    have e : x = y := by
      rcases List.mem_cons.mp ((h x).mp List.mem_cons_self) with e | e
      · exact e
      · rcases List.mem_cons.mp ((h y).mpr List.mem_cons_self) with e2 | e2
        · exact e2.symm
        · have := a1 y e2
          have := b1 x e
          omega
    subst e
    congr 1
    refine up_inj a2 b2 fun k => ⟨fun hk => ?_, fun hk => ?_⟩
    · rcases List.mem_cons.mp ((h k).mp (List.mem_cons_of_mem _ hk)) with e | e
      · have := a1 k hk
        omega
      · exact e
    · rcases List.mem_cons.mp ((h k).mpr (List.mem_cons_of_mem _ hk)) with e | e
      · have := b1 k hk
        omega
      · exact e
/-! ### comparisons -/
section
variable (a b : Int) (p q : Bool)
theorem cop_lt : copD .lt (.int a) (.int b) = some (decide (a < b)) := rfl
theorem cop_le : copD .le (.int a) (.int b) = some (decide (a ≤ b)) := rfl
theorem cop_gt : copD .gt (.int a) (.int b) = some (decide (b < a)) := rfl
theorem cop_ge : copD .ge (.int a) (.int b) = some (decide (b ≤ a)) := rfl
theorem cop_eq : copD .eq (.int a) (.int b) = some (a == b) := rfl
theorem cop_ne : copD .ne (.int a) (.int b) = some (!(a == b)) := rfl
theorem cop_eqB : copD .eq (.bl p) (.bl q) = some (p == q) := rfl
theorem cop_neB : copD .ne (.bl p) (.bl q) = some (!(p == q)) := rfl
theorem cop_eqS (s t : List Nat) : copD .eq (.str s) (.str t) = some (s == t) := rfl
theorem cop_neS (s t : List Nat) : copD .ne (.str s) (.str t) = some (!(s == t)) := rfl
end
theorem cop_eqD {x y : D} (h : min x.depth y.depth ≤ 64) : copD .eq x y = some (D.eqv x y) := by
  show (if min x.depth y.depth ≤ 64 then some (D.eqv x y) else none) = _
  rw [if_pos h]
theorem cop_neD {x y : D} (h : min x.depth y.depth ≤ 64) : copD .ne x y = some (!D.eqv x y) := by
  show (if min x.depth y.depth ≤ 64 then some (!D.eqv x y) else none) = _
  rw [if_pos h]
theorem op_addI (a b : Int) : opD .add (.int a) (.int b) = some (.int (a + b)) := rfl
theorem op_subI (a b : Int) : opD .sub (.int a) (.int b) = some (.int (a - b)) := rfl
theorem op_addB (a : Bool) (b : Int) : opD .add (.bl a) (.int b) = some (.int ((if a then 1 else 0) + b)) := rfl
theorem idxV_d (x y : D) (st : Sto) : idxV (.d x) (.d y) st = ofO (idxD x y) st := rfl
theorem cmpV_d (o : Cop) (x y : D) (st : Sto) : cmpV o (.d x) (.d y) st = ofB (copD o x y) st := by
  cases o <;> rfl
end Ev

namespace EvS
open PySem PySem.Spec PyProof.Rows L2 Ev
section
variable {X : L2.Cx}
/-- set(t) of a tuple of ints -/
def rSetTI (K : PySem.W.Frag) (w : World) : List V → Hp → VK → Prop := fun vs H Q => ∃ (p : Addr) (ns : List Int), vs = [.ref p] ∧ SqT K H p (ns.map V.int) ∧ ns.length < 64 ∧ ∀ q c, H q = none → c ≤ ns.length → Q (.ref q) (upd H q (SetO w q (fun j => decide (j ∈ ns)) c))
theorem cr_setTI (hc : X.calm = true) : CallR X (.type "set") (rSetTI X.K X.w) := by
  intro pins s σ H vs us Q I r h
  obtain ⟨p, ns, rfl, hq, hl, q⟩ := h
  obtain ⟨u, rfl, ru⟩ := Vals.one r
  cases ru
  obtain ⟨its, rv, pt, hz⟩ := I.tuple hq
  have hi : IntsAre its.toArray.toList ns := ints_of_vals rv
  refine call_set_tupI ns (I.ok.hd hc) (show s.heap.IsTuple p its.toArray from pt) hi (by unfold scanBound; omega) fun h' tk c R1 hcn k => ?_
  exact ⟨.ref s.heap.objs.size, _, I.laid k (Nat.le_refl _) (setO_new R1), rfl, q _ c (I.hok.fresh (Nat.le_refl _)) hcn⟩
end
theorem CallR.or {X : L2.Cx} {f : Value} {r1 r2 : List V → Hp → VK → Prop} (h1 : CallR X f r1) (h2 : CallR X f r2) : CallR X f (fun vs H Q => r1 vs H Q ∨ r2 vs H Q) := by
  intro pins s σ H vs us Q I r h
  rcases h with h | h
  · exact h1 pins s σ H vs us Q I r h
  · exact h2 pins s σ H vs us Q I r h
theorem sortB_sub {xs ys : List D} (h : sortB xs = true) (s : ∀ y ∈ ys, y ∈ xs) : sortB ys = true := by
  unfold sortB at h ⊢
  simp only [Bool.and_eq_true, List.all_eq_true] at h ⊢
  exact ⟨⟨fun x hx => h.1.1 x (s x hx), fun x hx y hy => h.1.2 x (s x hx) y (s y hy)⟩, fun x hx => h.2 x (s x hx)⟩
variable {L : Lw} {M : Nm} {k : Nat} {C : Ev.Ctx}
theorem ge_sset (hC : CxOk L M k C) {a : E} (ha : GE L M k C a) : GE L M k C (.sset a) := by
  intro X W pe g tk h
  unfold chkE at h
  split at h
  · rename_i x p1 y p2 pa pos2 pos
    simp only [Bool.and_eq_true] at h
    obtain ⟨⟨h1, h2⟩, h3⟩ := h
    obtain ⟨rfl, g1⟩ := isB_of h1
    obtain ⟨rfl, g2⟩ := isB_of h2
    have hm : ∀ n ∈ bnames, X.mg n = none := fun n hn => by rw [g.mg]; exact hC.blt n hn
    have main := (PE.lk (pe_callB (p := p1) (pos := pos) (CallR.or (cr_sortedSet g.calm) (cr_sortedN g.calm g.u70)) g1 (hm _ (by decide)) boot_sorted (pa_cons (pe_callTy (p := p2) (pos := pos2) (CallR.or (cr_setTI g.calm) (cr_setD g.calm g.u70)) g2 (hm _ (by decide)) boot_set (pa_cons (ha X W pa g tk h3).1 pa_nil (chk_star h3)) (by decide) (by decide) (chk_star h3) (by rfl)) pa_nil (by rfl)) (by decide) (by decide) (by rfl) (by rfl))).imp (t' := tE L W C (.sset a)) fun σ H Q z => by
      obtain ⟨ρ, μ, st, S, n, z⟩ := z
      refine tE_bind S n z fun u x st' H' μ' e S' n' r z => ?_
      obtain ⟨c, e4, z⟩ := onD_cases z
      obtain ⟨d, e5, z⟩ := ofO_cases z
      have q1 := rawV_rw S' r e4
      unfold ssetD at e5
      split at e5
      · rename_i xs
        split at e5
        · rename_i is hi
          split at e5
          · rename_i hl
            cases e5
            obtain ⟨p, vs, rfl, h1, l1, r1⟩ := q1.tup
            have ev := intsD_vs r1 hi
            subst ev
            rw [← g.K] at h1
            refine .inl ⟨p, is, rfl, h1, hl, fun q c hq hc => ?_⟩
            refine .inl ⟨q, _, c, rfl, upd_same, by omega, fun ns p3 a1 a2 a3 a4 => ?_⟩
            have en : ns = setI is := up_inj a1 (up_setI is) fun k => by rw [a2, mem_setI]; simp
            subst en
            refine .inr ⟨p3, _, rfl, upd_same, trivial, fun od => ?_⟩
            rw [upd_upd]
            have x1 : Ext H' μ' (upd H' q (SetO X.w q (fun j => decide (j ∈ is)) c)) μ' := Ext.fix hq
            have s1 := S'.fix (o := SetO X.w q (fun j => decide (j ∈ is)) c) hq
            refine z _ _ (x1.trans (Ext.fix a4)) (s1.fix a4) _ ⟨p3, _, rfl, .inl ⟨od, upd_same⟩, ?_, ?_⟩
            · rw [List.length_map]
              have := len_setI is
              show _ ≤ 16777216
              omega
            · have ir : ∀ (H : Hp) (ns : List Int), RDs L.K H (ns.map D.int) (ns.map V.int) := by
                intro H ns
                induction ns with
                | nil => rfl
                | cons n ns ih => exact ⟨.int n, ns.map V.int, rfl, rfl, ih⟩
              exact ir _ _
          · cases e5
        · cases e5
      · rename_i xs
        split at e5
        · rename_i hb
          cases e5
          simp only [Bool.and_eq_true, decide_eq_true_eq, List.all_eq_true] at hb
          obtain ⟨⟨⟨⟨b1, b2⟩, b3⟩, b4⟩, b5⟩ := hb
          obtain ⟨al, _, _⟩ := sortB_all b1
          obtain ⟨p, vs, rfl, h1, l1, r1⟩ := q1.lst
          obtain ⟨ks, ek, ex, hks⟩ := r1.refs b2
          rw [← g.K, ek] at h1
          have inx : ∀ p ∈ ks, p.2 ∈ xs := fun p hp => by rw [ex]; exact List.mem_map.mpr ⟨p, hp, rfl⟩
          have al2 : AllAlk (onceD xs) := fun a ha b hb => al a (onceD_sub ha) b (onceD_sub hb)
          refine .inr ⟨p, ks, rfl, h1, fun p hp => ⟨by rw [g.K]; exact hks p hp, b2 _ (inx p hp), b3 _ (inx p hp)⟩, fun M nd sub => ?_, fun a M ha sub all nd => ?_⟩
          · have z := nodup_le (m := (onceD xs).map toK) nd fun k hk => by
              obtain ⟨q, hq, e1⟩ := List.mem_map.mp (sub k hk)
              obtain ⟨p, hp, rfl⟩ := List.mem_map.mp hq
              exact List.mem_map.mpr ⟨p.2, onceD_all al (inx p hp), e1⟩
            rw [List.length_map] at z
            exact Nat.le_trans z b5
          · have x1 : Ext H' μ' (upd H' a (SetNO X.w a (M.map kof))) μ' := Ext.fix ha
            have s1 := S'.fix (o := SetNO X.w a (M.map kof)) ha
            have inM : ∀ y ∈ M.map (·.2), y ∈ xs := fun y hy => by
              obtain ⟨p, hp, rfl⟩ := List.mem_map.mp hy
              exact inx p (sub p hp)
            have ndM : (M.map (·.2)).Nodup := by
              have e : (M.map fun q => toK q.2) = (M.map (·.2)).map toK := by rw [List.map_map]; rfl
              rw [e] at nd
              exact List.Pairwise.of_map toK (fun _ _ hne e => hne (congrArg toK e)) nd
            have pm : (M.map (·.2)).Perm (onceD xs) := (List.perm_ext_iff_of_nodup ndM (onceD_nodup xs)).mpr fun y => ⟨fun hy => onceD_all al (inM y hy), fun hy => by
              have hy := onceD_sub hy
              rw [ex] at hy
              obtain ⟨p, hp, rfl⟩ := List.mem_map.mp hy
              obtain ⟨q, hq, e1⟩ := List.mem_map.mp (all p hp)
              have e2 : D.eqv q.2 p.2 = true := by rw [eqv_key (b2 _ (inx q (sub q hq))) (b2 _ (inx p hp)), decide_eq_true e1]
              exact List.mem_map.mpr ⟨q, hq, alk_eqv _ _ (al _ (inx q (sub q hq)) _ (inx p hp)) e2⟩⟩
            have eS : sortD (M.map (·.2)) = sortD (onceD xs) := sortD_perm al2 (onceD_nodup xs) pm
            refine .inr ⟨a, M, rfl, upd_same, fun p hp => ⟨by rw [g.K]; exact (show RD L.K H' p.2 (.ref p.1) from hks p (sub p hp)).ext x1, b2 _ (inx p (sub p hp)), b3 _ (inx p (sub p hp))⟩, sortB_sub b1 inM, fun p3 ys hp3 r3 => ?_⟩
            refine .inr ⟨p3, _, rfl, upd_same, trivial, fun od => ?_⟩
            rw [upd_upd]
            have x2 : Ext (upd H' a (SetNO X.w a (M.map kof))) μ' (upd (upd H' a (SetNO X.w a (M.map kof))) p3 (.frz od (.lst ys))) μ' := Ext.fix hp3
            rw [g.K, eS] at r3
            refine z _ _ (x1.trans x2) (s1.fix hp3) _ ⟨p3, _, rfl, .inl ⟨od, upd_same⟩, ?_, r3.ext x2⟩
            rw [sortD_len]
            exact Nat.le_trans b5 (by decide)
        · cases e5
      · cases e5
    exact ⟨main, fun _ => pt_plain main (by intro _; rfl)⟩
  · cases h
end EvS

namespace EvS
open PySem PySem.Spec PyProof.Rows L2 Ev
variable {L : Lw} {M : Nm} {k : Nat} {C : Ev.Ctx}
section
variable {X : L2.Cx} {W : WX} {pe : Expr}
/-! ### parts, tests -/
theorem gPo_no : GPo L M k C .no := by
  intro X W g tk
  refine ⟨fun pe h => ?_, fun ps h => ?_⟩
  · cases pe with
    | none => exact ⟨fun pins s σ H Q I z => po_none.run pins s σ H Q I (by
        obtain ⟨ρ, μ, st, S, n, z⟩ := z
        exact z.ok S)⟩
    | some _ => cases h
  · cases ps with
    | nil => exact ⟨fun pins s σ H Q I z => pts_nil.run pins s σ H Q I (by
        obtain ⟨ρ, μ, st, S, n, z⟩ := z
        exact z.ok S)⟩
    | cons _ _ => cases h
theorem gPo_e {e : E} (he : GE L M k C e) : GPo L M k C (.e e) := by
  intro X W g tk
  refine ⟨fun pe h => ?_, fun ps h => ?_⟩
  · cases pe with
    | none => cases h
    | some p => exact ⟨fun pins s σ H Q I z => (po_some (he X W p g tk h).1).run pins s σ H Q I (by
        obtain ⟨ρ, μ, st, S, n, z⟩ := z
        refine tE_bind S n z fun u x st' H' μ' e S' n' r z => ?_
        split at z
        · rename_i i
          exact ⟨i, r, z.ok S'⟩
        · exact z.elim)⟩
  · unfold chkPoB at h
    split at h
    · rename_i p
      rw [Bool.and_eq_true] at h
      exact ⟨fun pins s σ H Q I z => (pts_one ((he X W p g tk h.2).2 h.1)).run pins s σ H Q I (by
        obtain ⟨ρ, μ, st, S, n, z⟩ := z
        refine ⟨ρ, μ, st, S, n, z.bind.mono fun a st' H' μ' ex S' q => ?_⟩
        split at q
        · rename_i b
          exact ⟨b, rfl, q.ok S'⟩
        · exact q.elim)⟩
    · cases h

/-! ### what is walked -/
theorem walkD_list {H : Hp} {a : Addr} {xs : List D} {vs : List V} (h : FzL L.K H a vs) (hl : xs.length ≤ line) (r : RDs L.K H xs vs) : WalkD L (Itl L.K a) xs H := by
  refine ⟨hl, fun H' => FzL L.K H' a vs, YAt vs, ?_, fun H' e => h.fix e, fun i H1 x H' hi e y => ?_⟩
  · rw [← r.len]
    exact walk_list.mono (fun H h => h.sq) fun i H x H' _ _ y => y
  · obtain ⟨rfl, hx⟩ := y
    obtain ⟨d, hd⟩ : ∃ d, xs[i]? = some d := ⟨xs[i], List.getElem?_eq_getElem hi⟩
    obtain ⟨v, e1, e2⟩ := r.get hd
    rw [hx] at e1
    cases e1
    exact ⟨.inl rfl, d, hd, e2.fix e⟩
theorem walkD_tup {H : Hp} {a : Addr} {xs : List D} {vs : List V} (h : SqT L.K H a vs) (hl : xs.length ≤ line) (r : RDs L.K H xs vs) : WalkD L (Itt L.K a) xs H := by
  refine ⟨hl, fun H' => SqT L.K H' a vs, YAt vs, ?_, fun H' e => sqT_fix h e, fun i H1 x H' hi e y => ?_⟩
  · rw [← r.len]
    exact walk_tup
  · obtain ⟨rfl, hx⟩ := y
    obtain ⟨d, hd⟩ : ∃ d, xs[i]? = some d := ⟨xs[i], List.getElem?_eq_getElem hi⟩
    obtain ⟨v, e1, e2⟩ := r.get hd
    rw [hx] at e1
    cases e1
    exact ⟨.inl rfl, d, hd, e2.fix e⟩
theorem walkD_str {H : Hp} {s : List Nat} (hl : s.length ≤ line) (hc : ∀ c ∈ s, c < 128) : WalkD L (Its ⟨s.toArray⟩) (signsD s) H := by
  refine ⟨by unfold signsD; rw [List.length_map]; exact hl, fun _ => True, (fun i H v H' => H' = H ∧ ∃ c, (⟨s.toArray⟩ : Str).cps[i]? = some c ∧ v = .str ⟨#[c]⟩), ?_, fun _ _ => trivial, fun i H1 x H' hi e y => ?_⟩
  · have e : (signsD s).length = (⟨s.toArray⟩ : Str).cps.size := by unfold signsD; simp
    rw [e]
    exact walk_str
  · obtain ⟨rfl, c, hx, rfl⟩ := y
    have hx : s[i]? = some c := by simpa using hx
    refine ⟨.inl rfl, .str [c], by unfold signsD; rw [List.getElem?_map, hx]; rfl, RD.str1 (List.mem_of_getElem? hx) hc⟩
theorem rangeD_get : ∀ (n : Nat) (lo : Int) (i : Nat), i < n → (rangeD lo n)[i]? = some (.int (lo + i))
  | 0, _, _, h => absurd h (by omega)
  | n + 1, lo, 0, _ => by simp [rangeD]
  | n + 1, lo, i + 1, h => by
    show (rangeD (lo + 1) n)[i]? = _
    rw [rangeD_get n (lo + 1) i (by omega)]
    congr 2
    omega
theorem rangeD_len : ∀ (n : Nat) (lo : Int), (rangeD lo n).length = n
  | 0, _ => rfl
  | n + 1, lo => by rw [rangeD, List.length_cons, rangeD_len n]
theorem walkD_range {H : Hp} {lo : Int} {n : Nat} (hl : n ≤ line) : WalkD L (Itr lo n) (rangeD lo n) H := by
  refine ⟨by rw [rangeD_len]; exact hl, fun _ => True, (YFn fun i => .int (lo + i)), ?_, fun _ _ => trivial, fun i H1 x H' hi e y => ?_⟩
  · rw [rangeD_len]
    exact walk_range
  · obtain ⟨rfl, rfl⟩ := y
    rw [rangeD_len] at hi
    exact ⟨.inl rfl, _, rangeD_get n lo i hi, rfl⟩
theorem zipD_get : ∀ (xs ys : List D) (i : Nat), i < (zipD xs ys).length → ∃ x y, xs[i]? = some x ∧ ys[i]? = some y ∧ (zipD xs ys)[i]? = some (.tup [x, y])
  | [], _, i, h => by
    unfold zipD at h
    cases h
  | _ :: _, [], i, h => by
    unfold zipD at h
    cases h
  | x :: xs, y :: ys, 0, _ => ⟨x, y, rfl, rfl, rfl⟩
  | x :: xs, y :: ys, i + 1, h => zipD_get xs ys i (by
    have : (zipD (x :: xs) (y :: ys)).length = (zipD xs ys).length + 1 := rfl
    omega)
theorem zipD_len : ∀ (xs ys : List D), (zipD xs ys).length = min xs.length ys.length
  | [], ys => by simp [zipD]
  | _ :: _, [] => by simp [zipD]
  | x :: xs, y :: ys => by
    show (zipD xs ys).length + 1 = min (xs.length + 1) (ys.length + 1)
    rw [zipD_len xs ys]
    omega
theorem walk_zipT {K : PySem.W.Frag} {a b : Addr} {xs ys : List V} {n : Nat} (hn : n = min xs.length ys.length) : Walk (RZ.ItzT K a b) n (fun H => SqT K H a xs ∧ SqT K H b ys) (YPair (fun i => xs[i]?) (fun i => ys[i]?)) := by
  subst hn
  refine ⟨fun i _ hi q => ?_, fun _ q => ⟨xs, ys, q.1, q.2, by omega⟩, fun i H v H' _ q y => ?_⟩
  · have h1 : i < xs.length := by omega
    have h2 : i < ys.length := by omega
    exact ⟨xs, ys, xs[i], ys[i], q.1, q.2, by simp [h1], by simp [h2]⟩
  · obtain ⟨T, x, z, h1, h2, h3, h4, h5⟩ := y
    exact ⟨T, x, z, h1, h2, h3, h4 xs q.1, h5 ys q.2⟩
theorem walkD_pair {H : Hp} {J : L2.It} {G : Hp → Prop} {xs ys : List D} {vs us : List V} (w : Walk J (min vs.length us.length) G (YPair (fun i => vs[i]?) (fun i => us[i]?))) (hG : ∀ H', (∀ a o, H a = some o → Fix o → H' a = some o) → G H')
    (hl : xs.length ≤ line) (r1 : RDs L.K H xs vs) (r2 : RDs L.K H ys us) : WalkD L J (zipD xs ys) H := by
  refine ⟨by rw [zipD_len]; omega, G, (YPair (fun i => vs[i]?) (fun i => us[i]?)), ?_, hG, fun i H1 x H' hi e y => ?_⟩
  · rw [zipD_len, ← r1.len, ← r2.len]
    exact w
  · obtain ⟨T, v, u, rfl, hT, rfl, e1, e2⟩ := y
    obtain ⟨d1, d2, q1, q2, q3⟩ := zipD_get xs ys i hi
    obtain ⟨v', f1, g1⟩ := r1.get q1
    obtain ⟨u', f2, g2⟩ := r2.get q2
    have e1 : vs[i]? = some v := e1
    have e2 : us[i]? = some u := e2
    rw [e1] at f1
    rw [e2] at f2
    cases f1
    cases f2
    have nx : ∀ a o, H a = some o → Fix o → upd H1 T (.tup [v, u]) a = some o := fun a o q f => by
      have := e a o q f
      rw [upd_ne (ne_of_none this hT)]
      exact this
    refine ⟨.inr ⟨T, .tup [v, u], hT, trivial, rfl⟩, _, q3, T, [v, u], rfl, SqT.of upd_same, by show 2 ≤ 16777216; decide, v, [u], rfl, g1.fix nx, u, [], rfl, g2.fix nx, rfl⟩
theorem gI_val {e : E} (he : GE L M k C e) : GI L M k C (.val e) := by
  intro X W tg pe g tk h
  have h : chkE M X.N e X.env.scope pe = true := h
  refine ⟨⟨fun pins s σ H R I z => (pi_any (tg := tg) (he X W pe g tk h).1).run pins s σ H R I ?_⟩, chk_fold h⟩
  obtain ⟨ρ, μ, st, S, n, z⟩ := z
  refine tE_bind S n z fun u x st' H' μ' e S' n' r z => ?_
  split at z
  · rename_i d
    split at z
    · rename_i xs hx
      have z := z.ok S'
      have r : RD L.K H' d x := r
      unfold itemsD at hx
      split at hx
      · cases hx
        obtain ⟨a, vs, rfl, h1, h2, h3⟩ := r
        refine .inr (.inl ⟨a, vs, rfl, by rw [g.K]; exact h1, ?_⟩)
        rw [g.K]
        exact z _ (walkD_tup h1 h2 h3)
      · cases hx
        obtain ⟨a, vs, rfl, h1, h2, h3⟩ := r
        refine .inl ⟨a, vs, rfl, by rw [g.K]; exact h1.sq, ?_⟩
        rw [g.K]
        exact z _ (walkD_list h1 h2 h3)
      · cases hx
        obtain ⟨rfl, h2, h3⟩ := r
        exact .inr (.inr ⟨_, rfl, z _ (walkD_str h2 h3)⟩)
      · cases hx
    · exact z.elim
  · exact z.elim
theorem gI_rng1 (hC : CxOk L M k C) {e : E} (he : GE L M k C e) : GI L M k C (.rng1 e) := by
  intro X W tg pe g tk h
  unfold chkIt at h
  split at h
  · rename_i x p pa pos
    rw [Bool.and_eq_true] at h
    obtain ⟨rfl, hg⟩ := isB_of h.1
    have hm : X.mg (Str.ofString "range") = none := by rw [g.mg]; exact hC.blt _ (by decide)
    refine ⟨⟨fun pins s σ H R I z => (pi_range1 (tg := tg) hg hm (pa_cons (he X W pa g tk h.2).1 pa_nil (chk_star h.2)) (chk_star h.2)).run pins s σ H R I ?_⟩, fun _ => rfl⟩
    obtain ⟨ρ, μ, st, S, n, z⟩ := z
    refine tE_bind S n z fun u x st' H' μ' e S' n' r z => ?_
    split at z
    · rename_i i
      split at z
      · rename_i hi
        obtain rfl : x = .int i := r
        have hi : i.natAbs ≤ 16777216 := hi
        refine ⟨i, rfl, by omega, by omega, z.ok S' _ (walkD_range ?_)⟩
        show i.toNat ≤ 16777216
        omega
      · exact z.elim
    · exact z.elim
  · cases h
theorem gI_rng2 (hC : CxOk L M k C) {a b : E} (ha : GE L M k C a) (hb : GE L M k C b) : GI L M k C (.rng2 a b) := by
  intro X W tg pe g tk h
  unfold chkIt at h
  split at h
  · rename_i x p pa pb pos
    simp only [Bool.and_eq_true] at h
    obtain ⟨rfl, hg⟩ := isB_of h.1.1
    have hm : X.mg (Str.ofString "range") = none := by rw [g.mg]; exact hC.blt _ (by decide)
    have s2 : starEach [pb] X.env = [(false, eval pb X.env)] := chk_star h.2
    have s1 : starEach [pa, pb] X.env = [(false, eval pa X.env), (false, eval pb X.env)] := by rw [chk_star h.1.2, s2]
    refine ⟨⟨fun pins s σ H R I z => (pi_range2 (tg := tg) hg hm (pa_cons (ha X W pa g tk h.1.2).1 (pa_cons (hb X W pb g tk h.2).1 pa_nil (chk_star h.2)) (chk_star h.1.2)) s1 s2).run pins s σ H R I ?_⟩, fun _ => rfl⟩
    obtain ⟨ρ, μ, st, S, n, z⟩ := z
    refine tE_bind S n z fun u x st' H' μ' e S' n' r z => ?_
    refine tE_bind S' n' z fun v y st2 H2 μ2 e2 S2 n2 r2 z => ?_
    split at z
    · rename_i i j _
      split at z
      · rename_i hi
        rw [Bool.and_eq_true] at hi
        obtain rfl : x = .int i := r
        obtain rfl : y = .int j := r2
        have h1 : i.natAbs ≤ 8388608 := of_decide_eq_true hi.1
        have h2 : j.natAbs ≤ 8388608 := of_decide_eq_true hi.2
        refine ⟨i, j, rfl, ⟨by omega, by omega, by omega, by omega⟩, z.ok S2 _ (walkD_range ?_)⟩
        show (j - i).toNat ≤ 16777216
        omega
      · exact z.elim
    · exact z.elim
  · cases h
theorem gI_zip (hC : CxOk L M k C) {a b : E} (ha : GE L M k C a) (hb : GE L M k C b) : GI L M k C (.zip a b) := by
  intro X W tg pe g tk h
  unfold chkIt at h
  split at h
  · rename_i x p pa pb pos
    simp only [Bool.and_eq_true] at h
    obtain ⟨⟨⟨ht, hz⟩, h1⟩, h2⟩ := h
    cases tg with
    | Tuple elts kk tpos =>
      obtain ⟨rfl, hg⟩ := isB_of hz
      have hm : X.mg (Str.ofString "zip") = none := by rw [g.mg]; exact hC.blt _ (by decide)
      have s2 : starEach [pb] X.env = (false, eval pb X.env) :: starEach [] X.env := chk_star h2
      refine ⟨⟨fun pins s σ H R I z => (RZ.pi_zipA (elts := elts) (kk := kk) (tpos := tpos) hg hm (pa_cons (ha X W pa g tk h1).1 (pa_cons (hb X W pb g tk h2).1 pa_nil (chk_star h2)) (chk_star h1)) (chk_star h1) (by rw [s2]; rfl)).run pins s σ H R I ?_⟩, fun _ => rfl⟩
      obtain ⟨ρ, μ, st, S, n, z⟩ := z
      refine tE_bind S n z fun u x st' H' μ' e S' n' r z => ?_
      refine tE_bind S' n' z fun v y st2 H2 μ2 e2 S2 n2 r2 z => ?_
      split at z
      · rename_i d1 d2 _
        split at z
        · rename_i zs hx
          have z := z.ok S2
          have r : RD L.K H2 d1 x := r.ext e2
          have r2 : RD L.K H2 d2 y := r2
          unfold zipV at hx
          split at hx
          · cases hx
            obtain ⟨p1, vs, rfl, a1, a2, a3⟩ := r
            obtain ⟨p2, us, rfl, b1, b2, b3⟩ := r2
            refine ⟨p1, p2, vs, us, rfl, .inl ⟨by rw [g.K]; exact a1.sq, by rw [g.K]; exact b1.sq, ?_⟩⟩
            rw [g.K]
            exact z _ (walkD_pair (walk_zip rfl) (fun H' e => ⟨(a1.fix e).sq, (b1.fix e).sq⟩) a2 a3 b3)
          · cases hx
            obtain ⟨p1, vs, rfl, a1, a2, a3⟩ := r
            obtain ⟨p2, us, rfl, b1, b2, b3⟩ := r2
            refine ⟨p1, p2, vs, us, rfl, .inr ⟨by rw [g.K]; exact a1, by rw [g.K]; exact b1, ?_⟩⟩
            rw [g.K]
            exact z _ (walkD_pair (walk_zipT rfl) (fun H' e => ⟨sqT_fix a1 e, sqT_fix b1 e⟩) a2 a3 b3)
          · cases hx
        · exact z.elim
      · exact z.elim
    | _ => cases ht
  · cases h
end
end EvS

namespace EvS
open PySem PySem.Spec PyProof.Rows L2 Ev
variable {L : Lw} {M : Nm} {k : Nat} {C : Ev.Ctx}
section
variable {X : L2.Cx} {W : WX} {pe : Expr}
theorem EnR.put {H : Hp} {μ : Mu} {ρ : En} {σ : L2.St} {v : Vl} {u : V} (i : Nat) (n : EnR L H μ ρ σ) (r : RV L H μ v u) : EnR L H μ (ρ.put i v) (σ.set i (some u)) := by
  unfold En.put
  refine ⟨by simp [n.1], fun j w hj => ?_⟩
  by_cases e : i = j
  · subst e
    by_cases hl : i < ρ.length
    · rw [List.getElem?_set_self hl] at hj
      cases hj
      exact ⟨u, List.getElem?_set_self (by rw [← n.1]; exact hl), r⟩
    · rw [List.getElem?_eq_none (by simpa using hl)] at hj
      cases hj
  · rw [List.getElem?_set_ne e] at hj
    obtain ⟨u', h1, h2⟩ := n.2 j w hj
    exact ⟨u', by rw [List.getElem?_set_ne e]; exact h1, h2⟩
theorem EnR.wipe {H : Hp} {μ : Mu} {ρ : En} {σ : L2.St} (n : EnR L H μ ρ σ) : ∀ vs : List Nat, EnR L H μ (ρ.wipe vs) (L2.wipe σ vs)
  | [] => n
  | i :: vs => by
    have ih := EnR.wipe n vs
    refine ⟨?_, fun j w hj => ?_⟩
    · show ((ρ.wipe vs).set i none).length = ((L2.wipe σ vs).set i none).length
      simp [ih.1]
    · have hj : ((ρ.wipe vs).set i none)[j]? = some (some w) := hj
      by_cases e : i = j
      · subst e
        by_cases hl : i < (ρ.wipe vs).length
        · rw [List.getElem?_set_self hl] at hj
          cases hj
        · rw [List.getElem?_eq_none (by simpa using hl)] at hj
          cases hj
      · rw [List.getElem?_set_ne e] at hj
        obtain ⟨u', h1, h2⟩ := ih.2 j w hj
        exact ⟨u', by show ((L2.wipe σ vs).set i none)[j]? = _; rw [List.getElem?_set_ne e]; exact h1, h2⟩

/-! ### targets -/
def gT (L : Lw) (t : Tg) : TG := fun v σ H Q => ∃ x ρ ρ' μ, RD L.K H x v ∧ EnR L H μ ρ σ ∧ bindT t x ρ = some ρ' ∧ ∀ σ', EnR L H μ ρ' σ' → σ'.length = σ.length → (∀ i, i ∉ t.slots → σ'[i]? = σ[i]?) → Q σ' H
def gTs (L : Lw) (ts : Tgs) : TGs := fun vs σ H Q => ∃ xs ρ ρ' μ, RDs L.K H xs vs ∧ EnR L H μ ρ σ ∧ bindTs ts xs ρ = some ρ' ∧ ∀ σ', EnR L H μ ρ' σ' → σ'.length = σ.length → (∀ i, i ∉ ts.slots → σ'[i]? = σ[i]?) → Q σ' H
theorem chkT_star {N : List Str} {l : Bool} {t : Tg} {sc : Scope} {p : Expr} {es : List Expr} {env : Env} (h : chkT N l t sc p = true) : assignEach (p :: es) env = (false, assign p env) :: assignEach es env := by
  cases p with
  | Starred a b => cases t <;> cases h
  | _ => rfl
theorem chkTs_each {N : List Str} {l : Bool} {env : Env} {sc : Scope} : ∀ {ts : Tgs} {es : List Expr}, chkTs N l ts sc es = true → (assignEach es env).length = es.length ∧ (assignEach es env).findIdx? (·.1) = none ∧ ts.len = es.length
  | .nil, es, h => by
    cases es with
    | nil => exact ⟨rfl, rfl, rfl⟩
    | cons _ _ => cases h
  | .cons t ts, es, h => by
    cases es with
    | nil => cases h
    | cons p r =>
      have h : (chkT N l t sc p && chkTs N l ts sc r) = true := h
      rw [Bool.and_eq_true] at h
      obtain ⟨h1, h2, h3⟩ := chkTs_each (env := env) h.2
      rw [chkT_star h.1]
      refine ⟨by simp [h1], ?_, by show ts.len + 1 = _; simp [h3]⟩
      rw [List.findIdx?_cons, h2]
      rfl
theorem bindTs_len : ∀ {ts : Tgs} {xs : List D} {ρ ρ' : En}, bindTs ts xs ρ = some ρ' → ts.len = xs.length
  | .nil, [], _, _, _ => rfl
  | .nil, _ :: _, _, _, h => by cases h
  | .cons _ _, [], _, _, h => by cases h
  | .cons t ts, x :: xs, ρ, ρ', h => by
    unfold bindTs at h
    split at h
    · show ts.len + 1 = _
      rw [bindTs_len h]
      rfl
    · cases h
mutual
theorem pg_T (hK : X.K = L.K) (hc : X.calm = true) (hN : X.N.Nodup) {l : Bool} (hf : l = false → ∀ x, X.env.scope.names.lookup x = some .cell → X.fn x = true) : ∀ (t : Tg) (p : Expr), chkT X.N l t X.env.scope p = true → PG X p (gT L t)
  | .nm i, p, h => by
    cases p with
    | Name x pos =>
      have h : (nmB X.N i x && (if l then lclB X.env.scope x else locB X.env.scope x)) = true := h
      rw [Bool.and_eq_true] at h
      have hl : L2.Loc X.env.scope x ∧ (X.fn x = true ∨ X.env.scope.names.lookup x = some .local) := by
        cases l with
        | true => exact ⟨.inl (lcl_of h.2), .inr (lcl_of h.2)⟩
        | false =>
          rcases loc_of h.2 with q | q
          · exact ⟨.inl q, .inr q⟩
          · exact ⟨.inr q, .inl (hf rfl x q)⟩
      refine (pg_name hN (nm_of h.1) hl.1 hl.2).imp fun v σ H Q z => ?_
      obtain ⟨y, ρ, ρ', μ, r, n, e, q⟩ := z
      cases e
      exact q _ (n.put i (v := .d y) r) (by simp) fun j hj => List.getElem?_set_ne (fun e => hj (by subst e; exact List.mem_singleton.mpr rfl))
    | _ => cases h
  | .tp ts, p, h => by
    cases p with
    | Tuple es kk pos =>
      have h : chkTs X.N l ts X.env.scope es = true := h
      obtain ⟨h1, h2, h3⟩ := chkTs_each (env := X.env) h
      refine (pg_tup (n := es.length) hc (pg_Ts hK hc hN hf ts es h) h1 h2).imp fun v σ H Q z => ?_
      obtain ⟨y, ρ, ρ', μ, r, n, e, q⟩ := z
      cases y with
      | tup xs =>
        obtain ⟨a, vs, rfl, a1, a2, a3⟩ := r
        have e : bindTs ts xs ρ = some ρ' := e
        exact ⟨a, vs, rfl, by rw [hK]; exact a1, by rw [a3.len, ← bindTs_len e, h3], xs, ρ, ρ', μ, a3, n, e, q⟩
      | _ => cases e
    | _ => cases h
theorem pg_Ts (hK : X.K = L.K) (hc : X.calm = true) (hN : X.N.Nodup) {l : Bool} (hf : l = false → ∀ x, X.env.scope.names.lookup x = some .cell → X.fn x = true) : ∀ (t : Tgs) (p : List Expr), chkTs X.N l t X.env.scope p = true → PGs X p (gTs L t)
  | .nil, p, h => by
    cases p with
    | nil =>
      refine pgs_nil.imp fun v σ H Q z => ?_
      obtain ⟨y, ρ, ρ', μ, r, n, e, q⟩ := z
      cases y with
      | nil =>
        cases e
        exact ⟨r, q σ n rfl fun _ _ => rfl⟩
      | cons _ _ => cases e
    | cons _ _ => cases h
  | .cons t ts, p, h => by
    cases p with
    | nil => cases h
    | cons p r =>
      have h : (chkT X.N l t X.env.scope p && chkTs X.N l ts X.env.scope r) = true := h
      rw [Bool.and_eq_true] at h
      refine (pgs_cons (pg_T hK hc hN hf t p h.1) (pg_Ts hK hc hN hf ts r h.2) (by rw [chkT_star h.1]; rfl)).imp fun v σ H Q z => ?_
      obtain ⟨y, ρ, ρ', μ, r, n, e, q⟩ := z
      cases y with
      | nil => cases e
      | cons y ys =>
        obtain ⟨u, us, rfl, r1, r2⟩ := r
        unfold bindTs at e
        split at e
        · rename_i ρ1 e1
          refine ⟨u, us, rfl, y, ρ, ρ1, μ, r1, n, e1, fun σ1 n1 l1 k1 => ⟨ys, ρ1, ρ', μ, r2, n1, e, fun σ2 n2 l2 k2 => q σ2 n2 (l2.trans l1) fun i hi => ?_⟩⟩
          have hi : i ∉ t.slots ++ ts.slots := hi
          rw [List.mem_append, not_or] at hi
          rw [k2 i hi.2, k1 i hi.1]
        · cases e
    
end
theorem wipe_eq {σ σ' : L2.St} (hl : σ'.length = σ.length) : ∀ {vs : List Nat}, (∀ i, i ∉ vs → σ'[i]? = σ[i]?) → L2.wipe σ' vs = L2.wipe σ vs := by
  have get : ∀ (σ : L2.St) (vs : List Nat) (i : Nat), i < σ.length → (L2.wipe σ vs)[i]? = if i ∈ vs then some none else σ[i]? := by
    intro σ vs
    induction vs with
    | nil => intro i _; simp [L2.wipe]
    | cons v vs ih =>
      intro i hi
      unfold L2.wipe
      by_cases e : v = i
      · subst e
        rw [List.getElem?_set_self (by rw [wipe_length]; exact hi)]
        simp
      · rw [List.getElem?_set_ne e, ih i hi]
        have : (i ∈ v :: vs) ↔ i ∈ vs := by
          rw [List.mem_cons]
          exact ⟨fun h => h.elim (fun q => absurd q.symm e) id, .inr⟩
        by_cases h : i ∈ vs
        · rw [if_pos h, if_pos (this.mpr h)]
        · rw [if_neg h, if_neg (fun q => h (this.mp q))]
  intro vs hk
  refine List.ext_getElem? fun i => ?_
  by_cases hi : i < σ.length
  · rw [get σ vs i hi, get σ' vs i (by rw [hl]; exact hi)]
    by_cases h : i ∈ vs
    · rw [if_pos h, if_pos h]
    · rw [if_neg h, if_neg h, hk i h]
  · rw [List.getElem?_eq_none (by rw [wipe_length]; omega), List.getElem?_eq_none (by rw [wipe_length]; omega)]
theorem wipe_self {σ : L2.St} {vs : List Nat} : L2.wipe (L2.wipe σ vs) vs = L2.wipe σ vs := by
  refine wipe_eq (wipe_length σ vs) fun i hi => ?_
  have : ∀ (vs : List Nat), i ∉ vs → (L2.wipe σ vs)[i]? = σ[i]? := by
    intro vs
    induction vs with
    | nil => intro _; rfl
    | cons v vs ih =>
      intro h
      rw [List.mem_cons, not_or] at h
      unfold L2.wipe
      rw [List.getElem?_set_ne (fun e => h.1 e.symm), ih h.2]
  exact this vs hi

/-! ### a comprehension's list -/
theorem KVs.fix {H H' : Hp} (e : ∀ a o, H a = some o → Fix o → H' a = some o) : ∀ {kvs : List (D × D)} {xs : List (PySem.NestedKey × Addr × Value)}, KVs L H kvs xs → KVs L H' kvs xs
  | [], _, h => h
  | (_, _) :: _, _, ⟨a, val, u, xr, h1, h2, h3, h4, h5, h6⟩ => ⟨a, val, u, xr, h1, h2, h3.fix e, h4, h5.fix e, KVs.fix e h6⟩
section
variable {H0 H H' : Hp} {μ0 μ : Mu} {st : Sto} {A : Addr} {o u : HO}
theorem Ext.late (hA : H0 A = none) (e : Ext H0 μ0 H μ) : Ext H0 μ0 (upd H A o) μ := by
  refine ⟨fun a w h f => ?_, fun a w h t n => ?_, e.ln, e.al, e.nw, fun a ps h => ?_⟩
  · rw [upd_ne (ne_of_none h hA)]
    exact e.im a w h f
  · rw [upd_ne (ne_of_none h hA)]
    exact e.fr a w h t n
  · obtain ⟨ps', h'⟩ := e.tb a ps h
    exact ⟨ps', by rw [upd_ne (ne_of_none h hA)]; exact h'⟩
theorem upd_fix (hA : H A = some u) (hm : Mut (some u)) : ∀ a w, H a = some w → Fix w → (upd H A o) a = some w := fun a w h f => by
  rw [upd_ne]
  · exact h
  · rintro rfl
    exact mut_not_fix hA hm h f
theorem Sim.late (hA : H A = some u) (hm : Mut (some u)) (hn : ∀ r : Nat, μ[r]? ≠ some (some A)) (S : Sim L H μ st) : Sim L (upd H A o) μ st where
  len := S.len
  inj := S.inj
  cell := fun r c h => by
    have z := S.cell r c h
    have hk : ∀ a : Addr, μ[r]? = some (some a) → (upd H A o) a = H a := fun a ha => upd_ne (fun e => hn r (by rw [← e]; exact ha))
    cases c with
    | dead => exact z
    | lst xs =>
      obtain ⟨a, vs, h1, h2, h3, h4⟩ := z
      exact ⟨a, vs, h1, by rw [hk a h1]; exact h2, h3, h4.fix (upd_fix hA hm)⟩
    | dic kvs =>
      obtain ⟨a, xs, h1, h2, h3, h4⟩ := z
      exact ⟨a, xs, h1, by rw [hk a h1]; exact h2, h3, h4.fix (upd_fix hA hm)⟩
    | ins c fs => exact z.elim
    | fz xs =>
      obtain ⟨a, o, vs, h1, h2, h3, h4⟩ := z
      exact ⟨a, o, vs, h1, by rw [hk a h1]; exact h2, h3, h4.fix (upd_fix hA hm)⟩
    | fdic kvs =>
      obtain ⟨a, o, vs, h1, h2, h3, h4⟩ := z
      exact ⟨a, o, vs, h1, by rw [hk a h1]; exact h2, h3, h4.fix (upd_fix hA hm)⟩
  some_ := fun r a h => by
    obtain ⟨w, h1, h2⟩ := S.some_ r a h
    exact ⟨w, by rw [upd_ne (fun e => hn r (by rw [← e]; exact h))]; exact h1, h2⟩
  tab := fun q hq => TabF.ext (upd_fix hA hm) (fun b ps h => by
    rw [upd_ne]
    · exact h
    · rintro rfl
      rw [hA] at h
      cases h
      exact hm.elim) (S.tab q hq)
end
theorem RQ.bind0 {α β : Type} {H : Hp} {μ : Mu} {E : XK} {r : R α} {f : α → Sto → R β} {Q : β → Sto → Hp → Mu → Prop} (h : RQ L H μ E (r.bind f) Q) : RQ L H μ E r fun a st _ _ => RQ L H μ E (f a st) Q := by
  cases r with
  | ok a st => exact fun H' μ' e _ => h
  | ex c fs st => exact h
  | no => exact h
/-- one turn -/
theorem lcLoop_cons {H : Hp} {μ : Mu} {E F : XK} {step : D → Sto → R (Option D)} {x : D} {xs : List D} {st : Sto} {Q : List D → Sto → Hp → Mu → Prop} (h : RQ L H μ E (lcLoop step (x :: xs) st) Q) :
    RQ L H μ F (step x st) fun o st2 _ _ => RQ L H μ E (lcLoop step xs st2) fun ys => Q (match o with
      | some y => y :: ys
      | none => ys) := by
  unfold lcLoop at h
  cases q : step x st with
  | ok o s2 =>
    rw [q] at h
    intro H' μ' _ _
    simp only at h
    cases q2 : lcLoop step xs s2 with
    | ok ys s3 =>
      rw [q2] at h
      exact h
    | ex c fs s3 => rw [q2] at h; exact h.elim
    | no => rw [q2] at h; exact h.elim
  | ex c fs s2 => rw [q] at h; exact h.elim
  | no => rw [q] at h; exact h.elim
end
end EvS

namespace EvS
open PySem PySem.Spec PyProof.Rows L2 Ev
variable {L : Lw} {M : Nm} {k : Nat} {C : Ev.Ctx}
section
variable {H0 H H' : Hp} {μ0 μ : Mu} {st : Sto} {A : Addr} {o u : HO}
/-- what was laid on the way becomes a cell -/
theorem Ext.adopt (hA : H0 A = none) (e : Ext H0 μ0 H μ) : Ext H0 μ0 H (μ ++ [some A]) where
  im := e.im
  fr := e.fr
  ln := by
    rw [List.length_append]
    exact Nat.le_trans e.ln (Nat.le_add_right _ _)
  al := fun r a h q => e.al r a h (by rw [List.getElem?_append_left (Nat.lt_of_lt_of_le h e.ln)] at q; exact q)
  nw := fun r a q => by
    by_cases hr : r < μ.length
    · rw [List.getElem?_append_left hr] at q
      exact e.nw r a q
    · rw [List.getElem?_append_right (by omega)] at q
      cases z : r - μ.length with
      | zero =>
        rw [z] at q
        simp at q
        subst q
        exact .inr hA
      | succ n => rw [z] at q; simp at q
  tb := e.tb
theorem Sim.adopt {c : Cell} (hA : H A = some u) (hm : NoTbl u) (hn : ∀ r : Nat, μ[r]? ≠ some (some A)) (S : Sim L H μ st) (hc : CellR L H (μ ++ [some A]) μ.length c) : Sim L H (μ ++ [some A]) (st ++ [c]) where
  len := by simp [S.len]
  inj := fun i j a h1 h2 => by
    have at_ : ∀ {i : Nat}, (μ ++ [some A])[i]? = some (some a) → (i < μ.length ∧ μ[i]? = some (some a)) ∨ (i = μ.length ∧ a = A) := fun {i} h => by
      by_cases hr : i < μ.length
      · rw [List.getElem?_append_left hr] at h
        exact .inl ⟨hr, h⟩
      · rw [List.getElem?_append_right (by omega)] at h
        cases q : i - μ.length with
        | zero => rw [q] at h; simp at h; exact .inr ⟨by omega, h.symm⟩
        | succ n => rw [q] at h; simp at h
    rcases at_ h1 with ⟨l1, e1⟩ | ⟨l1, e1⟩ <;> rcases at_ h2 with ⟨l2, e2⟩ | ⟨l2, e2⟩
    · exact S.inj i j a e1 e2
    · subst e2; exact absurd e1 (hn i)
    · subst e1; exact absurd e2 (hn j)
    · omega
  cell := fun r c' h => by
    by_cases hr : r < st.length
    · rw [List.getElem?_append_left hr] at h
      refine CellR.keep (Ext.refl H μ) (fun a h => ⟨h, fun o q => q⟩) (S.cell r c' h) |> fun z => ?_
      have hm' : r < μ.length := by rw [S.len]; exact hr
      have q : ∀ a : Addr, μ[r]? = some (some a) → (μ ++ [some A])[r]? = some (some a) := fun a z => by rw [List.getElem?_append_left hm']; exact z
      cases c' with
      | dead => exact z
      | ins _ _ => exact z
      | lst xs =>
        obtain ⟨a, vs, h1, h2⟩ := z
        exact ⟨a, vs, q a h1, h2⟩
      | dic kvs =>
        obtain ⟨a, xs, h1, h2⟩ := z
        exact ⟨a, xs, q a h1, h2⟩
      | fz xs =>
        obtain ⟨a, o, vs, h1, h2⟩ := z
        exact ⟨a, o, vs, q a h1, h2⟩
      | fdic kvs =>
        obtain ⟨a, o, vs, h1, h2⟩ := z
        exact ⟨a, o, vs, q a h1, h2⟩
    · rw [List.getElem?_append_right (by omega)] at h
      cases q : r - st.length with
      | zero =>
        rw [q] at h
        simp at h
        subst h
        have e : r = μ.length := by have := S.len; omega
        rw [e]
        exact hc
      | succ n => rw [q] at h; simp at h
  some_ := fun r a h => by
    by_cases hr : r < μ.length
    · rw [List.getElem?_append_left hr] at h
      exact S.some_ r a h
    · rw [List.getElem?_append_right (by omega)] at h
      cases q : r - μ.length with
      | zero =>
        rw [q] at h
        simp at h
        subst h
        exact ⟨u, hA, hm⟩
      | succ n => rw [q] at h; simp at h
  tab := S.tab
end
theorem dicO_new {P : Program} {w : World} {H : Hp} (h : Heap) (hb : sysModules < h.objs.size) : ObjOk P w H (h.push { cls := .type "dict", data := .dict #[] }) h.objs.size (DicO P w h.objs.size []) :=
  dicO_ok (beq_eq_false_iff_ne.mpr (Ne.symm (Nat.ne_of_lt hb))) (Heap.DictOfH.new h)
/-- {} -/
def tNewN (P : Program) (w : World) : TE := fun _ H Q => ∀ p, H p = none → Q (.ref p) (upd H p (DicO P w p []))
/-- {k: v} -/
def tOneN (P : Program) (w : World) (K : PySem.W.Frag) (tk tv : TE) : TE := fun σ H Q => ∀ p, H p = none → tk σ (upd H p (DicO P w p [])) fun x H1 => tv σ H1 fun y H2 => H2 p = some (DicO P w p []) ∧ ∃ (a : Addr) (d : D), x = .ref a ∧ d.key = true ∧ RD K H2 d (.ref a) ∧
  ∀ (u : Value), RelV y u → Q (.ref p) (upd H2 p (DicO P w p [(toK d, a, u)]))
section
variable {X : L2.Cx} {pos : Pos}
theorem pe_newN : PE X (.Dict [] [] pos) (tNewN X.prog X.w) := ⟨fun pins s σ H Q I h =>
  wpAny_Dict_empty ⟨.ref s.heap.objs.size, _, I.laid (a := s.heap.objs.size) (o := DicO X.prog X.w s.heap.objs.size []) (t' := s.toks) (fun _ _ q => Heap.get?_push_of_some _ q) (Nat.le_refl _) (dicO_new s.heap I.big), rfl, h _ (I.hok.fresh (Nat.le_refl _))⟩⟩
theorem pe_oneN {ke ve : Expr} {tk tv : TE} (hr : (nestedKind X.prog X.w).room X.A) (hk : PE X ke tk) (hv : PE X ve tv) : PE X (.Dict [some ke] [ve] pos) (tOneN X.prog X.w X.K tk tv) := by
  refine ⟨fun pins s σ H Q I q => ?_⟩
  have hn := I.hok.fresh (Nat.le_refl s.heap.objs.size)
  have I1 := I.laid (a := s.heap.objs.size) (o := DicO X.prog X.w s.heap.objs.size []) (h' := s.heap.push { cls := .type "dict", data := .dict #[] }) (t' := s.toks) (fun _ _ q => Heap.get?_push_of_some _ q) (Nat.le_refl _) (dicO_new s.heap I.big)
  have e0 : (pairTrees [some ke] [ve] X.env pos) ≠ [] := fun z => by cases z
  have e1 : (pairTrees [some ke] [ve] X.env pos).length ≤ 15 := by show 1 ≤ 15; decide
  rw [arm_eval_Dict, zip_pairTrees [some ke] [ve] X.env pos rfl rfl, dictDisplay_pairs _ e0 (by omega)]
  refine wpAny_bind (wpAny_standAt (wpAny_bind (wpAny_subDictH (knd := nestedKind X.prog X.w) (Q := fun d s' => wpAny (model X.prog X.w) X.A (pure (Value.ref d)) (EP X pins σ Q) X.xe s') hr e1 ?_)))
  refine pairTrees_cons_walk (thn (hk.run pins _ σ _ _ I1 (q _ hn)) fun kv s1 ⟨x, H1, I2, rx, q1⟩ => thn (hv.run pins s1 σ H1 _ I2 q1) fun vv s2 ⟨y, H2, I3, ry, h0, a, d, ex, hd, rd, q2⟩ => pairTrees_nil_walk ?_)
  subst ex
  obtain rfl : kv = Value.ref a := rx
  obtain ⟨⟨d1, o, es, ep, e1, e2, e3, e4, e5⟩, _, _⟩ := I3.hok _ _ h0
  refine ⟨[(toK d, a, vv)], ⟨rfl, rfl, key_is I3 hd rd, trivial⟩, ⟨o, es, ep, e1, e2, e3, e4, (fun x hx => by cases hx), e5⟩, fun h' tk dd sb => wpAny_pure ?_⟩
  have dd : h'.DictOfH (nestedKind X.prog X.w) s.heap.objs.size [(toK d, a, vv)] := dd
  have he : ∃ q, h'.get? s.heap.objs.size = some q := let ⟨q, _, _, hq, _⟩ := dd; ⟨q, hq⟩
  exact ⟨.ref _, _, I3.write (t' := tk) (x := s.heap.objs.size) (e := s.heap.objs.size) (o := DicO X.prog X.w s.heap.objs.size [(toK d, a, vv)]) (by rw [h0]; trivial) (.inl rfl) (fun b w hb z => (sb.2 b hb).trans z) he (dicO_ok d1 dd), rfl, q2 vv ry⟩
theorem dic0_go {σ : L2.St} {H : Hp} {Q : VK} {W : WX} (g : GdM L M k X) (z : tE L W C (.dic .nil .nil) σ H Q) : tNewN X.prog X.w σ H Q := by
  obtain ⟨ρ, μ, st, S, n, z⟩ := z
  have z : RQ L H μ (WE W σ) (.ok (.ref st.length) (st ++ [.dic []])) (QV (L := L) Q) := z
  intro p hp
  have ex : Ext H μ (upd H p (DicO X.prog X.w p [])) (μ ++ [some p]) := Ext.new hp
  rw [g.P, g.w] at ex ⊢
  refine z _ _ ex (S.new hp trivial ⟨p, [], by simp, upd_same, by show 0 ≤ 16777216; decide, rfl⟩) _ ⟨?_, fun a ha => ?_, p, rfl⟩
  · rw [List.length_append, S.len]
    exact Nat.lt_succ_self _
  · rw [← S.len] at ha
    simp at ha
    rw [ha]
theorem dic1_go {a b : E} {σ : L2.St} {H : Hp} {Q : VK} {W : WX} (g : GdM L M k X) (z : tE L W C (.dic (.cons a .nil) (.cons b .nil)) σ H Q) : tOneN X.prog X.w X.K (tE L W C a) (tE L W C b) σ H Q := by
      obtain ⟨ρ, μ, st, S, n, z⟩ := z
      have z : RQ L H μ (WE W σ) ((evE C a ρ st).bind fun u st => (evE C b ρ st).bind fun v st => onD (datVs [u]) fun ks => onD (datVs [v]) fun vs =>
          if ks.length = vs.length ∧ ks.length ≤ 15 ∧ ks.all D.key then .ok (.ref st.length) (st ++ [.dic (pairsD ks vs [])]) else .no) (QV (L := L) Q) := by
        have z : RQ L H μ (WE W σ) (((evE C a ρ st).bind fun v st => (R.ok [] st).bind fun vs st => R.ok (v :: vs) st).bind fun kl st => ((evE C b ρ st).bind fun v st => (R.ok [] st).bind fun vs st => R.ok (v :: vs) st).bind fun vl st => onD (datVs kl) fun ks => onD (datVs vl) fun vs =>
          if ks.length = vs.length ∧ ks.length ≤ 15 ∧ ks.all D.key then .ok (.ref st.length) (st ++ [.dic (pairsD ks vs [])]) else .no) (QV (L := L) Q) := z
        cases q : evE C a ρ st with
        | ok u s1 =>
          rw [q] at z
          have z : RQ L H μ (WE W σ) (((evE C b ρ s1).bind fun v st => (R.ok [] st).bind fun vs st => R.ok (v :: vs) st).bind fun vl st => onD (datVs [u]) fun ks => onD (datVs vl) fun vs =>
            if ks.length = vs.length ∧ ks.length ≤ 15 ∧ ks.all D.key then .ok (.ref st.length) (st ++ [.dic (pairsD ks vs [])]) else .no) (QV (L := L) Q) := z
          show RQ L H μ (WE W σ) ((evE C b ρ s1).bind fun v st => onD (datVs [u]) fun ks => onD (datVs [v]) fun vs =>
            if ks.length = vs.length ∧ ks.length ≤ 15 ∧ ks.all D.key then .ok (.ref st.length) (st ++ [.dic (pairsD ks vs [])]) else .no) (QV (L := L) Q)
          cases q2 : evE C b ρ s1 with
          | ok v s2 => rw [q2] at z; exact z
          | ex c fs s2 => rw [q2] at z; exact z
          | no => rw [q2] at z; exact z
        | ex c fs s1 => rw [q] at z; exact z
        | no => rw [q] at z; exact z
      intro p hp
      have x0 : Ext H μ (upd H p (DicO X.prog X.w p [])) μ := Ext.fix hp
      have S0 : Sim L (upd H p (DicO X.prog X.w p [])) μ st := S.fix hp
      have out1 : ∀ r : Nat, μ[r]? ≠ some (some p) := fun r q => by
        obtain ⟨o, h1, _⟩ := S.some_ r p q
        rw [hp] at h1
        cases h1
      refine ⟨ρ, μ, st, S0, n.ext x0, (z.bind0.ext x0).mono fun u st1 H1 μ1 e1 S1 z x r => ⟨ρ, μ1, st1, S1, n.ext (x0.trans e1), (z.bind0.ext (x0.trans e1)).mono fun v st2 H2 μ2 e2 S2 z y r2 => ?_⟩⟩
      have ee : Ext (upd H p (DicO X.prog X.w p [])) μ H2 μ2 := e1.trans e2
      have h0 : H2 p = some (DicO X.prog X.w p []) := ee.fr p _ upd_same trivial out1
      have out2 : ∀ r : Nat, μ2[r]? ≠ some (some p) := fun r q => by
        rcases ee.nw r p q with ⟨r', q'⟩ | q'
        · exact out1 r' q'
        · rw [upd_same] at q'
          cases q'
      obtain ⟨ks, ek, z⟩ := onD_cases z
      obtain ⟨vs, ev, z⟩ := onD_cases z
      cases u with
      | d dk =>
        cases v with
        | d dv =>
          cases ek
          cases ev
          by_cases hk : dk.key = true
          · rw [if_pos ⟨rfl, (by show 1 ≤ 15; decide), by simp [hk]⟩] at z
            have r1 : RD L.K H2 dk x := (show RD L.K H1 dk x from r).ext e2
            obtain ⟨ka, rfl⟩ := key_ref hk r1
            refine ⟨h0, ka, dk, rfl, hk, by rw [g.K]; exact r1, fun val rv => ?_⟩
            have hm : Mut (some (DicO X.prog X.w p [])) := trivial
            have e3 : Ext H μ (upd H2 p (DicO X.prog X.w p [(toK dk, ka, val)])) μ2 := Ext.late hp (x0.trans ee)
            have S3 : Sim L (upd H2 p (DicO X.prog X.w p [(toK dk, ka, val)])) μ2 st2 := S2.late h0 hm out2
            have keep := upd_fix (o := DicO X.prog X.w p [(toK dk, ka, val)]) h0 hm
            refine z _ _ (Ext.adopt hp e3) (S3.adopt upd_same trivial out2 ⟨p, [(toK dk, ka, val)], by simp, by rw [g.P, g.w]; exact upd_same, by show 1 ≤ 16777216; decide, ka, val, y, [], rfl, hk, r1.fix keep, rv, (show RD L.K H2 dv y from r2).fix keep, rfl⟩) _ ⟨?_, fun a ha => ?_, p, rfl⟩
            · rw [List.length_append, S2.len]
              exact Nat.lt_succ_self _
            · rw [← S2.len] at ha
              simp at ha
              rw [ha]
          · rw [if_neg (fun q => hk (by simpa using q.2.2))] at z
            exact z.elim
        | _ => cases ev
      | _ => cases ek
theorem ge_dic {ks vs : Es} (hk : EachA (GE L M k C) ks) (hv : EachA (GE L M k C) vs) : GE L M k C (.dic ks vs) := by
  intro X W pe g tk h
  unfold chkE at h
  split at h
  · rename_i pos
    rw [Bool.and_eq_true] at h
    cases ks with
    | nil =>
      cases vs with
      | nil =>
        have main : PE X (.Dict [] [] pos) (tE L W C (.dic .nil .nil)) := pe_newN.imp fun σ H Q z => dic0_go g z
        exact ⟨main, fun _ => pt_plain main (by intro _; rfl)⟩
      | cons _ _ => cases h.2
    | cons _ _ => cases h.1
  · rename_i pk pv pos
    rw [Bool.and_eq_true] at h
    cases ks with
    | nil => cases h.1
    | cons a ks =>
      cases vs with
      | nil => cases h.2
      | cons b vs =>
        have h1 : (chkE M X.N a X.env.scope pk && chkEs M X.N ks X.env.scope []) = true := h.1
        have h2 : (chkE M X.N b X.env.scope pv && chkEs M X.N vs X.env.scope []) = true := h.2
        rw [Bool.and_eq_true] at h1 h2
        cases ks with
        | cons _ _ => cases h1.2
        | nil =>
          cases vs with
          | cons _ _ => cases h2.2
          | nil =>
            cases hk with
            | cons ha _ =>
              cases hv with
              | cons hb _ =>
                have main : PE X (.Dict [some pk] [pv] pos) (tE L W C (.dic (.cons a .nil) (.cons b .nil))) := (pe_oneN (by have := g.room.un; show X.A.units + 8 < cLine; omega) (ha X W pk g tk h1.1).1 (hb X W pv g tk h2.1).1).imp fun σ H Q z => dic1_go g z
                exact ⟨main, fun _ => pt_plain main (by intro _; rfl)⟩
  · cases h
end
end EvS

namespace EvS
open PySem PySem.Spec PyProof.Rows L2 Ev
abbrev Xs := List (PySem.NestedKey × Addr × Value)
/-- the keys of the locked dict at d -/
def ItN (P : Program) (w : World) (d : Addr) (o : Obj) (xs : Xs) : L2.It :=
  ⟨fun i H => H d = some (.frz o (DicO P w d xs)) ∧ i < xs.length, fun i H x H' => H' = H ∧ ∃ p, xs[i]? = some p ∧ x = .ref p.2.1, fun i H => H d = some (.frz o (DicO P w d xs)) ∧ xs.length ≤ i⟩
section
variable {X : L2.Cx} {pins : List (Addr × Obj)} {σ : L2.St} {H : Hp} {s : Shared} {d : Addr} {o : Obj} {xs : Xs}
theorem frzN (I : L2.Inv X pins σ H s) (h : H d = some (.frz o (DicO X.prog X.w d xs))) : (d == sysModules) = false ∧ s.heap.get? d = some o ∧ o.ExactDict ∧ ∃ (es : Array DictEntry) (ep : Nat), o.data = .dict es ep ∧ es.size = xs.length ∧
    ∀ (i : Nat) p, xs[i]? = some p → ∃ en, es[i]? = some en ∧ en.key = .ref p.2.1 := by
  obtain ⟨hd, ⟨hs, o', es, ep, h2, h3, h4, h5, _⟩, _, _⟩ := I.hok d _ h
  rw [hd] at h2
  cases h2
  refine ⟨hs, hd, h3, es, ep, h4, ?_, fun i p hp => ?_⟩
  · have e := congrArg List.length h5
    rwa [Array.length_toList, List.length_map] at e
  · refine ⟨entryOfKey (nestedKind X.prog X.w) p, ?_, rfl⟩
    rw [← Array.getElem?_toList, h5, List.getElem?_map, hp]
    rfl
end
section
variable {P : Program} {w : World} {K : PySem.W.Frag} {tg : Expr} {d : Addr} {o : Obj} {es : Array DictEntry} {ep : Nat}
theorem turnN {xs : Xs} (it : Addr) (hod : o.data = .dict es ep) : Turn P w K tg (ItN P w d o xs) [it] it (fun i h => h.IsKeyIter it d i xs.length ep) where
  mem := by simp
  obj := fun i h st b hb => by
    obtain rfl : b = it := by simpa using hb
    obtain ⟨oi, e, c, dd⟩ := st
    exact ⟨oi, e, fun v z => by rw [dd] at z; cases z⟩
  keep := fun i h h' st k => st.at fun oi e => k it (by simp) oi e
  item := by
    intro X hP hw hK hc i pins s σ H E I hf st hg
    subst hP hw hK
    obtain ⟨hd, hi⟩ := hg
    obtain ⟨f0, f1, f2, f3, f4, f5⟩ := hf it (by simp)
    obtain ⟨hs, hgd, hx, es', ep', hdt, hsz, ent⟩ := frzN I hd
    obtain ⟨rfl, rfl⟩ := dict_ep hod hdt
    have hp : xs[i]? = some xs[i] := List.getElem?_eq_getElem hi
    obtain ⟨en, hen, hkey⟩ := ent i _ hp
    refine next_key_item st hgd hdt hsz hen fun h' st' sb => ?_
    have I1 : Inv X pins σ H { s with heap := h' } := I.turned (t' := s.toks) (fun b ob hb e => (sb.2 b hb).trans e) f0 f1 f3 f4 f5
    obtain ⟨oi, e, c, dd⟩ := id st'
    exact ⟨en.key, rfl, go_of (s := { s with heap := h' }) e c dd (by decide) ⟨.ref (xs[i]).2.1, H, I1, hkey, ⟨rfl, _, hp, rfl⟩, st', fun b hb => (hf b hb).1⟩⟩
  done := by
    intro X hP hw hK hc i pins s σ H E I hf st hg
    subst hP hw hK
    obtain ⟨hd, hi⟩ := hg
    obtain ⟨f0, f1, f2, f3, f4, f5⟩ := hf it (by simp)
    obtain ⟨hs, hgd, hx, es', ep', hdt, hsz, ent⟩ := frzN I hd
    obtain ⟨rfl, rfl⟩ := dict_ep hod hdt
    exact next_key_end (I.ok.hd hc) st hgd hdt hsz hi fun h' eb => ⟨rfl, I.turned (t' := s.toks) (fun b ob hb e => eb b ob hb e) f0 f1 f3 f4 f5⟩
  self := fun A i s Q E st h => by
    refine wpAny_pyIter_slot st.typeIs F.slot_dict_keyiterator_iter (wpAny_call_entry F.slot_dict_keyiterator_iter st.typeIs F.entry_dict_keyiterator_iter ?_ (F.args_dict_keyiterator_iter_1 _))
    show wpAny _ _ (ret (.ref it)) _ _ s
    exact wpAny_pure ⟨_, rfl, "dict_keyiterator", _, st.typeIs, F.slot_dict_keyiterator_next.lookup, h⟩
end
def iKeysN (P : Program) (w : World) (td : TE) : TI := fun σ H R => td σ H fun x H1 => ∃ d o xs, x = .ref d ∧ H1 d = some (.frz o (DicO P w d xs)) ∧ R (ItN P w d o xs) H1
theorem pi_keysN {X : L2.Cx} {tg e : Expr} {td : TE} (he : PE X e td) : PI X tg e (iKeysN X.prog X.w td) := by
  refine ⟨fun pins s σ H R I h => ?_⟩
  refine thn (he.run pins s σ H _ I h) fun u s1 ⟨x, H1, I1, rx, d, o, xs, ex, hd, q⟩ => ?_
  subst ex
  obtain rfl : u = Value.ref d := rx
  obtain ⟨hs, hgd, hx, es, ep, hdt, hsz, ent⟩ := frzN I1 hd
  refine iter_keys hs hgd hx hdt (pi_one (tk := s1.toks) I1 _ (turnN _ hdt) ⟨_, Heap.get?_push_size _ rfl, rfl, ?_⟩ q)
  rw [hsz]
  rfl
theorem KVs.nth {L : Lw} {H : Hp} : ∀ {kvs : List (D × D)} {xs : Xs} {i : Nat} {p}, KVs L H kvs xs → xs[i]? = some p → ∃ d, (kvs.map (·.1))[i]? = some d ∧ RD L.K H d (.ref p.2.1)
  | [], xs, i, p, h, hp => by
    obtain rfl : xs = [] := h
    simp at hp
  | (k, v) :: r, xs, 0, p, ⟨a, val, u, xr, h1, h2, h3, h4, h5, h6⟩, hp => by
    subst h1
    simp at hp
    subst hp
    exact ⟨k, rfl, h3⟩
  | (k, v) :: r, xs, i + 1, p, ⟨a, val, u, xr, h1, h2, h3, h4, h5, h6⟩, hp => by
    subst h1
    obtain ⟨d, e, rd⟩ := KVs.nth (i := i) h6 (by simpa using hp)
    exact ⟨d, by simpa using e, rd⟩
variable {L : Lw} {M : Nm} {k : Nat} {C : Ev.Ctx}
theorem walkD_keys {H : Hp} {d : Addr} {o : Obj} {kvs : List (D × D)} {xs : Xs} (h : H d = some (.frz o (DicO L.P L.w d xs))) (hl : kvs.length ≤ line) (r : KVs L H kvs xs) : WalkD L (ItN L.P L.w d o xs) (kvs.map (·.1)) H := by
  refine ⟨by rw [List.length_map]; exact hl, fun H' => H' d = some (.frz o (DicO L.P L.w d xs)), fun i H x H' => H' = H ∧ ∃ p, xs[i]? = some p ∧ x = .ref p.2.1, ?_, fun H' e => e _ _ h trivial, fun i H1 x H' hi e y => ?_⟩
  · rw [List.length_map, ← r.len]
    exact ⟨fun _ _ hi q => ⟨q, hi⟩, fun _ q => ⟨q, Nat.le_refl _⟩, fun _ _ _ _ _ _ y => y⟩
  · obtain ⟨rfl, p, hp, rfl⟩ := y
    obtain ⟨c, e1, e2⟩ := r.nth hp
    exact ⟨.inl rfl, c, e1, e2.fix e⟩
theorem gI_keys {e : E} (he : GE L M k C e) : GI L M k C (.keys e) := by
  intro X W tg pe g tk h
  have h : chkE M X.N e X.env.scope pe = true := h
  refine ⟨⟨fun pins s σ H R I z => (pi_keysN (tg := tg) (PE.lk (he X W pe g tk h).1)).run pins s σ H R I ?_⟩, chk_fold h⟩
  obtain ⟨ρ, μ, st, S, n, z⟩ := z
  refine tE_bind S n z fun u x st' H' μ' e S' n' r z => ?_
  split at z
  · rename_i i
    split at z
    · rename_i kvs hr
      obtain ⟨a, xs, rfl, h1, h2, h3, h4⟩ := dic_cell S' r hr
      refine .inr ⟨a, _, rfl, h2, trivial, fun od => ?_⟩
      have ex : Ext H' μ' (upd H' a (.frz od (DicO L.P L.w a xs))) μ' := Ext.put S' h1 h2 trivial
      have S2 := S'.put (o := .frz od (DicO L.P L.w a xs)) (c := .fdic kvs) h1 h2 trivial trivial ⟨a, od, xs, h1, upd_same, h3, h4.ext ex⟩
      refine ⟨a, od, xs, rfl, by rw [g.P, g.w]; exact upd_same, ?_⟩
      rw [g.P, g.w]
      exact z _ _ ex S2 _ (walkD_keys upd_same h3 (h4.ext ex))
    · rename_i kvs hr
      obtain ⟨a, o, xs, rfl, h2, h3, h4⟩ := fdic_cell S' r hr
      refine .inl ⟨a, o, xs, rfl, by rw [g.P, g.w]; exact h2, ?_⟩
      rw [g.P, g.w]
      exact z.ok S' _ (walkD_keys h2 h3 h4)
    · exact z.elim
  · exact z.elim
end EvS

namespace EvS
open PySem PySem.Spec PyProof.Rows L2 Ev
variable {L : Lw} {M : Nm} {k : Nat} {C : Ev.Ctx}
section
variable {X : L2.Cx} {W : WX} {pe : Expr}
theorem ownOf_snd {N : List Str} : ∀ {is : List Nat} {r : List (Str × Nat)}, ownOf N is = some r → r.map (·.2) = is
  | [], r, h => by cases h; rfl
  | i :: is, r, h => by
    unfold ownOf at h
    split at h
    · rename_i x r' _ h2
      cases h
      rw [List.map_cons, ownOf_snd h2]
    · cases h
theorem GdM.blk (g : GdM L M k X) {scope : Scope} (hk : scope.kind = .function) (hm : M.lmk ≠ some (inner scope X.env.scope).names) (s : Shared) (H : Hp) (A : Addr) (cl : List (Str × Addr)) (fp : List Addr) : GdM L M k (X.blk s H scope (compEnvC scope cl A X.env) fp) :=
  ⟨⟨g.K, g.P, g.w, g.mg, g.base, g.calm, g.room, g.nd, g.nb, hk⟩, fun z => absurd z hm⟩
/-- a turn's step -/
abbrev lcStep (C : Ev.Ctx) (elt : E) (t : Tg) (c : Po) (own : List Nat) (ρ : En) : D → Sto → R (Option D) := fun x st => match bindT t x (ρ.wipe own) with
      | none => .no
      | some ρ' => (evPoB C c ρ' st).bind fun k st => match k with
        | false => .ok none st
        | true => (evE C elt ρ' st).bind fun v st => match v with
          | .d y => .ok (some y) st
          | _ => .no
theorem lc_go {elt : E} {t : Tg} {it : Ev.It} {c : Po} {own : List Nat} (hs : ∀ i ∈ t.slots, i ∈ own) {σ : L2.St} {H : Hp} {Q Q' : VK} (hq : ∀ v H, QL Q v H → Q' v H) (z : tE L W C (.lc elt t it c own) σ H Q) :
    tLc (tI L W C it) (gT L t) (tPB L (fun _ _ _ _ => False) C c) (tE L (fun _ _ _ _ => False) C elt) own σ H Q' := by
  obtain ⟨ρ, μ, st, S, n, z⟩ := z
  have z : RQ L H μ (WE W σ) ((evIt C it ρ st).bind fun xs st => (lcLoop (lcStep C elt t c own ρ) xs st).bind fun ys st => .ok (.d (.lst ys)) st) (QV (L := L) Q) := z
  refine ⟨ρ, μ, st, S, n, z.bind.mono fun xs st1 H1 μ1 ex1 S1 z1 J wd A hA => ?_⟩
  obtain ⟨hlen, G, Y, walk, gst, yl⟩ := wd
  have n1 := n.ext ex1
  have z1 : RQ L H1 μ1 (WE W σ) (lcLoop (lcStep C elt t c own ρ) xs st1) (fun ys _ H' _ => ∀ u, RD L.K H' (.lst ys) u → Q u H') := z1.bind.mono fun ys st' H' μ' e s q => q.ok s
  have nA : ∀ {H2 : Hp} {μ2 : Mu} {st2 : Sto}, Ext H1 μ1 H2 μ2 → (∃ acc, H2 A = some (.lst acc)) → True := fun _ _ => trivial
  refine lc_it walk (fun i H2 => ∃ μ2 st2 acc accD, Ext H1 μ1 H2 μ2 ∧ Sim L H2 μ2 st2 ∧ H2 A = some (.lst acc) ∧ (∀ r : Nat, μ2[r]? ≠ some (some A)) ∧ RDs L.K H2 accD acc ∧ accD.length ≤ i ∧
      RQ L H1 μ1 (WE W σ) (lcLoop (lcStep C elt t c own ρ) (xs.drop i) st2) (fun ys _ H' _ => ∀ u, RD L.K H' (.lst (accD ++ ys)) u → Q u H')) ?_ ?_ ?_ ?_
  · refine ⟨μ1, st1, [], [], Ext.fix hA, S1.fix hA, upd_same, fun r hr => ?_, rfl, Nat.le_refl _, z1⟩
    obtain ⟨o, h1, _⟩ := S1.some_ r A hr
    rw [hA] at h1
    cases h1
  · rintro i H2 hi ⟨μ2, st2, acc, accD, e2, _⟩
    exact gst H2 e2.im
  · rintro i x H2 H3 hi ⟨μ2, st2, acc, accD, e2, S2, hacc, hn, racc, hle, z2⟩ y
    obtain ⟨nw, d, hd, rd⟩ := yl i H2 x H3 hi e2.im y
    obtain ⟨e3, S3⟩ := nw.ext S2
    have hdrop : xs.drop i = d :: xs.drop (i + 1) := by
      obtain ⟨h1, h2⟩ := List.getElem?_eq_some_iff.mp hd
      rw [List.drop_eq_getElem_cons h1, h2]
    rw [hdrop] at z2
    have hacc3 : H3 A = some (.lst acc) := nw.fix A _ hacc
    have racc3 : RDs L.K H3 accD acc := racc.ext e3
    have e13 := e2.trans e3
    have n3 : EnR L H3 μ2 (ρ.wipe own) (L2.wipe σ own) := (n1.ext e13).wipe own
    cases hb : bindT t d (ρ.wipe own) with
    | none =>
      have z3 := lcLoop_cons (F := fun _ _ _ => False) z2
      have q : lcStep C elt t c own ρ d st2 = .no := by
        show (match bindT t d (ρ.wipe own) with
          | none => R.no
          | some ρ' => _) = _
        rw [hb]
      rw [q] at z3
      exact z3.elim
    | some ρ' =>
      have q : lcStep C elt t c own ρ d st2 = (evPoB C c ρ' st2).bind fun k st => match k with
        | false => .ok none st
        | true => (evE C elt ρ' st).bind fun v st => match v with
          | .d y => .ok (some y) st
          | _ => .no := by
        show (match bindT t d (ρ.wipe own) with
          | none => R.no
          | some ρ' => _) = _
        rw [hb]
      refine ⟨d, ρ.wipe own, ρ', μ2, rd, n3, hb, fun σ4 n4 l4 k4 => ⟨?_, ?_⟩⟩
      · have := wipe_eq (vs := own) l4 fun i hi => k4 i fun h => hi (hs i h)
        rw [this, wipe_self]
      · have z3 := lcLoop_cons (F := WE (fun _ _ _ _ => False) σ4) z2
        rw [q] at z3
        refine ⟨ρ', μ2, st2, S3, n4, (RQ.ext e13 z3.bind0).mono fun b st5 H5 μ5 e5 S5 z5 => ?_⟩
        have hn5 : ∀ r : Nat, μ5[r]? ≠ some (some A) := fun r hr => by
          rcases e5.nw r A hr with ⟨r', h⟩ | h
          · exact hn r' h
          · rw [hacc3] at h; cases h
        have hacc5 : H5 A = some (.lst acc) := e5.fr A _ hacc3 trivial hn
        have e15 := e13.trans e5
        cases b with
        | false =>
          simp only [Bool.false_eq_true, if_false]
          have z5 := z5 H5 μ5 e15 S5
          exact ⟨μ5, st5, acc, accD, e15, S5, hacc5, hn5, racc3.ext e5, Nat.le_succ_of_le hle, z5⟩
        | true =>
          simp only [if_true]
          refine ⟨ρ', μ5, st5, S5, n4.ext e5, (RQ.ext e15 (RQ.bind0 z5)).mono fun v st6 H6 μ6 e6 S6 z6 u ru => ?_⟩
          have hn6 : ∀ r : Nat, μ6[r]? ≠ some (some A) := fun r hr => by
            rcases e6.nw r A hr with ⟨r', h⟩ | h
            · exact hn5 r' h
            · rw [hacc5] at h; cases h
          have hacc6 : H6 A = some (.lst acc) := e6.fr A _ hacc5 trivial hn5
          have e16 := e15.trans e6
          cases v with
          | d y =>
            have z6 := z6 H6 μ6 e16 S6
            have hll : accD.length < line := Nat.lt_of_le_of_lt hle (Nat.lt_of_lt_of_le hi hlen)
            refine ⟨acc, hacc6, ?_, ?_⟩
            · rw [racc.len, ← line_eq]
              exact hll
            · have ru : RD L.K H6 y u := ru
              refine ⟨μ6, st6, acc ++ [u], accD ++ [y], Ext.late hA e16, S6.late hacc6 trivial hn6, upd_same, hn6, ?_, ?_, ?_⟩
              · exact (((racc3.ext e5).ext e6).app (RDs.one ru)).fix (upd_fix hacc6 trivial)
              · rw [List.length_append]
                exact Nat.succ_le_succ hle
              · refine z6.mono fun ys _ H' _ _ _ w u' hu' => w u' ?_
                rw [List.append_assoc] at hu'
                exact hu'
          | _ => exact z6.elim
  · rintro H2 ⟨μ2, st2, acc, accD, e2, S2, hacc, hn, racc, hle, z2⟩
    rw [List.drop_length] at z2
    refine hq _ _ (.inr ⟨A, _, rfl, hacc, trivial, fun od => ?_⟩)
    have w := z2 (upd H2 A (.frz od (.lst acc))) μ2 (Ext.late hA e2) (S2.late hacc trivial hn)
    refine w _ ⟨A, acc, rfl, .inl ⟨od, upd_same⟩, ?_, ?_⟩
    · rw [List.append_nil]
      exact Nat.le_trans hle hlen
    · rw [List.append_nil]
      exact racc.fix (upd_fix hacc trivial)
theorem ge_lc {elt : E} {t : Tg} {it : Ev.It} {c : Po} {own : List Nat} (he : GE L M k C elt) (hi : GI L M k C it) (hc : GPo L M k C c) : GE L M k C (.lc elt t it c own) := by
  intro X W pe g tk h
  unfold chkE at h
  split at h
  · rename_i pelt ptg pit pifs isa scope pos
    simp only [Bool.and_eq_true] at h
    obtain ⟨⟨⟨⟨⟨⟨⟨⟨h1, hmk⟩, h2⟩, h3⟩, h4⟩, h5⟩, h6⟩, h7⟩, h8⟩ := h
    have hmk := of_decide_eq_true hmk
    have e1 := of_decide_eq_true h1
    subst e1
    have ok := blkOk_by h4
    obtain ⟨r, hr⟩ := Option.isSome_iff_exists.mp h3
    have eo : own1 X.N own = r := by unfold own1; rw [hr]; rfl
    rw [eo] at ok
    have e2 : r.map (·.2) = own := ownOf_snd hr
    obtain ⟨pi, pf⟩ := hi X W ptg pit g tk h2
    have main : PE X (.ListComp pelt [⟨ptg, pit, pifs, 0⟩] scope pos) (tE L W C (.lc elt t it c own)) :=
      (PE.lk (pe_lc (wi := tI L W C it) (g := gT L t) (tt := tPB L (fun _ _ _ _ => False) C c) (te := tE L (fun _ _ _ _ => False) C elt) g.calm g.nd pi ok
        (fun s H A cl fp => pg_T (X := X.blk s H scope (compEnvC scope cl A X.env) fp) (l := true) g.K g.calm g.nd (fun z => by cases z) t ptg h6)
        (fun s H A cl fp => (hc _ _ (g.blk ok.kind hmk s H A cl fp) takesN).2 pifs h7)
        (fun s H A cl fp => (he _ _ pelt (g.blk ok.kind hmk s H A cl fp) takesN h8).1) pf)).imp fun σ H Q z => by
          rw [e2]
          exact lc_go (fun i hi => by
            have := List.all_eq_true.mp h5 i hi
            simpa using this) (fun _ _ q => q) z
    exact ⟨main, fun _ => pt_plain main (by intro _; rfl)⟩
  · cases h
end
section
theorem ge_none {e : E} (h : ∀ N sc pe, chkE M N e sc pe = false) : GE L M k C e := fun X W pe g tk z => by rw [h] at z; cases z
theorem gI_none {e : Ev.It} (h : ∀ N sc tg pe, chkIt M N e sc tg pe = false) : GI L M k C e := fun X W tg pe g tk z => by rw [h] at z; cases z
mutual
theorem okE (hC : CxOk L M k C) : ∀ e : E, GE L M k C e
  | .cst d => ge_cst d
  | .var i => ge_var i
  | .glo i => ge_glo hC i
  | .frz i => ge_frz i
  | .tup es => ge_tup (okEs hC es)
  | .lst es => ge_lst (okEs hC es)
  | .new es => ge_new (okEs hC es)
  | .dic ks vs => ge_dic (okAs hC ks) (okAs hC vs)
  | .tdic _ => ge_none fun _ _ _ => rfl
  | .bin _ a b => ge_bin (okE hC a) (okE hC b)
  | .neg a => ge_neg (okE hC a)
  | .cmp _ a b => ge_cmp (okE hC a) (okE hC b)
  | .chain _ _ a b c => ge_chain (okE hC a) (okE hC b) (okE hC c)
  | .isN a => ge_isN (okE hC a)
  | .notN a => ge_notN (okE hC a)
  | .and a es => ge_and (okE hC a) (okEs hC es)
  | .or a es => ge_or (okE hC a) (okEs hC es)
  | .not a => ge_not (okE hC a)
  | .ife c a b => ge_ife (okE hC c) (okE hC a) (okE hC b)
  | .idx a b => ge_idx (okE hC a) (okE hC b)
  | .slc a lo hi => ge_slc (okE hC a) (okPo hC lo) (okPo hC hi)
  | .rev a => ge_rev (okE hC a)
  | .call _ es => ge_call hC (okEs hC es)
  | .calll _ es => ge_calll hC (okAs hC es)
  | .callv _ es => ge_callv hC (okEs hC es)
  | .blt (.isi t) (.cons e .nil) => ge_isi hC (okE hC e)
  | .blt (.isi t) .nil => ge_none fun _ _ pe => by
    unfold chkE
    simp only
    split
    · simp [chkEs]
    · rfl
  | .blt (.isi t) (.cons _ (.cons _ _)) => ge_none fun _ _ pe => by
    unfold chkE
    simp only
    split
    · simp [chkEs]
    · rfl
  | .blt .len es => ge_blt hC (fun _ h => by cases h) (okEs hC es)
  | .blt .all es => ge_blt hC (fun _ h => by cases h) (okEs hC es)
  | .blt .any es => ge_blt hC (fun _ h => by cases h) (okEs hC es)
  | .blt .sorted es => ge_blt hC (fun _ h => by cases h) (okEs hC es)
  | .blt .tuple es => ge_blt hC (fun _ h => by cases h) (okEs hC es)
  | .blt .list es => ge_blt hC (fun _ h => by cases h) (okEs hC es)
  | .blt .int es => ge_blt hC (fun _ h => by cases h) (okEs hC es)
  | .blt .bool es => ge_blt hC (fun _ h => by cases h) (okEs hC es)
  | .blt .str es => ge_blt hC (fun _ h => by cases h) (okEs hC es)
  | .blt .abs es => ge_blt hC (fun _ h => by cases h) (okEs hC es)
  | .blt .min es => ge_blt hC (fun _ h => by cases h) (okEs hC es)
  | .blt .max es => ge_blt hC (fun _ h => by cases h) (okEs hC es)
  | .sset a => ge_sset hC (okE hC a)
  | .lset _ => ge_none fun _ _ _ => rfl
  | .mth _ o es => ge_mth (okE hC o) (okEs hC es)
  | .lc elt t it c own => ge_lc (okE hC elt) (okIt hC it) (okPo hC c)
  | .lam _ _ => ge_none fun _ _ _ => rfl
theorem okEs (hC : CxOk L M k C) : ∀ es : Es, GEs L M k C es
  | .nil => gEs_nil
  | .cons e es => gEs_cons (okE hC e) (okEs hC es)
theorem okAs (hC : CxOk L M k C) : ∀ es : Es, EachA (GE L M k C) es
  | .nil => .nil
  | .cons e es => .cons (okE hC e) (okAs hC es)
theorem okPo (hC : CxOk L M k C) : ∀ o : Po, GPo L M k C o
  | .no => gPo_no
  | .e e => gPo_e (okE hC e)
theorem okIt (hC : CxOk L M k C) : ∀ i : Ev.It, GI L M k C i
  | .val e => gI_val (okE hC e)
  | .rng1 e => gI_rng1 hC (okE hC e)
  | .rng2 a b => gI_rng2 hC (okE hC a) (okE hC b)
  | .enum _ => gI_none fun _ _ _ _ => rfl
  | .zip a b => gI_zip hC (okE hC a) (okE hC b)
  | .keys a => gI_keys (okE hC a)
end
end
end EvS

namespace EvS
open PySem PySem.Spec PyProof.Rows L2 Ev
/-- in a def's own frame -/
structure GdF (L : Lw) (M : Nm) (k : Nat) (X : L2.Cx) : Prop where
  g : GdM L M k X
  fn : ∀ x, X.env.scope.names.lookup x = some .cell → X.fn x = true
section
variable (L : Lw) (W : WX) (C : Ev.Ctx)
/-- what is wanted of a statement's outcome -/
def SQ (H : Hp) (μ : Mu) (o : O) (D : Ends) : Prop := match o with
  | .nx ρ' st' => ∀ H' μ' σ', Ext H μ H' μ' → Sim L H' μ' st' → EnR L H' μ' ρ' σ' → D.nx σ' H'
  | .bk ρ' st' => ∀ H' μ' σ', Ext H μ H' μ' → Sim L H' μ' st' → EnR L H' μ' ρ' σ' → D.bk σ' H'
  | .ct ρ' st' => ∀ H' μ' σ', Ext H μ H' μ' → Sim L H' μ' st' → EnR L H' μ' ρ' σ' → D.ct σ' H'
  | .rt v st' => ∀ H' μ' u, Ext H μ H' μ' → Sim L H' μ' st' → RV L H' μ' v u → D.rt u H'
  | .ex c fs ρ' st' => ∀ H' μ' σ' cls d, Ext H μ H' μ' → Sim L H' μ' st' → EnR L H' μ' ρ' σ' → ExR L H' c fs cls d → W cls d σ' H'
  | .no => False
def tS (s : Ev.S) : TS := fun D σ H => ∃ ρ μ st, Sim L H μ st ∧ EnR L H μ ρ σ ∧ SQ L W H μ (evS C s ρ st) D
def tSs (s : Ss) : TS := fun D σ H => ∃ ρ μ st, Sim L H μ st ∧ EnR L H μ ρ σ ∧ SQ L W H μ (evSs C s ρ st) D
end
section
variable {L : Lw} {W : WX} {C : Ev.Ctx} {H H1 : Hp} {μ μ1 : Mu} {D D' : Ends} {o : O} {ρ : En} {σ : L2.St} {st : Sto}
theorem SQ.ext (e : Ext H μ H1 μ1) (h : SQ L W H μ o D) : SQ L W H1 μ1 o D := by
  cases o with
  | nx ρ' st' => exact fun H' μ' σ' e' => h H' μ' σ' (e.trans e')
  | bk ρ' st' => exact fun H' μ' σ' e' => h H' μ' σ' (e.trans e')
  | ct ρ' st' => exact fun H' μ' σ' e' => h H' μ' σ' (e.trans e')
  | rt v st' => exact fun H' μ' σ' e' => h H' μ' σ' (e.trans e')
  | ex c fs ρ' st' => exact fun H' μ' σ' cls d e' => h H' μ' σ' cls d (e.trans e')
  | no => exact h
theorem SQ.out {α : Type} {r : R α} {f : α → Sto → O} (n : EnR L H μ ρ σ) (h : SQ L W H μ (r.out ρ f) D) : RQ L H μ (WE W σ) r fun a st' H' μ' => SQ L W H' μ' (f a st') D := by
  cases r with
  | ok a st => exact fun H' μ' e _ => SQ.ext e h
  | ex c fs st => exact fun H' μ' cls d e s x => h H' μ' σ cls d e s (n.ext e) x
  | no => exact h
theorem SQ.nx {ρ' : En} (h : SQ L W H μ (.nx ρ' st) D) (S : Sim L H μ st) (n : EnR L H μ ρ' σ) : D.nx σ H := h H μ σ (Ext.refl _ _) S n
theorem SQ.thn {f : En → Sto → O} (h : SQ L W H μ (o.then f) D) : SQ L W H μ o { D with nx := fun σ' H' => ∃ ρ' μ' st', Sim L H' μ' st' ∧ EnR L H' μ' ρ' σ' ∧ SQ L W H' μ' (f ρ' st') D } := by
  cases o with
  | nx ρ' st' => exact fun H' μ' σ' e s n => ⟨ρ', μ', st', s, n, SQ.ext e h⟩
  | _ => exact h
/-- one after the other -/
theorem tE_out {f : Vl → Sto → O} {Q1 : VK} {e : E} (S : Sim L H μ st) (n : EnR L H μ ρ σ) (h : SQ L W H μ ((evE C e ρ st).out ρ f) D)
    (k : ∀ u x st' H' μ', Ext H μ H' μ' → Sim L H' μ' st' → EnR L H' μ' ρ σ → RV L H' μ' u x → SQ L W H' μ' (f u st') D → Q1 x H') : tE L W C e σ H Q1 :=
  ⟨ρ, μ, st, S, n, (h.out n).mono fun a st' H' μ' e s q u r => k a u st' H' μ' e s (n.ext e) r q⟩
theorem tT_out {f : Vl → Sto → O} {Q1 : Bool → Hp → Prop} {e : E} (S : Sim L H μ st) (n : EnR L H μ ρ σ) (h : SQ L W H μ ((evE C e ρ st).out ρ f) D)
    (hb : ∀ v st H μ, SQ L W H μ (f v st) D → ∃ b, v = .d (.bl b))
    (k : ∀ b st' H' μ', Ext H μ H' μ' → Sim L H' μ' st' → EnR L H' μ' ρ σ → SQ L W H' μ' (f (.d (.bl b)) st') D → Q1 b H') : tT L W C e σ H Q1 :=
  ⟨ρ, μ, st, S, n, (h.out n).mono fun a st' H' μ' e s q => by
    obtain ⟨b, rfl⟩ := hb _ _ _ _ q
    exact ⟨b, rfl, k b st' H' μ' e s (n.ext e) q⟩⟩

/-! ### a new list is locked behind the statement -/
def NL (Q : L2.St → Hp → Prop) : L2.St → Hp → Prop := fun σ H => Q σ H ∨ ∃ p u, H p = some u ∧ Mut (some u) ∧ ∀ od, Q σ (upd H p (.frz od u))
theorem PS_lk {X : L2.Cx} {s : Stmt} {t : TS} (h : PS X s t) : PS X s (fun D σ H => t { D with nx := NL D.nx } σ H) :=
  ⟨fun pins s σ H D I hq => L2.thn (h.run pins s σ H { D with nx := NL D.nx } I hq) fun f s' h' => by
    cases f with
    | next =>
      obtain ⟨σ', H', I', q⟩ := h'
      rcases q with q | ⟨p, u, h1, h2, q⟩
      · exact ⟨σ', H', I', q⟩
      · obtain ⟨od, I2⟩ := I'.lock h1 h2
        exact ⟨σ', _, I2, q od⟩
    | brk => exact h'
    | cont => exact h'
    | ret u => exact h'⟩
end
variable (L : Lw) (M : Nm) (k : Nat) (C : Ev.Ctx)
abbrev GS (s : Ev.S) : Prop := ∀ (X : L2.Cx) (W : WX) (ps : Stmt), GdF L M k X → Takes X W → PassesOwn (model X.prog X.w) X.A X.env X.xe → chkS M X.N s X.env.scope ps = true → PS X ps (tS L W C s)
abbrev GSs (s : Ss) : Prop := ∀ (X : L2.Cx) (W : WX) (ps : List Stmt), GdF L M k X → Takes X W → PassesOwn (model X.prog X.w) X.A X.env X.xe → chkSs M X.N s X.env.scope ps = true → PSs X ps (tSs L W C s)
variable {L M k C}
section
variable {X : L2.Cx} {W : WX}
theorem gSs_nil : GSs L M k C .nil := by
  intro X W ps g tk po h
  cases ps with
  | nil =>
    refine pss_nil.imp fun D σ H z => ?_
    obtain ⟨ρ, μ, st, S, n, z⟩ := z
    exact SQ.nx z S n
  | cons _ _ => cases h
theorem gSs_cons {s : Ev.S} {r : Ss} (hs : GS L M k C s) (hr : GSs L M k C r) : GSs L M k C (.cons s r) := by
  intro X W ps g tk po h
  cases ps with
  | nil => cases h
  | cons p q =>
    have h : (chkS M X.N s X.env.scope p && chkSs M X.N r X.env.scope q) = true := h
    rw [Bool.and_eq_true] at h
    refine (pss_cons (hs X W p g tk po h.1) (hr X W q g tk po h.2)).imp fun D σ H z => ?_
    obtain ⟨ρ, μ, st, S, n, z⟩ := z
    exact ⟨ρ, μ, st, S, n, SQ.thn z⟩
theorem gS_pas : GS L M k C .pas := by
  intro X W ps g tk po h
  cases ps with
  | Pass pos =>
    refine ps_pass.imp fun D σ H z => ?_
    obtain ⟨ρ, μ, st, S, n, z⟩ := z
    exact SQ.nx z S n
  | _ => cases h
theorem gS_brk : GS L M k C .brk := by
  intro X W ps g tk po h
  cases ps with
  | Break pos =>
    refine ps_break.imp fun D σ H z => ?_
    obtain ⟨ρ, μ, st, S, n, z⟩ := z
    exact z H μ σ (Ext.refl _ _) S n
  | _ => cases h
theorem gS_cnt : GS L M k C .cnt := by
  intro X W ps g tk po h
  cases ps with
  | Continue pos =>
    refine ps_continue.imp fun D σ H z => ?_
    obtain ⟨ρ, μ, st, S, n, z⟩ := z
    exact z H μ σ (Ext.refl _ _) S n
  | _ => cases h
theorem gS_retN : GS L M k C .retN := by
  intro X W ps g tk po h
  cases ps with
  | Return o pos =>
    cases o with
    | none =>
      refine ps_retN.imp fun D σ H z => ?_
      obtain ⟨ρ, μ, st, S, n, z⟩ := z
      exact z H μ .non (Ext.refl _ _) S rfl
    | some _ => cases h
  | _ => cases h
theorem gS_ret {e : E} (he : GE L M k C e) : GS L M k C (.ret e) := by
  intro X W ps g tk po h
  cases ps with
  | Return o pos =>
    cases o with
    | none => cases h
    | some pe =>
      have h : chkE M X.N e X.env.scope pe = true := h
      refine (ps_ret (he X W pe g.g tk h).1).imp fun D σ H z => ?_
      obtain ⟨ρ, μ, st, S, n, z⟩ := z
      refine tE_out S n z fun u x st' H' μ' e S' n' r z => ?_
      exact z H' μ' x (Ext.refl _ _) S' r
  | _ => cases h
theorem gS_exp {e : E} (he : GE L M k C e) : GS L M k C (.exp e) := by
  intro X W ps g tk po h
  cases ps with
  | Expr pe pos =>
    have h : (chkE M X.N e X.env.scope pe && !compP pe) = true := h
    rw [Bool.and_eq_true] at h
    refine (ps_expr (he X W pe g.g tk h.1).1 (chk_comp (by simpa using h.2))).imp fun D σ H z => ?_
    obtain ⟨ρ, μ, st, S, n, z⟩ := z
    refine tE_out S n z fun u x st' H' μ' e S' n' r z => ?_
    exact SQ.nx z S' n'
  | _ => cases h
theorem gS_ite {c : E} {a b : Ss} (hc : GE L M k C c) (ha : GSs L M k C a) (hb : GSs L M k C b) : GS L M k C (.ite c a b) := by
  intro X W ps g tk po h
  cases ps with
  | If pc pa pb pos =>
    have h : (tstB c && chkE M X.N c X.env.scope pc && chkSs M X.N a X.env.scope pa && chkSs M X.N b X.env.scope pb) = true := h
    simp only [Bool.and_eq_true] at h
    obtain ⟨⟨⟨h1, h2⟩, h3⟩, h4⟩ := h
    refine (ps_if ((hc X W pc g.g tk h2).2 h1) (ha X W pa g tk po h3) (hb X W pb g tk po h4)).imp fun D σ H z => ?_
    obtain ⟨ρ, μ, st, S, n, z⟩ := z
    refine tT_out S n z (fun v st H μ q => ?_) fun d st' H' μ' e S' n' z => ?_
    · split at q
      · exact ⟨true, rfl⟩
      · exact ⟨false, rfl⟩
      · exact q.elim
    · cases d with
      | true => exact ⟨ρ, μ', st', S', n', z⟩
      | false => exact ⟨ρ, μ', st', S', n', z⟩
  | _ => cases h
/-- the stores of a tuple's targets are not turned round -/
theorem stores_none {l vs : List Expr} {k1 k2 : Nat} {p1 p2 : Pos} {env : Env} (h : vs.all (foldedForSure 8) = true) : swappedStores [.Tuple l k1 p1] (.Tuple vs k2 p2) env = pure none := by
  unfold swappedStores
  simp only [h]
  repeat (first | rfl | split)
theorem stores_t {l : List Expr} {k1 : Nat} {p1 : Pos} {pe : Expr} {env : Env} (h : ∀ vs k p, pe ≠ .Tuple vs k p) : swappedStores [.Tuple l k1 p1] pe env = pure none := by
  cases pe with
  | Tuple vs k p => exact absurd rfl (h vs k p)
  | _ => rfl
theorem stores_s {o i : Expr} {p1 : Pos} {pe : Expr} {env : Env} : swappedStores [.Subscript o i p1] pe env = pure none := by
  cases pe <;> rfl
theorem sole_tup {l : List Expr} {k1 : Nat} {p1 : Pos} {pe : Expr} {n : Nat} {env : Env} : swapsWithSole [.Tuple l k1 p1] pe n env = pure false := by
  cases pe <;> rfl
theorem sole_sub {o i : Expr} {p1 : Pos} {pe : Expr} {n : Nat} {env : Env} : swapsWithSole [.Subscript o i p1] pe n env = pure false := by
  cases pe <;> rfl
theorem gS_unp {ts : Tgs} {e : E} (he : GE L M k C e) : GS L M k C (.unp ts e) := by
  intro X W ps g tk po h
  unfold chkS at h
  split at h
  · rename_i l kk pt pe pos
    simp only [Bool.and_eq_true] at h
    obtain ⟨⟨h1, h2⟩, h3⟩ := h
    obtain ⟨l1, l2, l3⟩ := chkTs_each (env := X.env) h1
    have hw : swappedStores [.Tuple l kk pt] pe X.env = pure none := by
      cases pe with
      | Tuple vs k2 p2 => exact stores_none h3
      | _ => exact stores_t fun _ _ _ z => by cases z
    refine (ps_asg (he X W pe g.g tk h2).1 (pg_T (t := .tp ts) (l := false) g.g.K g.g.calm g.g.nd (fun _ => g.fn) (p := .Tuple l kk pt) h1) sole_tup hw).imp fun D σ H z => ?_
    obtain ⟨ρ, μ, st, S, n, z⟩ := z
    refine tE_out S n z fun u x st' H' μ' e S' n' r z => ?_
    cases u with
    | d y =>
      cases y with
      | tup xs =>
        simp only at z
        split at z
        · rename_i ρ' hb
          exact ⟨.tup xs, ρ, ρ', μ', r, n', hb, fun σ2 n2 _ _ => SQ.nx z S' n2⟩
        · exact z.elim
      | _ => exact z.elim
    | _ => exact z.elim
  · cases h
theorem gS_idx {o i e : E} (ho : GE L M k C o) (hi : GE L M k C i) (he : GE L M k C e) : GS L M k C (.idx o i e) := by
  intro X W ps g tk po h
  unfold chkS at h
  split at h
  · rename_i po' pi p1 pe pos
    simp only [Bool.and_eq_true] at h
    obtain ⟨⟨h1, h2⟩, h3⟩ := h
    refine (ps_asg (he X W pe g.g tk h3).1 (pg_sub (pos := p1) (ho X W po' g.g tk h1).1 (hi X W pi g.g tk h2).1 (set_ok g.g.toGd) (by
      intro v
      cases pi with
      | Slice a b c d => rw [no_slice] at h2; cases h2
      | _ => rfl)) sole_sub stores_s).imp fun D σ H z => ?_
    obtain ⟨ρ, μ, st, S, n, z⟩ := z
    refine tE_out S n z fun v x st' H' μ' e S' n' r z => ?_
    refine tE_out S' n' z fun u y st2 H2 μ2 e2 S2 n2 r2 z => ?_
    refine tE_out S2 n2 z fun w t st3 H3 μ3 e3 S3 n3 r3 z => ?_
    split at z
    · rename_i s4 hs
      exact ⟨u, w, v, μ3, st3, s4, S3, r2.ext e3, r3, (r.ext e2).ext e3, hs, fun H' μ' e4 S4 => z H' μ' σ e4 S4 (n3.ext e4)⟩
    · exact z.elim
  · cases h
end
end EvS

namespace EvS
open PySem PySem.Spec PyProof.Rows L2 Ev
variable {L : Lw} {M : Nm} {k : Nat} {C : Ev.Ctx}
section
variable {X : L2.Cx} {W : WX}
theorem loc_fn (g : GdF L M k X) {x : Str} (h : locB X.env.scope x = true) : L2.Loc X.env.scope x ∧ (X.fn x = true ∨ X.env.scope.names.lookup x = some .local) := by
  rcases loc_of h with q | q
  · exact ⟨.inl q, .inr q⟩
  · exact ⟨.inr q, .inl (g.fn x q)⟩
theorem swB_of {sc : Scope} {x : Str} {px : Pos} {pe : Expr} (h : swB sc x px pe = true) : ∃ elt gs scope p, pe = .ListComp elt gs scope p ∧ sc.names.lookup x = some .local ∧ (px.line == p.line) = true ∧ (scope.names.any fun (n, k) => n == x && (k == .local || k == .cell)) = false := by
  unfold swB at h
  split at h
  · rename_i elt gs s p
    simp only [Bool.and_eq_true] at h
    exact ⟨elt, gs, s, p, rfl, lcl_of h.1.1, h.1.2, by simpa using h.2⟩
  · cases h
theorem chk_lc {M : Nm} {N : List Str} {e : E} {sc : Scope} {elt : Expr} {gs : List Comprehension} {scope : Scope} {p : Pos} (h : chkE M N e sc (.ListComp elt gs scope p) = true) : ∃ el t it c own, e = .lc el t it c own := by
  cases e with
  | lc el t it c own => exact ⟨el, t, it, c, own, rfl⟩
  | blt b es => cases b <;> cases h
  | _ => cases h
/-- what a comprehension is made of -/
theorem lc_set (hC : CxOk L M k C) (g : GdM L M k X) (tk : Takes X W) {elt : E} {t : Tg} {it : Ev.It} {c : Po} {own : List Nat} {i : Nat} {y : Str} {py : Pos} {pelt : Expr} {gs : List Comprehension} {scope : Scope} {pos spos : Pos}
    (h : chkE M X.N (.lc elt t it c own) X.env.scope (.ListComp pelt gs scope pos) = true) (hy : X.N[i]? = some y) (hyl : X.env.scope.names.lookup y = some .local)
    (hsw : swapsWith (.ListComp pelt gs scope pos) (some (.Name y py)) spos.line X.env = pure true) :
    ∃ te : TE, PS X (.Assign [.Name y py] (.ListComp pelt gs scope pos) spos) (tAsg te (gName i)) ∧ ∀ σ H Q Q', (∀ v H, QL Q v H → Q' v H) → tE L W C (.lc elt t it c own) σ H Q → te σ H Q' := by
  cases gs with
  | nil =>
    have h : false = true := h
    cases h
  | cons g1 gs =>
    cases gs with
    | cons _ _ =>
      obtain ⟨a1, a2, a3, a4⟩ := g1
      have h : false = true := h
      cases h
    | nil =>
      obtain ⟨ptg, pit, pifs, isa⟩ := g1
      unfold chkE at h
      simp only [Bool.and_eq_true] at h
      obtain ⟨⟨⟨⟨⟨⟨⟨⟨h1, hmk⟩, h2⟩, h3⟩, h4⟩, h5⟩, h6⟩, h7⟩, h8⟩ := h
      have hmk := of_decide_eq_true hmk
      have e1 := of_decide_eq_true h1
      subst e1
      have ok := blkOk_by h4
      obtain ⟨r, hr⟩ := Option.isSome_iff_exists.mp h3
      have eo : own1 X.N own = r := by unfold own1; rw [hr]; rfl
      rw [eo] at ok
      have e2 : r.map (·.2) = own := ownOf_snd hr
      obtain ⟨pi, pf⟩ := okIt hC it X W ptg pit g tk h2
      refine ⟨_, ps_setLc (wi := tI L W C it) (g := gT L t) (tt := tPB L (fun _ _ _ _ => False) C c) (te := tE L (fun _ _ _ _ => False) C elt) g.calm g.nd hy hyl hsw pi ok
          (fun s H A cl fp => pg_T (X := X.blk s H scope (compEnvC scope cl A X.env) fp) (l := true) g.K g.calm g.nd (fun z => by cases z) t ptg h6)
          (fun s H A cl fp => (okPo hC c _ _ (g.blk ok.kind hmk s H A cl fp) takesN).2 pifs h7)
          (fun s H A cl fp => (okE hC elt _ _ pelt (g.blk ok.kind hmk s H A cl fp) takesN h8).1) pf, fun σ H Q Q' hq z => ?_⟩
      rw [e2]
      exact lc_go (fun i hi => by
        have := List.all_eq_true.mp h5 i hi
        simpa using this) hq z
theorem gS_set (hC : CxOk L M k C) {i : Nat} {e : E} : GS L M k C (.set i e) := by
  intro X W ps g tk po h
  unfold chkS at h
  split at h
  · rename_i x px pe pos
    simp only [Bool.and_eq_true] at h
    obtain ⟨⟨⟨h1, h2⟩, h3⟩, h4⟩ := h
    obtain ⟨n1, n2, n3⟩ := g.g.var h1
    obtain ⟨l1, l2⟩ := loc_fn g h2
    rw [Bool.or_eq_true] at h4
    by_cases hsw : swB X.env.scope x px pe = true
    · obtain ⟨elt, gs, scope, p, rfl, s1, s2, s3⟩ := swB_of hsw
      obtain ⟨el, t, it, c, own, rfl⟩ := chk_lc h3
      obtain ⟨te, t1, t2⟩ := lc_set (W := W) (spos := pos) (py := px) hC g.g tk h3 n1 s1 (sw_true g.g.up s1 s2 s3)
      refine (PS_lk t1).imp fun D σ H z => ?_
      obtain ⟨ρ, μ, st, S, n, z⟩ := z
      have w : tE L W C (.lc el t it c own) σ H (fun u H' => D.nx (σ.set i (some u)) H') := tE_out S n z fun u x st' H' μ' e S' n' r z => SQ.nx z S' (n'.put i r)
      refine t2 σ H _ _ (fun u H' q => ?_) w
      rcases q with q | ⟨p, w, rfl, q1, q2, q3⟩
      · exact .inl q
      · exact .inr ⟨p, w, q1, q2, q3⟩
    · have hc : swapsWith pe (some (.Name x px)) pos.line X.env = pure false := by
        rcases h4 with h4 | h4
        · exact absurd h4 hsw
        · by_cases hcp : compP pe = true
          · rw [hcp] at h4
            have hl : lclB X.env.scope x = false := by simpa using h4
            have hk : (X.env.kindOf x == some NameKind.local) = false := by
              rw [beq_eq_false_iff_ne]
              intro q
              unfold lclB at hl
              rw [show X.env.scope.names.lookup x = some .local from q] at hl
              cases hl
            cases pe with
            | ListComp a b c d => unfold swapsWith; simp only [hk, Bool.and_false, Bool.false_and]
            | SetComp a b c d => unfold swapsWith; simp only [hk, Bool.and_false, Bool.false_and]
            | DictComp a b c d f => unfold swapsWith; simp only [hk, Bool.and_false, Bool.false_and]
            | _ => rfl
          · exact chk_comp (by simpa using hcp)
      refine (ps_set g.g.nd n1 l1 (okE hC e X W pe g.g tk h3).1 hc l2).imp fun D σ H z => ?_
      obtain ⟨ρ, μ, st, S, n, z⟩ := z
      exact tE_out S n z fun u x st' H' μ' e S' n' r z => SQ.nx z S' (n'.put i r)
  · cases h
end
end EvS

namespace EvS
open PySem PySem.Spec PyProof.Rows L2 Ev
variable {L : Lw} {M : Nm} {k : Nat} {C : Ev.Ctx}
section
variable {X : L2.Cx} {W : WX}
theorem not_t {b : Bool} (h : (!b) = true) : b = false := by cases b <;> first | rfl | cases h
def starB : Expr → Bool
  | .Starred _ _ => true
  | _ => false
theorem star_no {N : List Str} {e : E} {sc : Scope} {pe : Expr} (h : chkE M N e sc pe = true) : starB pe = false := by
  cases pe with
  | Starred a p => rw [no_star] at h; cases h
  | _ => rfl
theorem any_star (vs : List Expr) (h : vs.any starB = false) : (vs.any fun | .Starred .. => true | _ => false) = false := by
  have e : (fun | .Starred .. => true | _ => false : Expr → Bool) = starB := by
    funext x
    cases x <;> rfl
  rw [e]
  exact h
theorem swap_of {ts vs : List Expr} {names : List Str} {p1 p2 : Pos} {k1 k2 : Nat} {env : Env} (h0 : (!(ts.length == 2 || ts.length == 3) || vs.length != ts.length || env.blockKind != .function) = false) (h1 : vs.any starB = false)
    (hn : (ts.filterMap fun
      | .Name id pos => if env.kindOf id == some .local && pos.line == ((ts.head?.map (·.pos.line)).getD 0) then some id else none
      | _ => none) = names) (h2 : (names.length != ts.length || names.eraseDups.length != names.length) = false) (h3 : vs.all (foldedForSure 8) = false) (h4 : vs.all (constantsAlone 8) = false) :
    swappedStores [.Tuple ts k1 p1] (.Tuple vs k2 p2) env = pure (some names) := by
  unfold swappedStores
  refine (if_neg (by rw [h0]; exact Bool.false_ne_true)).trans ?_
  refine (if_neg (Bool.eq_false_iff.mp (any_star vs h1))).trans ?_
  rw [← hn] at h2 ⊢
  refine (if_neg (Bool.eq_false_iff.mp h2)).trans ?_
  refine (if_neg (by rw [h3]; exact Bool.false_ne_true)).trans ?_
  refine (if_neg (by rw [h4]; exact Bool.false_ne_true)).trans ?_
  rfl
theorem blockK (g : Gd L k X) : X.env.blockKind = .function := by unfold Env.blockKind; rw [g.up]; rfl
theorem gS_par2 {i j : Nat} {a b : E} (ha : GE L M k C a) (hb : GE L M k C b) : GS L M k C (.par2 i j a b) := by
  intro X W ps g tk po h
  unfold chkS at h
  split at h
  · rename_i x px y py k1 p1 pa pb k2 p2 pos
    simp only [Bool.and_eq_true] at h
    obtain ⟨⟨⟨⟨⟨⟨⟨⟨⟨h1, h2⟩, h3⟩, h4⟩, h5⟩, h6⟩, h7⟩, h8⟩, h9⟩, h10⟩ := h
    have hx := lcl_of h3
    have hy := lcl_of h4
    have hij := of_decide_eq_true h5
    have hxy := of_decide_eq_true h6
    unfold parOk at h10
    rw [Bool.and_eq_true] at h10
    have kx : X.env.kindOf x = some .local := hx
    have ky : X.env.kindOf y = some .local := hy
    have ne : (y == x) = false := beq_eq_false_iff_ne.mpr (Ne.symm hxy)
    refine (ps_par g.g.calm g.g.nd (nm_of h1) (nm_of h2) hij hx hy (pa_cons (ha X W pa g.g tk h8).1 (pa_cons (hb X W pb g.g tk h9).1 pa_nil (chk_star h9)) (chk_star h8))
      (swap_of (by rw [blockK g.g.toGd]; rfl) (by simp [star_no h8, star_no h9]) ?_ ?_ (not_t h10.1) (not_t h10.2))).imp fun D σ H z => ?_
    · have hp : (py.line == px.line) = true := h7
      have e1 : py.line = px.line := by simpa using hp
      simp [List.filterMap_cons, kx, ky, Expr.pos, e1]
    · simp [List.eraseDups, List.eraseDupsBy, List.eraseDupsBy.loop, ne]
    · obtain ⟨ρ, μ, st, S, n, z⟩ := z
      refine tE_out S n z fun u v st' H' μ' e S' n' r z => ?_
      refine tE_out S' n' z fun u2 v2 st2 H2 μ2 e2 S2 n2 r2 z => ?_
      exact ⟨v, v2, rfl, SQ.nx z S2 ((n2.put i (r.ext e2)).put j r2)⟩
  · cases h
theorem gS_par3 {i j l : Nat} {a b c : E} (ha : GE L M k C a) (hb : GE L M k C b) (hc : GE L M k C c) : GS L M k C (.par3 i j l a b c) := by
  intro X W ps g tk po h
  unfold chkS at h
  split at h
  · rename_i x px y py v pv k1 p1 pa pb pc k2 p2 pos
    simp only [Bool.and_eq_true] at h
    obtain ⟨⟨⟨⟨⟨⟨⟨⟨⟨⟨⟨⟨⟨⟨⟨⟨⟨h1, h2⟩, h3⟩, h4⟩, h5⟩, h6⟩, h7⟩, h8⟩, h9⟩, h10⟩, h11⟩, h12⟩, h13⟩, h14⟩, h15⟩, h16⟩, h17⟩, h18⟩ := h
    have hx := lcl_of h4
    have hy := lcl_of h5
    have hv := lcl_of h6
    unfold parOk at h18
    rw [Bool.and_eq_true] at h18
    have kx : X.env.kindOf x = some .local := hx
    have ky : X.env.kindOf y = some .local := hy
    have kv : X.env.kindOf v = some .local := hv
    have ne1 : (y == x) = false := beq_eq_false_iff_ne.mpr (Ne.symm (of_decide_eq_true h10))
    have ne2 : (v == x) = false := beq_eq_false_iff_ne.mpr (Ne.symm (of_decide_eq_true h11))
    have ne3 : (v == y) = false := beq_eq_false_iff_ne.mpr (Ne.symm (of_decide_eq_true h12))
    refine (ps_par3 g.g.calm g.g.nd (nm_of h1) (nm_of h2) (nm_of h3) (of_decide_eq_true h7) (of_decide_eq_true h8) (of_decide_eq_true h9) hx hy hv
      (pa_cons (ha X W pa g.g tk h15).1 (pa_cons (hb X W pb g.g tk h16).1 (pa_cons (hc X W pc g.g tk h17).1 pa_nil (chk_star h17)) (chk_star h16)) (chk_star h15))
      (swap_of (by rw [blockK g.g.toGd]; rfl) (by simp [star_no h15, star_no h16, star_no h17]) ?_ ?_ (not_t h18.1) (not_t h18.2))).imp fun D σ H z => ?_
    · have hp : (py.line == px.line) = true := h13
      have hp2 : (pv.line == px.line) = true := h14
      simp [List.filterMap_cons, kx, ky, kv, Expr.pos]
      have e1 : py.line = px.line := by simpa using hp
      have e2 : pv.line = px.line := by simpa using hp2
      simp [e1, e2]
    · simp [List.eraseDups, List.eraseDupsBy, List.eraseDupsBy.loop, ne1, ne2, ne3]
    · obtain ⟨ρ, μ, st, S, n, z⟩ := z
      refine tE_out S n z fun u v st' H' μ' e S' n' r z => ?_
      refine tE_out S' n' z fun u2 v2 st2 H2 μ2 e2 S2 n2 r2 z => ?_
      refine tE_out S2 n2 z fun u3 v3 st3 H3 μ3 e3 S3 n3 r3 z => ?_
      exact ⟨v, v2, v3, rfl, SQ.nx z S3 (((n3.put i ((r.ext e2).ext e3)).put j (r2.ext e3)).put l r3)⟩
  · cases h
/-- a turn of a for -/
theorem forLoop_cons {H : Hp} {μ : Mu} {step : D → En → Sto → O} {x : D} {xs : List D} {ρ : En} {st : Sto} {D : Ends} (h : SQ L W H μ (forLoop step (x :: xs) ρ st) D) :
    SQ L W H μ (step x ρ st) { D with nx := fun σ' H' => ∃ ρ' μ' st', Ext H μ H' μ' ∧ Sim L H' μ' st' ∧ EnR L H' μ' ρ' σ' ∧ SQ L W H' μ' (forLoop step xs ρ' st') D, ct := fun σ' H' => ∃ ρ' μ' st', Ext H μ H' μ' ∧ Sim L H' μ' st' ∧ EnR L H' μ' ρ' σ' ∧ SQ L W H' μ' (forLoop step xs ρ' st') D, bk := D.nx } := by
  unfold forLoop at h
  cases q : step x ρ st with
  | nx ρ' st' =>
    rw [q] at h
    exact fun H' μ' σ' e s n => ⟨ρ', μ', st', e, s, n, SQ.ext e h⟩
  | ct ρ' st' =>
    rw [q] at h
    exact fun H' μ' σ' e s n => ⟨ρ', μ', st', e, s, n, SQ.ext e h⟩
  | bk ρ' st' =>
    rw [q] at h
    exact h
  | rt v st' =>
    rw [q] at h
    exact h
  | ex c fs ρ' st' =>
    rw [q] at h
    exact h
  | no =>
    rw [q] at h
    exact h
theorem gS_for {t : Tg} {it : Ev.It} {b : Ss} (hi : GI L M k C it) (hb : GSs L M k C b) : GS L M k C (.for_ t it b) := by
  intro X W ps g tk po h
  unfold chkS at h
  split at h
  · rename_i ptg pit pb pos
    simp only [Bool.and_eq_true] at h
    obtain ⟨⟨h1, h2⟩, h3⟩ := h
    obtain ⟨pi, pf⟩ := hi X W ptg pit g.g tk h2
    refine (ps_for po g.g.calm pi (pg_T (t := t) (l := false) g.g.K g.g.calm g.g.nd (fun _ => g.fn) ptg h1) (hb X W pb g tk po h3) pf).imp fun D σ H z => ?_
    obtain ⟨ρ, μ, st, S, n, z⟩ := z
    refine ⟨ρ, μ, st, S, n, (z.out n).mono fun xs st1 H1 μ1 e1 S1 z1 J wd => ?_⟩
    obtain ⟨hlen, G, Y, walk, gst, yl⟩ := wd
    refine for_it walk (fun i σ2 H2 => ∃ ρ2 μ2 st2, Ext H1 μ1 H2 μ2 ∧ Sim L H2 μ2 st2 ∧ EnR L H2 μ2 ρ2 σ2 ∧ SQ L W H2 μ2 (forLoop (fun x ρ st => match bindT t x ρ with
      | some ρ' => evSs C b ρ' st
      | none => .no) (xs.drop i) ρ2 st2) D) ?_ ?_ ?_ ?_
    · exact ⟨ρ, μ1, st1, Ext.refl _ _, S1, n.ext e1, z1⟩
    · rintro i σ2 H2 hi ⟨ρ2, μ2, st2, e2, _⟩
      exact gst H2 e2.im
    · rintro i x σ2 H2 H3 hi ⟨ρ2, μ2, st2, e2, S2, n2, z2⟩ y
      obtain ⟨nw, d, hd, rd⟩ := yl i H2 x H3 hi e2.im y
      obtain ⟨e3, S3⟩ := nw.ext S2
      have hdrop : xs.drop i = d :: xs.drop (i + 1) := by
        obtain ⟨h1, h2⟩ := List.getElem?_eq_some_iff.mp hd
        rw [List.drop_eq_getElem_cons h1, h2]
      rw [hdrop] at z2
      have z3 := forLoop_cons (SQ.ext e3 z2)
      cases hbd : bindT t d ρ2 with
      | none =>
        rw [hbd] at z3
        exact z3.elim
      | some ρ' =>
        rw [hbd] at z3
        refine ⟨d, ρ2, ρ', μ2, rd, n2.ext e3, hbd, fun σ4 n4 _ _ => ⟨ρ', μ2, st2, S3, n4, ?_⟩⟩
        have key : ∀ σ' H', (∃ ρ' μ' st', Ext H3 μ2 H' μ' ∧ Sim L H' μ' st' ∧ EnR L H' μ' ρ' σ' ∧ SQ L W H' μ' (forLoop (fun x ρ st => match bindT t x ρ with
            | some ρ' => evSs C b ρ' st
            | none => .no) (xs.drop (i + 1)) ρ' st') D) → ∃ ρ' μ' st', Ext H1 μ1 H' μ' ∧ Sim L H' μ' st' ∧ EnR L H' μ' ρ' σ' ∧ SQ L W H' μ' (forLoop (fun x ρ st => match bindT t x ρ with
            | some ρ' => evSs C b ρ' st
            | none => .no) (xs.drop (i + 1)) ρ' st') D := fun σ' H' ⟨ρ', μ', st', e4, q⟩ => ⟨ρ', μ', st', (e2.trans e3).trans e4, q⟩
        simp only at z3
        cases q : evSs C b ρ' st2 with
        | nx ρ5 st5 =>
          rw [q] at z3
          exact fun H' μ' σ' e s n => key _ _ (z3 H' μ' σ' e s n)
        | ct ρ5 st5 =>
          rw [q] at z3
          exact fun H' μ' σ' e s n => key _ _ (z3 H' μ' σ' e s n)
        | bk ρ5 st5 =>
          rw [q] at z3
          exact z3
        | rt v st5 =>
          rw [q] at z3
          exact z3
        | ex c fs ρ5 st5 =>
          rw [q] at z3
          exact z3
        | no =>
          rw [q] at z3
          exact z3
    · rintro σ2 H2 ⟨ρ2, μ2, st2, e2, S2, n2, z2⟩
      rw [List.drop_length] at z2
      exact SQ.nx z2 S2 n2
  · cases h
theorem gS_whl {c : E} {b : Ss} (hc : GE L M k C c) (hb : GSs L M k C b) : GS L M k C (.whl c b) := by
  intro X W ps g tk po h
  unfold chkS at h
  split at h
  · rename_i pc pb pos
    simp only [Bool.and_eq_true] at h
    obtain ⟨⟨h1, h2⟩, h3⟩ := h
    refine (ps_while po ((hc X W pc g.g tk h2).2 h1) (hb X W pb g tk po h3)).imp fun D σ H z => ?_
    obtain ⟨ρ, μ, st, S, n, z⟩ := z
    refine ⟨fun m σ H => ∃ ρ μ st, Sim L H μ st ∧ EnR L H μ ρ σ ∧ SQ L W H μ (whlLoop (fun ρ st => evE C c ρ st) (fun ρ st => evSs C b ρ st) m ρ st) D, ⟨turns, ρ, μ, st, S, n, z⟩, ?_⟩
    rintro m σ H ⟨ρ, μ, st, S, n, z⟩
    cases m with
    | zero => exact z.elim
    | succ m =>
      refine tT_out S n z (fun v st H μ q => ?_) fun d st' H' μ' e S' n' z => ?_
      · split at q
        · exact ⟨true, rfl⟩
        · exact ⟨false, rfl⟩
        · exact q.elim
      · cases d with
        | false => exact SQ.nx z S' n'
        | true =>
          simp only [if_true]
          refine ⟨fun σ' H' => ∃ ρ μ st, Sim L H' μ st ∧ EnR L H' μ ρ σ' ∧ SQ L W H' μ (whlLoop (fun ρ st => evE C c ρ st) (fun ρ st => evSs C b ρ st) m ρ st) D, fun σ' H' q => ⟨m, Nat.lt_succ_self _, q⟩, ρ, μ', st', S', n', ?_⟩
          simp only at z
          cases q : evSs C b ρ st' with
          | nx ρ5 st5 =>
            rw [q] at z
            exact fun H' μ' σ' e s n => ⟨ρ5, μ', st5, s, n, SQ.ext e z⟩
          | ct ρ5 st5 =>
            rw [q] at z
            exact fun H' μ' σ' e s n => ⟨ρ5, μ', st5, s, n, SQ.ext e z⟩
          | bk ρ5 st5 =>
            rw [q] at z
            exact z
          | rt v st5 =>
            rw [q] at z
            exact z
          | ex cc fs ρ5 st5 =>
            rw [q] at z
            exact z
          | no =>
            rw [q] at z
            exact z
  · cases h
theorem gS_none {s : Ev.S} (h : ∀ N sc ps, chkS M N s sc ps = false) : GS L M k C s := fun X W ps g tk po z => by rw [h] at z; cases z
mutual
theorem okS (hC : CxOk L M k C) : ∀ s : Ev.S, GS L M k C s
  | .set i e => gS_set hC
  | .unp ts e => gS_unp (okE hC e)
  | .par2 i j a b => gS_par2 (okE hC a) (okE hC b)
  | .par3 i j l a b c => gS_par3 (okE hC a) (okE hC b) (okE hC c)
  | .idx o i e => gS_idx (okE hC o) (okE hC i) (okE hC e)
  | .exp e => gS_exp (okE hC e)
  | .ite c a b => gS_ite (okE hC c) (okSs hC a) (okSs hC b)
  | .for_ t it b => gS_for (okIt hC it) (okSs hC b)
  | .whl c b => gS_whl (okE hC c) (okSs hC b)
  | .ret e => gS_ret (okE hC e)
  | .retN => gS_retN
  | .brk => gS_brk
  | .cnt => gS_cnt
  | .pas => gS_pas
  | .rse _ => gS_none fun _ _ _ => rfl
  | .nev => fun X W ps g tk po h => ps_never.imp fun D σ H z => by
    obtain ⟨ρ, μ, st, S, n, z⟩ := z
    exact z
theorem okSs (hC : CxOk L M k C) : ∀ s : Ss, GSs L M k C s
  | .nil => gSs_nil
  | .cons s r => gSs_cons (okS hC s) (okSs hC r)
end
end
end EvS

namespace EvS
open PySem PySem.Spec PyProof.Rows L2 Ev
/-- a def of the text and its own tree; lmd: it makes lambdas -/
structure Df where
  name : Str
  params : Arguments
  body : List Stmt
  scope : Scope
  N : List Str
  ps : List Str
  own : Fd
  lmd : Bool := false
/-- a lambda: the captured names, its parameters, its own tree -/
structure Lm where
  caps : List Str
  ps : List Str
  own : Ld
/-- the names where no lambda is made -/
def Nm.off (M : Nm) : Nm := { M with lmk := none, lamB := fun _ _ _ _ _ => false }
def argsB (ps : List Str) : Arguments → Bool
  | ⟨[], as, none, [], [], none, []⟩ => decide (as.map (·.arg) = ps) && decide (as.length ≤ 1)
  | _ => false
/-- does the lambda's text match its own tree? -/
def lamChk (M0 : Nm) (lm : Lm) (caps : List Str) (params : Arguments) (body : Expr) (scope : Scope) : Bool :=
  decide (caps = lm.caps) && argsB lm.ps params && (match scope.kind with
    | .function => true
    | _ => false) && !scope.isCoroutine && !scope.isGenerator && decide (lm.caps ++ lm.ps).Nodup && (lm.caps.all fun x => match scope.names.lookup x with
    | some .free => true
    | _ => false) && (lm.ps.all fun x => lclB scope x) && (scope.names.all fun y => match y.2 with
    | .cell => false
    | .free => decide (y.1 ∈ lm.caps)
    | _ => true) && ((lm.caps ++ lm.ps).all fun x => !(x == ("__debug__" : Str)) && !(x == ("__classdict__" : Str))) && decide (lm.own.nc = lm.caps.length) && decide (lm.own.np = lm.ps.length) && chkE M0 (lm.caps ++ lm.ps) lm.own.body scope body
/-- the lambdas of a text by their numbers -/
def lamsB (M0 : Nm) (lms : List Lm) : Nat → List Str → Arguments → Expr → Scope → Bool := fun l caps params body scope => match lms[l]? with
  | some lm => lamChk M0 lm caps params body scope
  | none => false
def dfB (M : Nm) (d : Df) : Bool :=
  (match d.scope.kind with
    | .function => true
    | _ => false) && !d.scope.isCoroutine && !d.scope.isGenerator && decide d.N.Nodup && decide (d.N.take d.ps.length = d.ps) && (d.ps.all fun x => locB d.scope x) && (d.scope.names.all fun y => match y.2 with
    | .free => false
    | _ => true) && (d.N.all fun x => !(x == ("__debug__" : Str)) && !(x == ("__classdict__" : Str))) && !(d.name == ("__debug__" : Str)) && decide (d.own.np = d.ps.length) && decide (d.own.nn = d.N.length) && chkSs { M with lmk := if d.lmd then some d.scope.names else none } d.N d.own.body d.scope d.body
structure DfOk (M : Nm) (d : Df) : Prop where
  chk : dfB M d = true
  bind : ∀ (kV doc pm : Value) (an : Option Addr) (cdv ct : Value) (us : List Value), us.length = d.ps.length → bindArgs (PySem.W.fnOf d.name d.name d.params d.body d.scope .none kV doc pm an cdv ct) ⟨us, []⟩ = pure (d.ps.zip us)
abbrev Df.M (M : Nm) (d : Df) : Nm := { M with lmk := if d.lmd then some d.scope.names else none }
theorem dfB_all {M : Nm} {d : Df} (h : dfB M d = true) : FnScope d.N d.ps d.scope ∧ (∀ x ∈ d.N, (x == ("__debug__" : Str)) = false ∧ (x == ("__classdict__" : Str)) = false) ∧ (d.name == ("__debug__" : Str)) = false ∧ d.own.np = d.ps.length ∧ d.own.nn = d.N.length ∧ chkSs (d.M M) d.N d.own.body d.scope d.body = true := by
  unfold dfB at h
  simp only [Bool.and_eq_true] at h
  obtain ⟨⟨⟨⟨⟨⟨⟨⟨⟨⟨⟨h1, h2⟩, h3⟩, h4⟩, h5⟩, h6⟩, h7⟩, h8⟩, h9⟩, h10⟩, h11⟩, h12⟩ := h
  refine ⟨⟨?_, not_t h2, not_t h3, of_decide_eq_true h4, of_decide_eq_true h5, fun x hx => loc_of (List.all_eq_true.mp h6 x hx), fun y hy e => ?_⟩, fun x hx => ?_, not_t h9, of_decide_eq_true h10, of_decide_eq_true h11, h12⟩
  · split at h1
    · assumption
    · cases h1
  · have q := List.all_eq_true.mp h7 y hy
    rw [e] at q
    cases q
  · have q := List.all_eq_true.mp h8 x hx
    rw [Bool.and_eq_true] at q
    exact ⟨not_t q.1, not_t q.2⟩
theorem bind1 {name q : Str} {a : Arg} {body : Expr} {scope : Scope} {cl : List (Str × Addr)} {pm cv ctv w : Value} : bindArgs (PySem.W.kla_fn name q ⟨[], [a], none, [], [], none, []⟩ body scope cl pm cv ctv) ⟨[w], []⟩ = pure [(a.arg, w)] := by
  have e1 : ([(a.arg, w)] : List (Str × Value)).lookup a.arg = some w := List.lookup_cons_self
  unfold bindArgs
  simp [e1, seqItems?]
  rfl
theorem args_bind {ps : List Str} {params : Arguments} (h : argsB ps params = true) (name q : Str) (body : Expr) (scope : Scope) (cl : List (Str × Addr)) (pm cv ctv : Value) (ws : List Value) (hl : ws.length = ps.length) :
    bindArgs (PySem.W.kla_fn name q params body scope cl pm cv ctv) ⟨ws, []⟩ = pure (ps.zip ws) := by
  unfold argsB at h
  split at h
  · rename_i as
    rw [Bool.and_eq_true] at h
    have h1 := of_decide_eq_true h.1
    have h2 := of_decide_eq_true h.2
    subst h1
    match as, h2, ws, hl with
    | [], _, [], _ => rfl
    | [a], _, [w], _ => exact bind1
  · cases h
theorem args_dfl {ps : List Str} {params : Arguments} (h : argsB ps params = true) (env : Env) : defaultsOf params env = ([], []) := by
  unfold argsB at h
  split at h
  · rfl
  · cases h
structure LamAll (M0 : Nm) (lm : Lm) (caps : List Str) (params : Arguments) (body : Expr) (scope : Scope) : Prop where
  ca : caps = lm.caps
  ar : argsB lm.ps params = true
  sc : LamSc lm.caps lm.ps (lm.caps ++ lm.ps) scope
  fr : ∀ y ∈ scope.names, y.2 = .free → y.1 ∈ lm.caps
  nb : ∀ x ∈ lm.caps ++ lm.ps, (x == ("__debug__" : Str)) = false ∧ (x == ("__classdict__" : Str)) = false
  nc : lm.own.nc = lm.caps.length
  np : lm.own.np = lm.ps.length
  ck : chkE M0 (lm.caps ++ lm.ps) lm.own.body scope body = true
theorem lamChk_all {M0 : Nm} {lm : Lm} {caps : List Str} {params : Arguments} {body : Expr} {scope : Scope} (h : lamChk M0 lm caps params body scope = true) : LamAll M0 lm caps params body scope := by
  unfold lamChk at h
  simp only [Bool.and_eq_true] at h
  obtain ⟨⟨⟨⟨⟨⟨⟨⟨⟨⟨⟨⟨h1, h2⟩, h3⟩, h4⟩, h5⟩, h6⟩, h7⟩, h8⟩, h9⟩, h10⟩, h11⟩, h12⟩, h13⟩ := h
  have fr : ∀ y ∈ scope.names, y.2 = .free → y.1 ∈ lm.caps := fun y hy e => by
    have q := List.all_eq_true.mp h9 y hy
    rw [e] at q
    exact of_decide_eq_true q
  refine ⟨of_decide_eq_true h1, h2, ⟨?_, not_t h4, not_t h5, of_decide_eq_true h6, by rw [List.take_length], fun x hx => ?_, fun x hx => lcl_of (List.all_eq_true.mp h8 x hx), fun y hy e => ?_, fun x hx => fr _ (PySem.mem_of_lookup hx) rfl⟩, fr, fun x hx => ?_, of_decide_eq_true h11, of_decide_eq_true h12, h13⟩
  · split at h3
    · assumption
    · cases h3
  · have q := List.all_eq_true.mp h7 x hx
    split at q
    · assumption
    · cases q
  · have q := List.all_eq_true.mp h9 y hy
    rw [e] at q
    cases q
  · have q := List.all_eq_true.mp h10 x hx
    rw [Bool.and_eq_true] at q
    exact ⟨not_t q.1, not_t q.2⟩
section
variable {L : Lw} {H H' : Hp} {μ μ' : Mu} {st st' : Sto}
mutual
theorem RV.pure : ∀ {v : Vl} {u : V}, v.pure = true → RV L H μ v u → RV L H μ' v u
  | .d _, _, _, h => h
  | .fn _, _, _, h => h
  | .ref r, _, p, _ => by cases p
  | .dct _, _, _, h => h
  | .clo _ _, _, p, ⟨f, o, cl, caps, h1, h2, h3, h4⟩ => ⟨f, o, cl, caps, h1, h2, h3, RCl.pure p h4⟩
theorem RCl.pure : ∀ {vs : List Vl} {ns : List Str} {cl : List (Str × Addr)}, Vl.pures vs = true → RCl L H μ vs ns cl → RCl L H μ' vs ns cl
  | [], _, _, _, h => h
  | v :: vs, _, _, p, ⟨n, r, c, oc, val, u, h1, h2, h3, h4, h5, h6, h7⟩ => by
    have p : (v.pure && Vl.pures vs) = true := p
    rw [Bool.and_eq_true] at p
    exact ⟨n, r, c, oc, val, u, h1, h2, h3, h4, h5, RV.pure p.1 h6, RCl.pure p.2 h7⟩
end
theorem RVs.pure : ∀ {vs : List Vl} {us : List V}, Vl.pures vs = true → RVs L H μ vs us → RVs L H μ' vs us
  | [], _, _, h => h
  | v :: vs, _, p, ⟨u, r, h1, h2, h3⟩ => by
    have p : (v.pure && Vl.pures vs) = true := p
    rw [Bool.and_eq_true] at p
    exact ⟨u, r, h1, RV.pure p.1 h2, RVs.pure p.2 h3⟩
/-- from a store of its own back to the caller's -/
theorem Ext.back (S : Sim L H μ st) (e : Ext H [] H' μ') (S' : Sim L H' μ' st') : Ext H μ H' μ ∧ Sim L H' μ st := by
  have keep : ∀ a o, H a = some o → NoTbl o → H' a = some o := fun a o h n => e.fr a o h n fun r => by simp
  have ex : Ext H μ H' μ := ⟨e.im, fun a o h n _ => keep a o h n, Nat.le_refl _, fun _ _ _ h => h, fun r _ h => .inl ⟨r, h⟩, e.tb⟩
  refine ⟨ex, S.len, S.inj, fun r c h => CellR.keep ex (fun a ha => ⟨ha, fun o ho => ?_⟩) (S.cell r c h), fun r a h => ?_, S'.tab⟩
  · obtain ⟨o', h1, h2⟩ := S.some_ r a ha
    rw [ho] at h1
    cases h1
    exact keep a o ho h2
  · obtain ⟨o, h1, h2⟩ := S.some_ r a h
    exact ⟨o, keep a o h1 h2, h2⟩
theorem Sim.none (S : Sim L H μ st) : Sim L H [] [] := ⟨rfl, fun i j a h => by simp at h, fun r c h => by simp at h, fun r a h => by simp at h, S.tab⟩
theorem EnR.start {N : List Str} {nn : Nat} : ∀ {us : List Vl} {vs : List V}, RVs L H μ us vs → nn = N.length → us.length ≤ nn → EnR L H μ (begin_ nn us) (L2.start N vs) := by
  intro us vs r hn hl
  have hlen := r.len
  have get : ∀ {us : List Vl} {vs : List V} {i : Nat} {v : Vl}, RVs L H μ us vs → us[i]? = some v → ∃ u, vs[i]? = some u ∧ RV L H μ v u := by
    intro us
    induction us with
    | nil => intro vs i v _ h; simp at h
    | cons w us ih =>
      intro vs i v r h
      obtain ⟨u, r', rfl, h2, h3⟩ := r
      cases i with
      | zero =>
        simp at h
        subst h
        exact ⟨u, rfl, h2⟩
      | succ i =>
        obtain ⟨u', q1, q2⟩ := ih (vs := r') (i := i) h3 (by simpa using h)
        exact ⟨u', q1, q2⟩
  unfold begin_ L2.start
  refine ⟨by simp [hlen, hn], fun i v hi => ?_⟩
  by_cases h : i < us.length
  · rw [List.getElem?_append_left (by simpa using h), List.getElem?_map] at hi
    cases q : us[i]? with
    | none => rw [q] at hi; cases hi
    | some w =>
      rw [q] at hi
      cases hi
      obtain ⟨u, h1, h2⟩ := get r q
      refine ⟨u, ?_, h2⟩
      rw [List.getElem?_append_left (by rw [List.length_map, hlen]; exact h), List.getElem?_map, h1]
      rfl
  · rw [List.getElem?_append_right (by simpa using h), List.getElem?_replicate] at hi
    split at hi <;> cases hi
/-- what a body hands back -/
theorem SQ_res {E : XK} {o : O} {Q : VK} (h : RQ L H μ E o.res (QV (L := L) Q)) : SQ L (fun cls d _ H => E cls d H) H μ o { nx := fun _ H' => Q .non H', rt := Q } := by
  cases o with
  | nx ρ' st' => exact fun H' μ' σ' e s n => h H' μ' e s .non rfl
  | rt v st' => exact fun H' μ' u e s r => h H' μ' e s u r
  | bk ρ' st' => exact h.elim
  | ct ρ' st' => exact h.elim
  | ex c fs ρ' st' => exact fun H' μ' σ' cls d e s n x => h H' μ' cls d e s x
  | no => exact h
theorem RQ_back {E : XK} {r : R Vl} {Q : VK} (S : Sim L H μ st) (h : RQ L H μ E (r.back st) (QV (L := L) Q)) : RQ L H [] E r (QV (L := L) Q) := by
  cases r with
  | ok v s =>
    cases v with
    | d x => exact fun H' μ' e s u ru => h H' μ (Ext.back S e s).1 (Ext.back S e s).2 u ru
    | _ => exact h.elim
  | ex c fs s => exact fun H' μ' cls d e s x => h H' μ cls d (Ext.back S e s).1 (Ext.back S e s).2 x
  | no => exact h
end
/-- the defs of the law, its lambdas -/
structure Defs (L : Lw) (M : Nm) (ds : List Df) (lms : List Lm) : Prop where
  ok : ∀ (g : Nat) x, M.fns[g]? = some x → ∃ d, ds[g]? = some d ∧ d.name = x ∧ L.T.fns[g]? = some d.own ∧ DfOk M d ∧ (∃ fd, FunD L.K x x d.params d.body d.scope [] [] (L.fa g) fd) ∧ L.mg x = some (.ref (L.fa g)) ∧
    (d.lmd = true → ∀ oc od dV kV doc pm an cdv ct osl, L.K.lookup (L.fa g) = some ⟨oc, od, .func (PySem.W.fnOf x x d.params d.body d.scope dV kV doc pm an cdv ct), osl⟩ → PySem.W.codeIn L.K cdv x = true →
      ∃ c P, cdv = .ref c ∧ LamX.TabB L.base L.mg c P ∧ (P, x ++ ".<locals>." ++ "<lambda>") ∈ L.tabs ∧ ∀ p ∈ L.tabs, p.1 = P → p.2 = x ++ ".<locals>." ++ "<lambda>")
  all : ∀ g, g < L.T.fns.length → ∃ x, M.fns[g]? = some x
  con : ∀ (i : Nat) v x, L.T.cons[i]? = some v → M.cons[i]? = some x → (x == ("__debug__" : Str)) = false ∧ ∃ u val, L.mg x = some val ∧ RelV u val ∧ ∀ H μ, RV L H μ v u
  blt : ∀ n ∈ bnames, L.mg n = none
  lmB : M.lamB = lamsB M.off lms
  lmT : ∀ (l : Nat) lm, lms[l]? = some lm → L.T.lams[l]? = some lm.own
  lmO : ∀ l caps ps N params body scope, L.lamOk l caps ps N params body scope ↔ ∃ lm, lms[l]? = some lm ∧ lamChk M.off lm caps params body scope = true ∧ ps = lm.ps ∧ N = lm.caps ++ lm.ps
section
variable {L : Lw} {M : Nm}
theorem call_len {n g : Nat} {us : List Vl} {st : Sto} {H : Hp} {μ : Mu} {E : XK} {Q : VK} {f : Fd} (hf : L.T.fns[g]? = some f) (h : RQ L H μ E ((L.T.cx n).call g us st) (QV (L := L) Q)) : us.length = f.np := by
  cases n with
  | zero => exact h.elim
  | succ n =>
    have h : RQ L H μ E (match L.T.fns[g]? with
      | none => .no
      | some f => if us.length = f.np then
          (if f.alone then (if Vl.pures us then (evSs (L.T.cx n) f.body (begin_ f.nn us) []).res.back st else .no)
          else (evSs (L.T.cx n) f.body (begin_ f.nn us) st).res)
          else .no) (QV (L := L) Q) := h
    rw [hf] at h
    simp only at h
    by_cases hl : us.length = f.np
    · exact hl
    · rw [if_neg hl] at h
      exact h.elim
theorem takes_cx {P : Program} {w : World} {K : PySem.W.Frag} {mg : Str → Option Value} {base : Heap} {N : List Str} {qual : Str} {scope : Scope} {f : Addr} {cd : Value} {A : Around} {outer : List Env} {s : Shared} {H : Hp} {E : XK} :
    Takes (cxOf (CX P w) P w K mg base N qual scope f cd A outer s H E) (fun cls d _ H => E cls d H) := takes_of rfl rfl rfl rfl
theorem passes_cx {P : Program} {w : World} {K : PySem.W.Frag} {mg : Str → Option Value} {base : Heap} {N : List Str} {qual : Str} {scope : Scope} {f : Addr} {cd : Value} {A : Around} {outer : List Env} {s : Shared} {H : Hp} {E : XK} :
    PassesOwn (model P w) (cxOf (CX P w) P w K mg base N qual scope f cd A outer s H E).A (cxOf (CX P w) P w K mg base N qual scope f cd A outer s H E).env (cxOf (CX P w) P w K mg base N qual scope f cd A outer s H E).xe := passes_of rfl
theorem body_go {n g : Nat} {d : Df} (hk : DfOk M d) (hf : L.T.fns[g]? = some d.own) {vs : List V} {H : Hp} {Q : VK} {E : XK} (h : spF L (L.T.cx (n + 1)) g vs H Q E) : tSs L (fun cls d _ H => E cls d H) (L.T.cx n) d.own.body { nx := fun _ H' => Q .non H', rt := Q } (L2.start d.N vs) H := by
  obtain ⟨S, hnb, hdb, hnp, hnn, hchk⟩ := dfB_all hk.chk
  obtain ⟨us, μ, st, Sm, r, h⟩ := h
  have hl := call_len hf h
  have hpl : d.ps.length ≤ d.N.length := by
    have := congrArg List.length S.pre
    rw [List.length_take] at this
    omega
  have h : RQ L H μ E (match L.T.fns[g]? with
      | none => .no
      | some f => if us.length = f.np then
          (if f.alone then (if Vl.pures us then (evSs (L.T.cx n) f.body (begin_ f.nn us) []).res.back st else .no)
          else (evSs (L.T.cx n) f.body (begin_ f.nn us) st).res)
          else .no) (QV (L := L) Q) := h
  rw [hf] at h
  simp only at h
  rw [if_pos hl] at h
  by_cases ha : d.own.alone = true
  · rw [if_pos ha] at h
    by_cases hp : Vl.pures us = true
    · rw [if_pos hp] at h
      exact ⟨_, [], [], Sm.none, EnR.start (r.pure hp) hnn (by omega), SQ_res (RQ_back Sm h)⟩
    · rw [if_neg hp] at h
      exact h.elim
  · rw [if_neg ha] at h
    exact ⟨_, μ, st, Sm, EnR.start r hnn (by omega), SQ_res h⟩
theorem CxOk.to {n : Nat} {C : Ev.Ctx} {M' : Nm} (h : CxOk L M n C) (e1 : M'.fns = M.fns) (e2 : M'.cons = M.cons) (e3 : ∀ l caps params body scope, M'.lamB l caps params body scope = true → M.lamB l caps params body scope = true) : CxOk L M' n C :=
  ⟨fun i v x h1 h2 => h.con i v x h1 (by rw [← e2]; exact h2), fun g x hx => h.fn g x (by rw [← e1]; exact hx), h.fnV, h.blt, h.lam, fun l caps params body scope q => h.lamS l caps params body scope (e3 _ _ _ _ _ q), h.lamD⟩
theorem body_ps {n : Nat} {d : Df} (hk : DfOk M d) (ih : CxOk L M n (L.T.cx n)) {f : Addr} {cdv : Value} {A : Around} {outer : List Env} {s : Shared} {H : Hp} {E : XK} (base : Heap) (hb : base = L.base) (hr : Room n (A.deeper (envOfC d.name d.scope s.heap.objs.size f cdv)))
    (hmk : d.lmd = true → ∃ c P, cdv = .ref c ∧ LamX.TabB L.base L.mg c P ∧ (P, d.name ++ ".<locals>." ++ "<lambda>") ∈ L.tabs ∧ ∀ p ∈ L.tabs, p.1 = P → p.2 = d.name ++ ".<locals>." ++ "<lambda>") :
    PSs (cxOf (CX L.P L.w) L.P L.w L.K L.mg base d.N d.name d.scope f cdv A outer s H E) d.body (tSs L (fun cls d _ H => E cls d H) (L.T.cx n) d.own.body) := by
  obtain ⟨S, hnb, hdb, hnp, hnn, hchk⟩ := dfB_all hk.chk
  refine okSs (M := d.M M) (ih.to rfl rfl fun _ _ _ _ _ q => q) d.own.body _ _ d.body ⟨⟨⟨rfl, rfl, rfl, rfl, hb, rfl, hr, S.nd, hnb, S.kind⟩, fun e => ?_⟩, fun _ _ => rfl⟩ takes_cx passes_cx hchk
  subst hb
  by_cases hm : d.lmd = true
  · exact ⟨hmk hm, fun _ => rfl⟩
  · have e : (if d.lmd = true then some d.scope.names else none) = some d.scope.names := e
    rw [if_neg hm] at e
    cases e
theorem back_no {r : R Vl} {st : Sto} {H : Hp} {μ : Mu} {E : XK} {Q : VK} (S : Sim L H μ st) (h : RQ L H μ E (r.back st) (QV (L := L) Q)) : RQ L H [] E r (QV (L := L) Q) := RQ_back S h
theorem RVs.app {H : Hp} {μ : Mu} : ∀ {vs vs' : List Vl} {us us' : List V}, RVs L H μ vs us → RVs L H μ vs' us' → RVs L H μ (vs ++ vs') (us ++ us')
  | [], _, us, _, h, h' => by
    have e : us = [] := h
    subst e
    exact h'
  | _ :: _, _, _, _, ⟨u, r, h1, h2, h3⟩, h' => by
    subst h1
    exact ⟨u, r ++ _, rfl, h2, RVs.app h3 h'⟩
/-- a lambda runs -/
theorem clo_ok {ds : List Df} {lms : List Lm} (D : Defs L M ds lms) {n : Nat} (ih : CxOk L M n (L.T.cx n)) : CloOk L (n + 1) (L.T.cx (n + 1)) := by
  intro l cs f A outer s H μ st vs us ws Q E hr e0 rw_ rs rv S z
  obtain ⟨f', o, cl, caps, ef, h1, ⟨ps, N, params, body, scope, qual, pm, ctv, c', lo, sub, inj, h3, ca⟩, rc⟩ := rv
  cases ef
  obtain ⟨lm, hl, hck, rfl, rfl⟩ := (D.lmO _ _ _ _ _ _ _).mp lo
  have al := lamChk_all hck
  have ec := al.ca
  subst ec
  have hT := D.lmT _ _ hl
  obtain ⟨cus, C, hcl, rcs⟩ := capAt_of e0.hok rc
  obtain ⟨B, hB, hin, hout⟩ := cells_held rc
  have hcs : cs.length = lm.caps.length := by rw [← hcl, rcs.len]
  have z : RQ L H μ E (match L.T.lams[l]? with
      | none => .no
      | some f => if cs.length = f.nc ∧ flats cs ∧ flats vs then if vs.length = f.np then
          (if f.alone then (if Vl.pures cs && Vl.pures vs then (evE (L.T.cx n) f.body ((cs ++ vs).map some) []).back st else .no)
          else evE (L.T.cx n) f.body ((cs ++ vs).map some) st)
          else .no else .no) (QV (L := L) Q) := z
  rw [hT] at z
  simp only at z
  by_cases hc1 : cs.length = lm.own.nc ∧ flats cs ∧ flats vs
  · rw [if_pos hc1] at z
    by_cases hc2 : vs.length = lm.own.np
    · rw [if_pos hc2] at z
      have nf : NF B := fun a o e vs hd => by
        obtain ⟨_, v, hv⟩ := hout a o e
        rw [hd] at hv
        cases hv
      have vl : us.length = lm.ps.length := by rw [rs.len, hc2, al.np]
      have fl : flats (cs ++ vs) = true := by
        unfold flats
        rw [List.all_append]
        show (flats cs && flats vs) = true
        rw [hc1.2.1, hc1.2.2]
        rfl
      have rall : RVs L (freed B H) μ (cs ++ vs) (cus ++ us) := RVs.freed hB fl (rcs.app rs)
      have lim : s.heap.NoLimit := e0.mod.nolimit.keeps fun b o e => (e0.bs b o e).1
      have of1 := still_get e0.hok h1
      obtain ⟨oc, u0, fv, t, hc', hd, hv⟩ := ca
      have hoc : s.heap.get? c' = some oc := (e0.hok c' _ hc').1
      rw [h3] at of1
      have S' := S.freed hB nf
      have begin_eq : ∀ us : List Vl, us.length = (lm.caps ++ lm.ps).length → us.map some = begin_ (lm.caps ++ lm.ps).length us := fun us e => by
        unfold begin_
        rw [e, Nat.sub_self]
        simp
      have lall : (cs ++ vs).length = (lm.caps ++ lm.ps).length := by
        rw [List.length_append, List.length_append, hcs, hc2, al.np]
      have ht : tE L (fun cls d _ H' => EK B H E cls d H') (L.T.cx n) lm.own.body (L2.start (lm.caps ++ lm.ps) (cus ++ us)) (freed B H) (QK B H Q) := by
        by_cases ha : lm.own.alone = true
        · rw [if_pos ha] at z
          by_cases hp : (Vl.pures cs && Vl.pures vs) = true
          · rw [if_pos hp] at z
            have hp2 : Vl.pures (cs ++ vs) = true := by
              have key : ∀ cs : List Vl, Vl.pures (cs ++ vs) = (Vl.pures cs && Vl.pures vs) := by
                intro cs
                induction cs with
                | nil => rfl
                | cons c cs ih =>
                  show (c.pure && Vl.pures (cs ++ vs)) = ((c.pure && Vl.pures cs) && Vl.pures vs)
                  rw [ih, Bool.and_assoc]
              rw [key]
              exact hp
            refine ⟨(cs ++ vs).map some, [], [], S'.none, ?_, RQ_back S' (RQ.kept hB z)⟩
            rw [begin_eq _ lall]
            exact EnR.start (rall.pure hp2) rfl (Nat.le_of_eq lall)
          · rw [if_neg hp] at z
            exact z.elim
        · rw [if_neg ha] at z
          refine ⟨(cs ++ vs).map some, μ, st, S', ?_, RQ.kept hB z⟩
          rw [begin_eq _ lall]
          exact EnR.start rall rfl (Nat.le_of_eq lall)
      refine run_clo_held (N := lm.caps ++ lm.ps) al.sc hr e0 lim hB (fun a o e hb => ?_) of1 ⟨c', oc, fv, t, rfl, hoc, hd, hv⟩ (.of_eq (args_bind al.ar _ _ _ _ _ _ _ _ ws (by rw [← rw_.length, vl]))) vl hcl rw_ C inj (fun x c e => ⟨hin x (sub x c e) c e, sub x c e⟩) (fun hr2 => ?_) ht
      · have q := e0.frf a hb
        have q2 : H a = some (stillO a o) := hB a o e
        rw [q] at q2
        cases q2
      · exact (okE (M := M.off) (ih.to rfl rfl fun _ _ _ _ _ q => by cases q) lm.own.body _ _ body ⟨⟨rfl, rfl, rfl, rfl, rfl, rfl, hr2, al.sc.nd, al.nb, al.sc.kind⟩, fun e => by cases e⟩ (takes_of rfl rfl rfl rfl) al.ck).1
    · rw [if_neg hc2] at z
      exact z.elim
  · rw [if_neg hc1] at z
    exact z.elim
theorem fns_ok {ds : List Df} {lms : List Lm} (D : Defs L M ds lms) : ∀ n, CxOk L M n (L.T.cx n)
  | 0 => by
    have fn : ∀ g x, M.fns[g]? = some x → (x == ("__debug__" : Str)) = false ∧ ∃ fd ps, FnOk L.P L.w L.K L.mg L.base (CX L.P L.w) 0 (L.fa g) fd ps (spF L (L.T.cx 0) g) ∧ L.mg x = some (.ref (L.fa g)) ∧ PySem.W.keepIn L.K (.ref (L.fa g)) = true ∧ Binds L.K fd ps [] := fun g x hx => by
      obtain ⟨d, _, rfl, hf, hk, ⟨fd, F⟩, hm, _⟩ := D.ok g x hx
      obtain ⟨S, hnb, hdb, hnp, hnn, hchk⟩ := dfB_all hk.chk
      exact ⟨hdb, fd, d.ps, ⟨fun vs H Q E h => by
        obtain ⟨us, μ, st, _, _, h⟩ := h
        exact h.elim, fun A outer s H args us vs Q E _ _ _ _ h => by
        obtain ⟨us, μ, st, _, _, h⟩ := h
        exact h.elim⟩, hm, F.kp, F.bindsN hk.bind⟩
    exact ⟨fun i v x h1 h2 => D.con i v x h1 h2, fn, fun g hg => by
      obtain ⟨x, hx⟩ := D.all g hg
      obtain ⟨_, fd, ps, h1, _, h2, h3⟩ := fn g x hx
      exact ⟨fd, ps, h1, h2, h3⟩, D.blt, fun l cs f A outer s H μ st vs us ws Q E _ _ _ _ _ _ z => z.elim, (fun l caps params body scope h => by
      rw [D.lmB] at h
      unfold lamsB at h
      split at h
      · rename_i lm hl
        exact ⟨lm.ps, lm.caps ++ lm.ps, (D.lmO _ _ _ _ _ _ _).mpr ⟨lm, hl, h, rfl, rfl⟩⟩
      · cases h), fun l caps ps N params body scope h => by
      obtain ⟨lm, hl, hck, _, _⟩ := (D.lmO _ _ _ _ _ _ _).mp h
      have al := lamChk_all hck
      rw [al.ca]
      exact ⟨args_dfl al.ar, al.sc.cap, al.fr⟩⟩
  | n + 1 => by
    have ih := fns_ok D n
    have fn : ∀ g x, M.fns[g]? = some x → (x == ("__debug__" : Str)) = false ∧ ∃ fd ps, FnOk L.P L.w L.K L.mg L.base (CX L.P L.w) (n + 1) (L.fa g) fd ps (spF L (L.T.cx (n + 1)) g) ∧ L.mg x = some (.ref (L.fa g)) ∧ PySem.W.keepIn L.K (.ref (L.fa g)) = true ∧ Binds L.K fd ps [] := fun g x hx => by
      obtain ⟨d, _, rfl, hf, hk, ⟨fd, F⟩, hm, hmk⟩ := D.ok g x hx
      obtain ⟨S, hnb, hdb, hnp, hnn, hchk⟩ := dfB_all hk.chk
      refine ⟨hdb, fd, d.ps, ?_, hm, F.kp, F.bindsN hk.bind⟩
      obtain ⟨oc, od, dV, kV, doc, pm, an, cdv, ct, osl, rfl, lk, hcd, _, _⟩ := F.ex
      refine fn_of lk hcd S (fun vs H Q E h => ?_) fun A outer s H vs Q E hr h => ⟨_, body_ps hk ih _ rfl hr (fun e => hmk e _ _ _ _ _ _ _ _ _ _ lk hcd), body_go hk hf h⟩
      obtain ⟨us, μ, st, _, r, h⟩ := h
      rw [r.len, call_len hf h, hnp]
    exact ⟨fun i v x h1 h2 => D.con i v x h1 h2, fn, fun g hg => by
      obtain ⟨x, hx⟩ := D.all g hg
      obtain ⟨_, fd, ps, h1, _, h2, h3⟩ := fn g x hx
      exact ⟨fd, ps, h1, h2, h3⟩, D.blt, clo_ok D ih, ih.lamS, ih.lamD⟩
end
end EvS

namespace EvS
open PySem PySem.Spec PyProof.Rows L2 Ev
/-- a list that may be written is locked ahead of the body -/
theorem PSs_lk0 {X : L2.Cx} {b : List Stmt} {t : TS} (h : PSs X b t) : PSs X b (fun D σ H => t D σ H ∨ ∃ p u, H p = some u ∧ Mut (some u) ∧ ∀ od, t D σ (upd H p (.frz od u))) :=
  ⟨fun pins s σ H D I hq => by
    rcases hq with q | ⟨p, u, h1, h2, q⟩
    · exact h.run pins s σ H D I q
    · obtain ⟨od, I2⟩ := I.lock h1 h2
      exact h.run pins s σ _ D I2 (q od)⟩
def spLk (sp : Sp) : Sp := fun vs H Q E => sp vs H Q E ∨ ∃ p u, H p = some u ∧ Mut (some u) ∧ ∀ od, sp vs (upd H p (.frz od u)) Q E
/-! ### constants of the module -/
mutual
def datB (K : PySem.W.Frag) : D → Value → Bool
  | .non, v => match v with
    | .none => true
    | _ => false
  | .bl b, v => match v with
    | .bool c => b == c
    | _ => false
  | .int i, v => match v with
    | .int j _ => decide (i = j)
    | _ => false
  | .str s, v => match v with
    | .str z _ => decide ((⟨s.toArray⟩ : Str) = z) && decide (s.length ≤ line) && s.all (fun c => decide (c < 128))
    | _ => false
  | .tup xs, v => match v with
    | .ref a => (match K.lookup a with
      | some ⟨.type c, _, .seq its _, _⟩ => decide (c = "tuple") && decide (its.size ≤ sizeLine) && decide (xs.length ≤ line) && datsB K xs its.toList
      | _ => false)
    | _ => false
  | .lst _, _ => false
def datsB (K : PySem.W.Frag) : List D → List Value → Bool
  | [], vs => match vs with
    | [] => true
    | _ => false
  | x :: xs, vs => match vs with
    | [] => false
    | v :: vs => datB K x v && datsB K xs vs
end
mutual
theorem datB_ok {K : PySem.W.Frag} : ∀ (x : D) (v : Value), datB K x v = true → ∃ u, RelV u v ∧ ∀ H, RD K H x u
  | .non, v, h => by
    cases v with
    | none => exact ⟨.non, rfl, fun _ => rfl⟩
    | _ => cases h
  | .bl b, v, h => by
    cases v with
    | bool c =>
      have e := eq_of_beq (show (b == c) = true from h)
      subst e
      exact ⟨.bl b, rfl, fun _ => rfl⟩
    | _ => cases h
  | .int i, v, h => by
    cases v with
    | int j t =>
      have e := of_decide_eq_true (show decide (i = j) = true from h)
      subst e
      exact ⟨.int i, ⟨t, rfl⟩, fun _ => rfl⟩
    | _ => cases h
  | .str s, v, h => by
    cases v with
    | str z t =>
      have h : (decide ((⟨s.toArray⟩ : Str) = z) && decide (s.length ≤ line) && s.all (fun c => decide (c < 128))) = true := h
      rw [Bool.and_eq_true, Bool.and_eq_true] at h
      have e := of_decide_eq_true h.1.1
      subst e
      exact ⟨.str _, ⟨t, rfl⟩, fun _ => ⟨rfl, of_decide_eq_true h.1.2, fun c hc => of_decide_eq_true (List.all_eq_true.mp h.2 c hc)⟩⟩
    | _ => cases h
  | .tup xs, v, h => by
    cases v with
    | ref a =>
      have h : (match (generalizing := false) K.lookup a with
        | some ⟨.type c, _, .seq its _, _⟩ => decide (c = "tuple") && decide (its.size ≤ sizeLine) && decide (xs.length ≤ line) && datsB K xs its.toList
        | _ => false) = true := h
      split at h
      · rename_i c od its n sl q
        simp only [Bool.and_eq_true] at h
        obtain ⟨⟨⟨h1, h2⟩, h3⟩, h4⟩ := h
        obtain ⟨us, r, rd⟩ := datsB_ok xs its.toList h4
        exact ⟨.ref a, rfl, fun H => ⟨a, us, rfl, .inr ⟨_, its, n, q, congrArg Value.type (of_decide_eq_true h1), rfl, of_decide_eq_true h2, r⟩, of_decide_eq_true h3, rd H⟩⟩
      · cases h
    | _ => cases h
  | .lst xs, v, h => by cases h
theorem datsB_ok {K : PySem.W.Frag} : ∀ (xs : List D) (vs : List Value), datsB K xs vs = true → ∃ us, Vals us vs ∧ ∀ H, RDs K H xs us
  | [], vs, h => by
    cases vs with
    | nil => exact ⟨[], .nil, fun _ => rfl⟩
    | cons _ _ => cases h
  | x :: xs, vs, h => by
    cases vs with
    | nil => cases h
    | cons v vs =>
      have h : (datB K x v && datsB K xs vs) = true := h
      rw [Bool.and_eq_true] at h
      obtain ⟨u, r, rd⟩ := datB_ok x v h.1
      obtain ⟨us, rs, rds⟩ := datsB_ok xs vs h.2
      exact ⟨u :: us, .cons r rs, fun H => ⟨u, us, rfl, rd H, rds H⟩⟩
end
/-- a name of the module and its value: data, or a def -/
def conOk (ds : List Df) (K : PySem.W.Frag) (p : Str × Vl) : Bool := !(p.1 == ("__debug__" : Str)) && (match p.2 with
  | .d x => (match PySem.W.nsIn K mainGlobals p.1 with
    | some (some v) => datB K x v
    | _ => false)
  | .fn g => (match ds[g]? with
    | some d => decide (d.name = p.1)
    | none => false)
  | _ => false)

/-! ### the law at hand -/
def Df.D (d : Df) : He.DefD := ⟨(d.name, none), d.name, d.name, d.params, d.body, d.scope, [], []⟩
def faOf (ds : List Df) : List He.Fa := (ds.map fun d => He.Fa.glo d.name) ++ bnames.map He.Fa.free
def tfOf (ds : List Df) : List He.Defn := (ds.filter (·.lmd)).map fun d => (d.name, none)
def exOf (ds : List Df) (cs : List (Str × Vl)) (K : PySem.W.Frag) : Bool := cs.all (conOk ds K) && decide ((tfOf ds).map fun p => (He.cT K p).2).Nodup
def tabOf (ds : List Df) (lms : List Lm) (cs : List (Str × Vl)) : Tab := ⟨ds.map (·.own), lms.map (·.own), cs.map (·.2)⟩
def nm0 (ds : List Df) (cs : List (Str × Vl)) : Nm := ⟨ds.map (·.name), cs.map (·.1), none, fun _ _ _ _ _ => false⟩
def nmOf (ds : List Df) (lms : List Lm) (cs : List (Str × Vl)) : Nm := { nm0 ds cs with lamB := lamsB (nm0 ds cs) lms }
abbrev lamQ (x : Str) : Str := x ++ ".<locals>." ++ "<lambda>"
def tabsOf (ds : List Df) (K : PySem.W.Frag) : List (Addr × Str) := (tfOf ds).map fun p => ((He.cT K p).2, lamQ p.1)
def mkLw (P : Program) (w : World) (K : PySem.W.Frag) (mg : Str → Option Value) (base : Heap) (ds : List Df) (lms : List Lm) (cs : List (Str × Vl)) : Lw :=
  ⟨P, w, K, mg, base, tabOf ds lms cs, fun g => He.ga K ((ds.map (·.name)).getD g ⟨#[]⟩), fun _ => 0, fun l caps ps N params body scope => ∃ lm, lms[l]? = some lm ∧ lamChk (nmOf ds lms cs).off lm caps params body scope = true ∧ ps = lm.ps ∧ N = lm.caps ++ lm.ps, tabsOf ds K⟩
theorem nodup_map {α β : Type} {f : α → β} : ∀ {l : List α}, (l.map f).Nodup → ∀ {a b : α}, a ∈ l → b ∈ l → f a = f b → a = b
  | [], _, _, _, h, _, _ => by cases h
  | x :: l, nd, a, b, ha, hb, e => by
    rw [List.map_cons, List.nodup_cons] at nd
    rcases List.mem_cons.mp ha with h1 | h1 <;> rcases List.mem_cons.mp hb with h2 | h2
    · rw [h1, h2]
    · exact absurd (List.mem_map.mpr ⟨b, h2, by rw [← e, h1]⟩) nd.1
    · exact absurd (List.mem_map.mpr ⟨a, h1, by rw [e, h2]⟩) nd.1
    · exact nodup_map nd.2 h1 h2 e
section
variable {P : Program} {w : World} {K : PySem.W.Frag} {mg : Str → Option Value} {base : Heap} {ds : List Df} {lms : List Lm} {cs : List (Str × Vl)}
theorem says_def {fa : List He.Fa} {fn : List He.DefD} (c : He.SaysD fa fn K) {d : He.DefD} (h : d ∈ fn) : ∃ fd, FunD K d.name d.qual d.params d.body d.scope (d.dvs K) (d.kws K) (He.fAd K d.at_) fd := by
  obtain ⟨i, hi⟩ := List.getElem?_of_mem h
  exact c.def_ i hi
theorem says_fact {fa : List He.Fa} {fn : List He.DefD} (c : He.SaysD fa fn K) {f : He.Fa} (h : f ∈ fa) : f.ok K = true := by
  obtain ⟨i, hi⟩ := List.getElem?_of_mem h
  exact c.fact i hi
theorem ga_of {g : Nat} {d : Df} (q : ds[g]? = some d) : (ds.map (·.name)).getD g ⟨#[]⟩ = d.name := by
  rw [List.getD_eq_getElem?_getD, List.getElem?_map, q]
  rfl
theorem glo_of {h : Heap} (c : He.SaysD (faOf ds) (ds.map Df.D) K) (X : K.In h) (G : h.Ns mainGlobals mg) {d : Df} (hm : d ∈ ds) : mg d.name = some (.ref (He.ga K d.name)) :=
  He.glo_ok X G (says_fact c (List.mem_append_left _ (List.mem_map.mpr ⟨d, hm, rfl⟩)) : (He.Fa.glo d.name).ok K = true)
theorem defs_of {h : Heap} (c : He.SaysD (faOf ds) (ds.map Df.D) K) (ex : exOf ds cs K = true) (X : K.In h) (G : h.Ns mainGlobals mg) (ok : ∀ d ∈ ds, DfOk (nmOf ds lms cs) d) (TB : ∀ p ∈ tfOf ds, LamX.TabB base mg (He.cT K p).1 (He.cT K p).2) :
    Defs (mkLw P w K mg base ds lms cs) (nmOf ds lms cs) ds lms where
  ok := fun g x hx => by
    have hx : (ds.map (·.name))[g]? = some x := hx
    rw [List.getElem?_map] at hx
    cases q : ds[g]? with
    | none => rw [q] at hx; cases hx
    | some d =>
      rw [q] at hx
      cases hx
      have hm := List.mem_of_getElem? q
      obtain ⟨fd, F⟩ := says_def c (List.mem_map.mpr ⟨d, hm, rfl⟩ : d.D ∈ ds.map Df.D)
      have hg := glo_of c X G hm
      have en := ga_of q
      refine ⟨d, rfl, rfl, ?_, ok d hm, ⟨fd, ?_⟩, ?_, fun hl oc od dV kV doc pm an cdv ct osl lk hcd => ?_⟩
      · show (ds.map (·.own))[g]? = _
        rw [List.getElem?_map, q]
        rfl
      · show FunD K d.name d.name d.params d.body d.scope [] [] (He.ga K ((ds.map (·.name)).getD g ⟨#[]⟩)) fd
        rw [en]
        exact F
      · show mg d.name = some (.ref (He.ga K ((ds.map (·.name)).getD g ⟨#[]⟩)))
        rw [en]
        exact hg
      · have lk : K.lookup (He.ga K ((ds.map (·.name)).getD g ⟨#[]⟩)) = some ⟨oc, od, .func (PySem.W.fnOf d.name d.name d.params d.body d.scope dV kV doc pm an cdv ct), osl⟩ := lk
        rw [en] at lk
        obtain ⟨cc, rfl⟩ := He.codeIn_ref hcd
        have hp : ((d.name, none) : He.Defn) ∈ tfOf ds := List.mem_map.mpr ⟨d, List.mem_filter.mpr ⟨hm, hl⟩, rfl⟩
        have ec : (He.cT K (d.name, none)).1 = cc := He.codeOf_eq (p := (d.name, none)) lk rfl
        refine ⟨cc, (He.cT K (d.name, none)).2, rfl, ?_, List.mem_map.mpr ⟨_, hp, rfl⟩, fun p hpm e => ?_⟩
        · have t := TB _ hp
          rw [ec] at t
          exact t
        · obtain ⟨p', hp', rfl⟩ := List.mem_map.mp hpm
          have nd : ((tfOf ds).map fun p => (He.cT K p).2).Nodup := of_decide_eq_true (Bool.and_eq_true_iff.mp ex).2
          have := nodup_map nd hp' hp e
          subst this
          rfl
  all := fun g hg => by
    have hg : g < (ds.map (·.own)).length := hg
    rw [List.length_map] at hg
    exact ⟨ds[g].name, by show (ds.map (·.name))[g]? = _; rw [List.getElem?_map, List.getElem?_eq_getElem hg]; rfl⟩
  con := fun i v x h1 h2 => by
    have h1 : (cs.map (·.2))[i]? = some v := h1
    have h2 : (cs.map (·.1))[i]? = some x := h2
    rw [List.getElem?_map] at h1 h2
    cases q : cs[i]? with
    | none => rw [q] at h1; cases h1
    | some p =>
      rw [q] at h1 h2
      cases h1
      cases h2
      have z := List.all_eq_true.mp (Bool.and_eq_true_iff.mp ex).1 p (List.mem_of_getElem? q)
      unfold conOk at z
      rw [Bool.and_eq_true] at z
      refine ⟨not_t z.1, ?_⟩
      have z := z.2
      show ∃ u val, mg p.1 = some val ∧ RelV u val ∧ ∀ H μ, RV (mkLw P w K mg base ds lms cs) H μ p.2 u
      split at z
      · rename_i x e
        rw [e]
        split at z
        · rename_i val hv
          obtain ⟨u, r, rd⟩ := datB_ok _ _ z
          exact ⟨u, val, PySem.W.mg_of X G hv, r, fun H μ => rd H⟩
        · cases z
      · rename_i g e
        rw [e]
        split at z
        · rename_i d hd
          have en := of_decide_eq_true z
          have hg := glo_of c X G (List.mem_of_getElem? hd)
          rw [← en]
          refine ⟨.ref (He.ga K d.name), _, hg, rfl, fun H μ => ⟨?_, ?_⟩⟩
          · show g < (ds.map (·.own)).length
            rw [List.length_map]
            exact (List.getElem?_eq_some_iff.mp hd).1
          · show V.ref _ = V.ref (He.ga K ((ds.map (·.name)).getD g ⟨#[]⟩))
            rw [ga_of hd]
        · cases z
      · cases z
  blt := fun n hn => He.free_ok X G (says_fact c (List.mem_append_right _ (List.mem_map.mpr ⟨n, hn, rfl⟩)) : (He.Fa.free n).ok K = true)
  lmB := rfl
  lmT := fun l lm h => by
    show (lms.map (·.own))[l]? = _
    rw [List.getElem?_map, h]
    rfl
  lmO := fun l caps ps N params body scope => Iff.rfl
end
section
variable {L : Lw} {M : Nm} {ds : List Df} {lms : List Lm}
theorem law_fn (D : Defs L M ds lms) {n g : Nat} {d : Df} (hx : M.fns[g]? = some d.name) (hd : ds[g]? = some d) : ∃ fd, FunD L.K d.name d.name d.params d.body d.scope [] [] (L.fa g) fd ∧ FnOk L.P L.w L.K L.mg L.base (CX L.P L.w) (n + 1) (L.fa g) fd d.ps (spLk (spF L (L.T.cx (n + 1)) g)) := by
  obtain ⟨d', hd', _, hf, hk, ⟨fd, F⟩, hm, hmk⟩ := D.ok g _ hx
  rw [hd] at hd'
  cases hd'
  obtain ⟨S, hnb, hdb, hnp, hnn, hchk⟩ := dfB_all hk.chk
  refine ⟨fd, F, ?_⟩
  obtain ⟨oc, od, dV, kV, doc, pm, an, cdv, ct, osl, rfl, lk, hcd, _, _⟩ := F.ex
  refine fn_of lk hcd S (fun vs H Q E h => ?_) (fun A outer s H vs Q E hr h => ⟨_, PSs_lk0 (body_ps hk (fns_ok D n) _ rfl hr fun e => hmk e _ _ _ _ _ _ _ _ _ _ lk hcd), ?_⟩)
  · rcases h with ⟨us, μ, st, _, r, h⟩ | ⟨p, u, _, _, h⟩
    · rw [r.len, call_len hf h, hnp]
    · obtain ⟨us, μ, st, _, r, h⟩ := h ⟨.none, none, .plain, #[]⟩
      rw [r.len, call_len hf h, hnp]
  · rcases h with h | ⟨p, u, h1, h2, h⟩
    · exact .inl (body_go hk hf h)
    · exact .inr ⟨p, u, h1, h2, fun od => body_go hk hf (h od)⟩
end
theorem ints_rds {K : PySem.W.Frag} {H : Hp} : ∀ ns : List Int, RDs K H (ns.map D.int) (ns.map V.int)
  | [] => rfl
  | n :: ns => ⟨.int n, ns.map V.int, rfl, rfl, ints_rds ns⟩
/-- the law's end: what is left is what the own trees compute -/
theorem law_at {l : PySem.W.OpenLaw} {w : World} {K : PySem.W.Frag} {mg : Str → Option Value} {h : Heap} {ds : List Df} {lms : List Lm} {cs : List (Str × Vl)} {g n most : Nat} {d : Df} {x : Str} {fa : Addr} (X : K.In h) (G : h.Ns mainGlobals mg) (c : He.SaysX (faOf ds) (ds.map Df.D) [] (tfOf ds) (exOf ds cs) w h K)
    (ok : ∀ d ∈ ds, DfOk (nmOf ds lms cs) d) (hd : ds[g]? = some d) (hps : d.ps = [x]) (hfa : mg d.name = some (.ref fa)) (hm : most ≤ line)
    (data : ∀ ns : List Int, ns.length ≤ most → (∀ z ∈ ns, Builtin.Int.intBits z ≤ 1048576) → ∃ st, ((tabOf ds lms cs).cx (n + 1)).call g [.d (.lst (ns.map D.int))] [] = .ok (.d (.bl true)) st) :
    LamX.LawAtS l w K (CX l.prog w) (n + 1) most x mg fa h := by
  have hx : (nmOf ds lms cs).fns[g]? = some d.name := by
    show (ds.map (·.name))[g]? = _
    rw [List.getElem?_map, hd]
    rfl
  have main : ∀ base : Heap, (∀ p ∈ tfOf ds, LamX.TabB base mg (He.cT K p).1 (He.cT K p).2) → _ := fun base TB => law_fn (defs_of (P := l.prog) (w := w) (base := base) c.t.d c.more X G ok TB) (n := n) hx hd
  have hga : fa = He.ga K ((ds.map (·.name)).getD g ⟨#[]⟩) := by
    have hg := glo_of c.t.d X G (List.mem_of_getElem? hd)
    rw [hfa] at hg
    cases hg
    rw [ga_of hd]
  subst hga
  obtain ⟨fd, F⟩ := says_def c.t.d (List.mem_map.mpr ⟨d, List.mem_of_getElem? hd, rfl⟩ : d.D ∈ ds.map Df.D)
  have F : FunD K d.name d.name d.params d.body d.scope [] [] (He.ga K d.name) fd := F
  refine ⟨fd, (tfOf ds).map (He.cT K), fun vs H Q E => ∀ base, (∀ p ∈ tfOf ds, LamX.TabB base mg (He.cT K p).1 (He.cT K p).2) → spLk (spF (mkLw l.prog w K mg base ds lms cs) ((tabOf ds lms cs).cx (n + 1)) g) vs H Q E, fun p hp => ?_, fun p hp => ?_, fun p hp => ?_, fun s u => ?_, fun H a ns hl hb ht hS base _ => ?_, fun base hK hG TB => ?_⟩
  · obtain ⟨q, hq, rfl⟩ := List.mem_map.mp hp
    exact c.empty q hq
  · obtain ⟨q, hq, rfl⟩ := List.mem_map.mp hp
    exact c.out q hq
  · obtain ⟨q, hq, rfl⟩ := List.mem_map.mp hp
    exact PySem.W.codeHd_of_K X (c.hd q hq)
  · have b := F.bindsA (ps := d.ps) (fun kV doc pm an cdv ct us hu => (ok d (List.mem_of_getElem? hd)).bind kV doc pm an cdv ct us hu) s [u] (by rw [hps]; rfl)
    rw [hps] at b
    exact b
  · obtain ⟨st, hst⟩ := data ns hl hb
    have tab : ∀ {H : Hp}, (∀ p ∈ (tfOf ds).map (He.cT K), H p.2 = some (.tbl #[])) → ∀ q ∈ tabsOf ds K, TabF H q := fun {H} ht q hq => by
      obtain ⟨p, hp, rfl⟩ := List.mem_map.mp hq
      exact ⟨#[], ht _ (List.mem_map.mpr ⟨p, hp, rfl⟩), True.intro, fun pos cv hc => by
        have z : codeAmong pos [] = some cv := hc
        simp [codeAmong] at z⟩
    have fin : ∀ {H : Hp}, (∀ p ∈ (tfOf ds).map (He.cT K), H p.2 = some (.tbl #[])) → FzL K H a (ns.map V.int) → spF (mkLw l.prog w K mg base ds lms cs) ((tabOf ds lms cs).cx (n + 1)) g [.ref a] H (fun v _ => v = .bl true) fun _ _ _ => False := fun {H} ht hF => by
      refine ⟨[.d (.lst (ns.map D.int))], [], [], ⟨rfl, fun i j a h => by simp at h, fun r c h => by simp at h, fun r a h => by simp at h, tab ht⟩, ⟨.ref a, [], rfl, ⟨a, ns.map V.int, rfl, hF, ?_, ints_rds ns⟩, rfl⟩, ?_⟩
      · rw [List.length_map]
        exact Nat.le_trans hl hm
      · rw [hst]
        exact fun H' μ' _ _ u ru => ru
    rcases hS with (hS | ⟨o, hS⟩) | hS
    · refine .inr ⟨a, _, hS, trivial, fun od => fin (fun p hp => ?_) (.inl ⟨od, upd_same⟩)⟩
      have q := ht p hp
      rw [upd_ne]
      · exact q
      · intro e
        rw [e, hS] at q
        cases q
    · exact .inl (fin ht (.inl ⟨o, hS⟩))
    · exact .inl (fin ht (.inr hS))
  · have TB' : ∀ p ∈ tfOf ds, LamX.TabB base mg (He.cT K p).1 (He.cT K p).2 := fun p hp => TB _ (List.mem_map.mpr ⟨p, hp, rfl⟩)
    obtain ⟨fd', F', ok'⟩ := main base TB'
    obtain ⟨_, _, _, _, _, _, _, _, _, _, e1, l1, _⟩ := F.ex
    obtain ⟨_, _, _, _, _, _, _, _, _, _, e2, l2, _⟩ := F'.ex
    have e : fd' = fd := by
      have l2 : K.lookup (He.ga K ((ds.map (·.name)).getD g ⟨#[]⟩)) = _ := l2
      rw [ga_of hd] at l2
      rw [l1] at l2
      injection l2 with l2
      injection l2 with _ _ l2 _
      injection l2 with l2
      exact l2.symm
    rw [← e, ← hps]
    exact ok'.imp fun vs H Q E q => q base TB'
end EvS

/-! the laws' own defs: drawn numbers -/
namespace EvL
open Ev
/-- a source stands at r -/
def Src (st : Sto) (r : Nat) : Prop := ∃ a b : Int, st[r]? = some (.lst [.int a, .int b])
theorem Src.lt {st : Sto} {r : Nat} (h : Src st r) : r < st.length := by
  obtain ⟨a, b, h⟩ := h
  exact (List.getElem?_eq_some_iff.mp h).1
theorem src_set {st : Sto} {r : Nat} {a b : Int} (h : r < st.length) : Src (st.set r (.lst [.int a, .int b])) r := ⟨a, b, List.getElem?_set_self h⟩
theorem src_new {st : Sto} {a b : Int} : Src (st ++ [.lst [.int a, .int b]]) st.length := ⟨a, b, by simp⟩
theorem fmod_lt (a : Int) {m : Int} (h : 0 < m) : 0 ≤ Int.fmod a m ∧ Int.fmod a m < m := ⟨Int.fmod_nonneg_of_pos a h, Int.fmod_lt_of_pos a h⟩
def drawS : Ss := (.cons (.ite (.cmp .gt (.idx (.var 0) (.cst (.int 0))) (.cst (.int 0))) (.cons (.set 2 (.bin .mod (.blt .int (.cons (.idx (.var 0) (.cst (.int 0))) .nil)) (.var 1))) (.cons (.idx (.var 0) (.cst (.int 0)) (.bin .fdiv (.idx (.var 0) (.cst (.int 0))) (.var 1))) (.cons (.ret (.var 2)) .nil))) .nil) (.cons (.idx (.var 0) (.cst (.int 1)) (.bin .mod (.blt .int (.cons (.bin .mul (.idx (.var 0) (.cst (.int 1))) (.cst (.int 48271))) .nil)) (.cst (.int 2147483647)))) (.cons (.ret (.bin .mod (.blt .int (.cons (.bin .fdiv (.bin .mod (.blt .int (.cons (.bin .mul (.idx (.var 0) (.cst (.int 1))) (.idx (.var 0) (.cst (.int 1)))) .nil)) (.cst (.int 2147483629))) (.cst (.int 64))) .nil)) (.var 1))) .nil)))
def sourceS : Ss := (.cons (.set 2 (.cst (.int 0))) (.cons (.ite (.cmp .lt (.var 1) (.blt .len (.cons (.var 0) .nil))) (.cons (.set 2 (.blt .abs (.cons (.blt .int (.cons (.idx (.var 0) (.var 1)) .nil)) .nil))) .nil) .nil) (.cons (.ite (.cmp .lt (.var 2) (.bin .pow (.cst (.int 10)) (.cst (.int 18)))) (.cons (.ret (.new (.cons (.cst (.int 0)) (.cons (.bin .add (.cst (.int 1)) (.bin .mod (.blt .int (.cons (.bin .add (.bin .mul (.var 2) (.cst (.int 7919))) (.bin .mul (.cst (.int 104729)) (.var 1))) .nil)) (.cst (.int 2147483646)))) .nil)))) .nil) .nil) (.cons (.ret (.new (.cons (.var 2) (.cons (.bin .add (.cst (.int 1)) (.bin .mod (.blt .int (.cons (.bin .add (.var 2) (.var 1)) .nil)) (.cst (.int 2147483646)))) .nil)))) .nil))))
theorem draw_ok {T : Tab} {g : Nat} (hf : T.fns[g]? = some ⟨2, 3, false, drawS⟩) (n : Nat) {r : Nat} {st : Sto} {m : Int} (h : Src st r) (hm : 0 < m) (hm2 : m < 1073741824) : ∃ k st', (T.cx (n + 1)).call g [.ref r, .d (.int m)] st = .ok (.d (.int k)) st' ∧ 0 ≤ k ∧ k < m ∧ Src st' r := by
  have hr := h.lt
  obtain ⟨a, b, h⟩ := h
  rw [call_open hf rfl rfl]
  have h1 : (m == 0) = false := by rw [beq_eq_false_iff_ne]; omega
  have hmn : m ≠ 0 := by omega
  have hma : m.natAbs < 1073741824 := by omega
  have hget : ∀ x, (st.set r x)[r]? = some x := fun x => List.getElem?_set_self hr
  by_cases ha : 0 < a
  · refine ⟨Int.fmod a m, st.set r (.lst [.int (Int.fdiv a m), .int b]), ?_, (fmod_lt a hm).1, (fmod_lt a hm).2, src_set hr⟩
    simp [drawS, begin_, En.get, En.put, idxV, h, idxD, ixN, cmpV, copD, ha, bltD, blt1, bInt, opD, hmn, hma, setV]
  · have e : ∀ x : Int, 0 ≤ Int.fmod x 2147483647 ∧ Int.fmod x 2147483647 < 2147483647 := fun x => fmod_lt x (by decide)
    obtain ⟨b', hb'⟩ : ∃ b', b' = Int.fmod (b * 48271) 2147483647 := ⟨_, rfl⟩
    have hb2 := e (b * 48271)
    rw [← hb'] at hb2
    have hb3 : b'.natAbs < 18446744073709551616 := by omega
    refine ⟨Int.fmod (Int.fdiv (Int.fmod (b' * b') 2147483629) 64) m, st.set r (.lst [.int a, .int b']), ?_, (fmod_lt _ hm).1, (fmod_lt _ hm).2, src_set hr⟩
    simp [drawS, begin_, En.get, En.put, idxV, h, idxD, ixN, cmpV, copD, ha, bltD, blt1, bInt, opD, hmn, hma, setV, hget, ← hb', hb3]
theorem source_ok {T : Tab} {g : Nat} (hf : T.fns[g]? = some ⟨2, 3, false, sourceS⟩) (n : Nat) (ns : List Int) (k : Nat) (st : Sto) (hk : k ≤ 1000) : ∃ a b : Int, (T.cx (n + 1)).call g [.d (.lst (ns.map D.int)), .d (.int k)] st = .ok (.ref st.length) (st ++ [.lst [.int a, .int b]]) := by
  rw [call_open hf rfl rfl]
  have fin : ∀ (cell : Int) (x : Option Vl), ∃ a b : Int, (evSs (T.cx n) (.cons (.ite (.cmp .lt (.var 2) (.bin .pow (.cst (.int 10)) (.cst (.int 18)))) (.cons (.ret (.new (.cons (.cst (.int 0)) (.cons (.bin .add (.cst (.int 1)) (.bin .mod (.blt .int (.cons (.bin .add (.bin .mul (.var 2) (.cst (.int 7919))) (.bin .mul (.cst (.int 104729)) (.var 1))) .nil)) (.cst (.int 2147483646)))) .nil)))) .nil) .nil) (.cons (.ret (.new (.cons (.var 2) (.cons (.bin .add (.cst (.int 1)) (.bin .mod (.blt .int (.cons (.bin .add (.var 2) (.var 1)) .nil)) (.cst (.int 2147483646)))) .nil)))) .nil))
      [some (.d (.lst (ns.map D.int))), some (.d (.int k)), some (.d (.int cell))] st).res = .ok (.ref st.length) (st ++ [.lst [.int a, .int b]]) := fun cell x => by
    by_cases h : cell < 10 ^ 18
    · refine ⟨0, 1 + Int.fmod (cell * 7919 + 104729 * (k : Int)) 2147483646, ?_⟩
      have h' : cell < 1000000000000000000 := h
      simp [En.get, cmpV, copD, opD, bltD, blt1, bInt, h', kindM]
    · refine ⟨cell, 1 + Int.fmod (cell + (k : Int)) 2147483646, ?_⟩
      have h' : ¬ cell < 1000000000000000000 := h
      simp [En.get, cmpV, copD, opD, bltD, blt1, bInt, h', kindM]
  by_cases hk2 : k < ns.length
  · have hx : (ns.map D.int)[k]? = some (.int ns[k]) := by simp [hk2]
    have hix : ixN (ns.map D.int).length (k : Int) = some k := by
      unfold ixN
      rw [if_pos (by omega), if_pos (by simp; omega)]
      simp
    have hlt : (k : Int) < (ns.length : Int) := by omega
    obtain ⟨a, b, h⟩ := fin (if ns[k] < 0 then -ns[k] else ns[k]) none
    refine ⟨a, b, ?_⟩
    rw [← h]
    have hix' : ixN ns.length (k : Int) = some k := by simpa using hix
    simp [sourceS, begin_, En.get, En.put, bltD, blt1, bLen, cmpV, copD, hlt, idxV, idxD, hix', hk2, bInt, bAbs]
  · have hlt : ¬ (k : Int) < (ns.length : Int) := by omega
    obtain ⟨a, b, h⟩ := fin 0 none
    refine ⟨a, b, ?_⟩
    rw [← h]
    simp [sourceS, begin_, En.get, En.put, bltD, blt1, bLen, cmpV, copD, hlt]
/-- a call of data alone does not look at the store -/
theorem alone_st {T : Tab} {n g : Nat} {f : Fd} {vs : List Vl} {x : D} (hf : T.fns[g]? = some f) (ha : f.alone = true) (h : (T.cx (n + 1)).call g vs [] = .ok (.d x) []) (st : Sto) : (T.cx (n + 1)).call g vs st = .ok (.d x) st := by
  have e : ∀ st, (T.cx (n + 1)).call g vs st = (if vs.length = f.np then (if Vl.pures vs then (evSs (T.cx n) f.body (begin_ f.nn vs) []).res.back st else R.no) else R.no) := fun st => by
    show (match T.fns[g]? with
      | none => R.no
      | some f => if vs.length = f.np then
          (if f.alone then (if Vl.pures vs then (evSs (T.cx n) f.body (begin_ f.nn vs) []).res.back st else .no)
          else (evSs (T.cx n) f.body (begin_ f.nn vs) st).res)
          else .no) = _
    rw [hf]
    simp only [ha, if_true]
  rw [e] at h ⊢
  by_cases h1 : vs.length = f.np
  · rw [if_pos h1] at h ⊢
    by_cases h2 : Vl.pures vs = true
    · rw [if_pos h2] at h ⊢
      cases q : (evSs (T.cx n) f.body (begin_ f.nn vs) []).res with
      | ok v s =>
        rw [q] at h
        cases v with
        | d y =>
          have h : R.ok (Vl.d y) ([] : Sto) = R.ok (Vl.d x) [] := h
          cases h
          rfl
        | _ => cases h
      | ex c fs s => rw [q] at h; cases h
      | no => rw [q] at h; cases h
    · rw [if_neg h2] at h; cases h
  · rw [if_neg h1] at h; cases h
/-- a list of truths, all of them true -/
def trueL : List D → Bool
  | [] => true
  | .bl true :: xs => trueL xs
  | _ => false
def isT (r : R Vl) : Bool := match r with
  | .ok (.d (.lst xs)) [] => trueL xs && decide (xs.length ≤ 1000)
  | _ => false
theorem isT_ok {r : R Vl} (h : isT r = true) : ∃ xs, r = .ok (.d (.lst xs)) [] ∧ trueL xs = true ∧ xs.length ≤ 1000 := by
  unfold isT at h
  split at h
  · rename_i xs
    rw [Bool.and_eq_true] at h
    exact ⟨xs, rfl, h.1, of_decide_eq_true h.2⟩
  · cases h
theorem trueL_in : ∀ {xs : List D}, trueL xs = true → inD (.bl false) xs = false
  | [], _ => rfl
  | .bl true :: xs, h => by
    show (D.eqv (.bl true) (.bl false) || inD (.bl false) xs) = false
    rw [trueL_in (xs := xs) h]
    rfl
theorem trueL_app : ∀ {xs ys : List D}, trueL xs = true → trueL ys = true → trueL (xs ++ ys) = true
  | [], _, _, h => h
  | .bl true :: xs, ys, h, h2 => trueL_app (xs := xs) h h2
end EvL

/-! ### the own trees of the defs -/
namespace Law
open Ev
def b_is_number : Ss := (.cons (.ret (.and (.blt (.isi .int) (.cons (.var 0) .nil)) (.cons (.not (.blt (.isi .bool) (.cons (.var 0) .nil))) (.cons (.chain .le .le (.var 1) (.var 0) (.var 2)) .nil)))) .nil)
def b_is_tuple : Ss := (.cons (.ret (.and (.blt (.isi .tuple) (.cons (.var 0) .nil)) (.cons (.chain .le .le (.var 1) (.blt .len (.cons (.var 0) .nil)) (.var 2)) .nil))) .nil)
def b_are_signs : Ss := (.cons (.ret (.and (.blt (.isi .str) (.cons (.var 0) .nil)) (.cons (.chain .le .le (.var 1) (.blt .len (.cons (.var 0) .nil)) (.var 2)) (.cons (.blt .all (.cons (.lc (.cmp .isin (.var 3) (.cst (.str [35, 126, 46]))) (.nm 3) (.val (.var 0)) .no [3]) .nil)) .nil)))) .nil)
def b_is_good_bridge : Ss := (.cons (.ite (.not (.call 1 (.cons (.var 0) (.cons (.cst (.int 3)) (.cons (.cst (.int 3)) .nil))))) (.cons (.ret (.cst (.bl false))) .nil) .nil) (.cons (.ret (.and (.call 2 (.cons (.idx (.var 0) (.cst (.int 0))) (.cons (.cst (.int 0)) (.cons (.cst (.int 5)) .nil)))) (.cons (.call 2 (.cons (.idx (.var 0) (.cst (.int 1))) (.cons (.cst (.int 1)) (.cons (.cst (.int 5)) .nil)))) (.cons (.call 2 (.cons (.idx (.var 0) (.cst (.int 2))) (.cons (.cst (.int 0)) (.cons (.cst (.int 5)) .nil)))) .nil)))) .nil))
def b_is_good_walker : Ss := (.cons (.ite (.or (.not (.call 1 (.cons (.var 0) (.cons (.cst (.int 2)) (.cons (.cst (.int 2)) .nil))))) (.cons (.not (.call 1 (.cons (.idx (.var 0) (.cst (.int 0))) (.cons (.cst (.int 1)) (.cons (.cst (.int 3)) .nil))))) (.cons (.not (.call 0 (.cons (.idx (.var 0) (.cst (.int 1))) (.cons (.cst (.int 1)) (.cons (.cst (.int 5)) .nil))))) .nil))) (.cons (.ret (.cst (.bl false))) .nil) .nil) (.cons (.ite (.not (.blt .all (.cons (.lc (.call 0 (.cons (.var 3) (.cons (.cst (.int 1)) (.cons (.cst (.int 4)) .nil)))) (.nm 3) (.val (.idx (.var 0) (.cst (.int 0)))) .no [3]) .nil))) (.cons (.ret (.cst (.bl false))) .nil) .nil) (.cons (.ret (.blt .all (.cons (.lc (.cmp .lt (.var 1) (.var 2)) (.tp (.cons (.nm 1) (.cons (.nm 2) .nil))) (.zip (.idx (.var 0) (.cst (.int 0))) (.slc (.idx (.var 0) (.cst (.int 0))) (.e (.cst (.int 1))) .no)) .no [1, 2]) .nil))) .nil)))
def b_need_bridge : Ss := (.cons (.ite (.not (.call 3 (.cons (.var 0) .nil))) (.cons .nev .nil) .nil) .nil)
def b_need_walker : Ss := (.cons (.ite (.not (.call 4 (.cons (.var 0) .nil))) (.cons .nev .nil) .nil) .nil)
def b_need_n : Ss := (.cons (.ite (.not (.call 0 (.cons (.var 0) (.cons (.cst (.int 0)) (.cons (.var 1) .nil))))) (.cons .nev .nil) .nil) .nil)
def b_need_both : Ss := (.cons (.exp (.call 5 (.cons (.var 0) .nil))) (.cons (.exp (.call 6 (.cons (.var 1) .nil))) .nil))
def b_need_all : Ss := (.cons (.exp (.call 8 (.cons (.var 0) (.cons (.var 1) .nil)))) (.cons (.exp (.call 7 (.cons (.var 2) (.cons (.var 3) .nil)))) .nil))
def b_round_about : Ss := (.cons (.ret (.tup (.cons (.rev (.idx (.var 0) (.cst (.int 2)))) (.cons (.rev (.idx (.var 0) (.cst (.int 1)))) (.cons (.rev (.idx (.var 0) (.cst (.int 0)))) .nil))))) .nil)
def b_turned : Ss := (.cons (.exp (.call 5 (.cons (.var 0) .nil))) (.cons (.ret (.call 10 (.cons (.var 0) .nil))) .nil))
def w_shortest_early_1 : E := (.and (.cmp .ne (.var 0) (.lst .nil)) (.cons (.cmp .eq (.idx (.var 0) (.neg (.cst (.int 1)))) (.call 13 (.cons (.idx (.var 1) (.neg (.cst (.int 1)))) (.cons (.var 2) .nil)))) .nil))
def l_shortest_early_1 : Ss := (.cons (.par2 0 1 (.slc (.var 0) .no (.e (.neg (.cst (.int 1))))) (.bin .add (.lst (.cons (.idx (.var 0) (.neg (.cst (.int 1)))) .nil)) (.slc (.var 1) .no (.e (.neg (.cst (.int 1))))))) .nil)
def b_shortest_early : Ss := (.cons (.whl w_shortest_early_1 l_shortest_early_1) (.cons (.ret (.tup (.cons (.blt .tuple (.cons (.var 0) .nil)) (.cons (.blt .tuple (.cons (.var 1) .nil)) .nil)))) .nil))
def b_lowered : Ss := (.cons (.ret (.ife (.or (.isN (.var 0)) (.cons (.cmp .eq (.var 1) (.cst (.int 0))) .nil)) (.var 0) (.bin .sub (.var 0) (.var 1)))) .nil)
def b_raised : Ss := (.cons (.ret (.ife (.or (.isN (.var 0)) (.cons (.cmp .eq (.var 1) (.cst (.int 0))) .nil)) (.var 0) (.bin .add (.var 0) (.var 1)))) .nil)
def b_part_of : Ss := (.cons (.set 3 (.lc (.bin .sub (.idx (.var 0) (.bin .add (.var 6) (.var 2))) (.idx (.var 0) (.var 6))) (.nm 6) (.rng1 (.bin .sub (.blt .len (.cons (.var 0) .nil)) (.var 2))) (.e (.call 16 (.cons (.var 0) (.cons (.var 6) (.cons (.var 2) .nil))))) [6])) (.cons (.set 4 (.ife (.cmp .ne (.var 3) (.lst .nil)) (.idx (.var 3) (.cst (.int 0))) (.bin .fdiv (.bin .mul (.var 1) (.var 2)) (.blt .len (.cons (.var 0) .nil))))) (.cons (.ite (.or (.cmp .ne (.bin .mod (.blt .len (.cons (.var 0) .nil)) (.var 2)) (.cst (.int 0))) (.cons (.cmp .ne (.bin .mul (.var 4) (.bin .fdiv (.blt .len (.cons (.var 0) .nil)) (.var 2))) (.var 1)) .nil)) (.cons (.ret (.cst .non)) .nil) .nil) (.cons (.set 5 (.lc (.cmp .eq (.idx (.var 0) (.bin .add (.var 6) (.var 2))) (.call 14 (.cons (.idx (.var 0) (.var 6)) (.cons (.var 4) .nil)))) (.nm 6) (.rng1 (.bin .sub (.blt .len (.cons (.var 0) .nil)) (.var 2))) .no [6])) (.cons (.ret (.ife (.blt .all (.cons (.var 5) .nil)) (.var 4) (.cst .non))) .nil)))))
def b_differs : Ss := (.cons (.ret (.and (.call 17 (.cons (.idx (.var 0) (.var 1)) .nil)) (.cons (.call 17 (.cons (.idx (.var 0) (.bin .add (.var 1) (.var 2))) .nil)) .nil))) .nil)
def b_is_count : Ss := (.cons (.ret (.and (.blt (.isi .int) (.cons (.var 0) .nil)) (.cons (.not (.blt (.isi .bool) (.cons (.var 0) .nil))) .nil))) .nil)
def i_rising_1 : It := (.rng2 (.cst (.int 1)) (.bin .add (.blt .len (.cons (.var 1) .nil)) (.cst (.int 1))))
def l_rising_1 : Ss := (.cons (.set 4 (.call 15 (.cons (.var 1) (.cons (.var 2) (.cons (.var 3) .nil))))) (.cons (.ite (.notN (.var 4)) (.cons (.unp (.cons (.nm 5) (.cons (.nm 6) .nil)) (.call 12 (.cons (.var 0) (.cons (.slc (.var 1) .no (.e (.var 3))) (.cons (.var 4) .nil))))) (.cons (.ret (.tup (.cons (.var 5) (.cons (.var 6) (.cons (.var 4) .nil))))) .nil)) .nil) .nil))
def b_rising : Ss := (.cons (.ite (.not (.blt .any (.cons (.lc (.call 17 (.cons (.var 7) .nil)) (.nm 7) (.val (.var 1)) .no [7]) .nil))) (.cons (.set 2 (.cst (.int 0))) .nil) .nil) (.cons (.for_ (.nm 3) i_rising_1 l_rising_1) (.cons (.ret (.tup (.cons (.blt .tuple (.cons (.var 0) .nil)) (.cons (.blt .tuple (.cons (.var 1) .nil)) (.cons (.var 2) .nil))))) .nil)))
def b_plain : Ss := (.cons (.ret (.slc (.call 18 (.cons (.var 0) (.cons (.var 1) (.cons (.cst (.int 0)) .nil)))) .no (.e (.cst (.int 2))))) .nil)
def w_come_round_1 : E := (.cmp .notin (.idx (.callv 2 (.cons (.var 5) .nil)) (.cst (.int 0))) (.var 4))
def l_come_round_1 : Ss := (.cons (.idx (.var 4) (.idx (.callv 2 (.cons (.var 5) .nil)) (.cst (.int 0))) (.blt .len (.cons (.var 3) .nil))) (.cons (.exp (.mth .append (.var 3) (.cons (.var 5) .nil))) (.cons (.set 5 (.callv 1 (.cons (.var 5) .nil))) .nil)))
def b_come_round : Ss := (.cons (.par3 3 4 5 (.new .nil) (.dic .nil .nil) (.var 0)) (.cons (.whl w_come_round_1 l_come_round_1) (.cons (.set 6 (.idx (.var 4) (.idx (.callv 2 (.cons (.var 5) .nil)) (.cst (.int 0))))) (.cons (.ret (.tup (.cons (.frz 3) (.cons (.var 6) (.cons (.bin .sub (.idx (.callv 2 (.cons (.var 5) .nil)) (.cst (.int 1))) (.idx (.callv 2 (.cons (.idx (.var 3) (.var 6)) .nil)) (.cst (.int 1)))) .nil))))) .nil))))
def b_told_by : Ss := (.cons (.unp (.cons (.nm 2) (.cons (.nm 3) (.cons (.nm 4) .nil))) (.var 0)) (.cons (.ite (.cmp .lt (.var 1) (.blt .len (.cons (.var 2) .nil))) (.cons (.ret (.idx (.var 2) (.var 1))) .nil) .nil) (.cons (.par2 5 6 (.bin .fdiv (.bin .sub (.var 1) (.blt .len (.cons (.var 2) .nil))) (.blt .len (.cons (.var 3) .nil))) (.bin .mod (.bin .sub (.var 1) (.blt .len (.cons (.var 2) .nil))) (.blt .len (.cons (.var 3) .nil)))) (.cons (.ret (.call 14 (.cons (.idx (.var 3) (.var 6)) (.cons (.bin .mul (.var 4) (.var 5)) .nil)))) .nil))))
def b_is_long : Ss := (.cons (.ret (.cmp .ge (.var 1) (.idx (.var 0) (.cst (.int 1))))) .nil)
def b_strides_from : Ss := (.cons (.ret (.lc (.var 2) (.nm 2) (.val (.idx (.var 0) (.cst (.int 0)))) (.e (.or (.not (.var 1)) (.cons (.not (.call 22 (.cons (.var 0) (.cons (.var 2) .nil)))) .nil))) [2])) .nil)
def b_landing : Ss := (.cons (.unp (.cons (.nm 2) (.cons (.nm 3) .nil)) (.var 1)) (.cons (.ret (.ife (.cmp .isin (.var 2) (.call 23 (.cons (.var 0) (.cons (.var 3) .nil)))) (.tup (.cons (.cst (.int 1)) (.cons (.call 22 (.cons (.var 0) (.cons (.var 2) .nil))) .nil))) (.cst .non))) .nil))
def b_waiting : Ss := (.cons (.ret (.ife (.cmp .lt (.idx (.var 0) (.cst (.int 0))) (.cst (.int 4))) (.tup (.cons (.bin .add (.idx (.var 0) (.cst (.int 0))) (.cst (.int 1))) (.cons (.idx (.var 0) (.cst (.int 1))) .nil))) (.cst .non))) .nil)
def b_reaches : Ss := (.cons (.ret (.blt .any (.cons (.lc (.cmp .ge (.var 2) (.idx (.var 1) (.cst (.int 0)))) (.nm 2) (.val (.call 23 (.cons (.var 0) (.cons (.idx (.var 1) (.cst (.int 1))) .nil)))) .no [2]) .nil))) .nil)
def b_spots_behind : Ss := (.cons (.set 3 (.lc (.call 25 (.cons (.var 4) .nil)) (.nm 4) (.val (.var 1)) .no [4])) (.cons (.ite (.cmp .ne (.var 2) (.cst (.str [46]))) (.cons (.set 3 (.bin .add (.var 3) (.lc (.call 24 (.cons (.var 0) (.cons (.var 4) .nil))) (.nm 4) (.val (.var 1)) .no [4]))) .nil) .nil) (.cons (.ret (.blt .tuple (.cons (.sset (.lc (.var 4) (.nm 4) (.val (.var 3)) (.e (.notN (.var 4))) [4])) .nil))) .nil)))
def i_spots_after_1 : It := (.val (.var 2))
def l_spots_after_1 : Ss := (.cons (.set 1 (.call 27 (.cons (.var 0) (.cons (.var 1) (.cons (.var 3) .nil))))) .nil)
def b_spots_after : Ss := (.cons (.for_ (.nm 3) i_spots_after_1 l_spots_after_1) (.cons (.ret (.var 1)) .nil))
def b_gets_over : Ss := (.cons (.ret (.blt .any (.cons (.lc (.call 26 (.cons (.var 0) (.cons (.var 2) .nil))) (.nm 2) (.val (.var 1)) .no [2]) .nil))) .nil)
def b_no_height : Ss := (.cons (.ret (.tup (.cons (.var 0) (.cons (.cst (.int 0)) .nil)))) .nil)
def b_truths_for : Ss := (.cons (.set 2 (.call 28 (.cons (.var 1) (.cons (.glo 0) (.cons (.idx (.var 0) (.cst (.int 0))) .nil))))) (.cons (.unp (.cons (.nm 3) (.cons (.nm 4) (.cons (.nm 5) .nil))) (.calll 20 (.cons (.var 2) (.cons (.lam 0 [1, 0]) (.cons (.glo 1) .nil))))) (.cons (.set 6 (.lc (.call 29 (.cons (.var 1) (.cons (.call 28 (.cons (.var 1) (.cons (.var 7) (.cons (.idx (.var 0) (.cst (.int 2))) .nil)))) .nil))) (.nm 7) (.val (.var 3)) .no [7])) (.cons (.ret (.call 19 (.cons (.slc (.var 6) .no (.e (.var 4))) (.cons (.slc (.var 6) (.e (.var 4)) .no) .nil)))) .nil))))
def b_crosses_so : Ss := (.cons (.unp (.cons (.nm 3) (.cons (.nm 4) .nil)) (.call 31 (.cons (.var 0) (.cons (.var 1) .nil)))) (.cons (.ret (.call 21 (.cons (.tup (.cons (.var 3) (.cons (.var 4) (.cons (.cst (.int 0)) .nil)))) (.cons (.var 2) .nil)))) .nil))
def b_crosses : Ss := (.cons (.exp (.call 9 (.cons (.var 0) (.cons (.var 1) (.cons (.var 2) (.cons (.bin .pow (.cst (.int 10)) (.cst (.int 30))) .nil)))))) (.cons (.ret (.call 32 (.cons (.var 0) (.cons (.var 1) (.cons (.var 2) .nil))))) .nil))
def b_cross_calendar : Ss := (.cons (.exp (.call 8 (.cons (.var 0) (.cons (.var 1) .nil)))) (.cons (.ret (.call 31 (.cons (.var 0) (.cons (.var 1) .nil)))) .nil))
def b_couples_of : Ss := (.cons (.unp (.cons (.nm 3) (.cons (.nm 4) .nil)) (.var 1)) (.cons (.set 5 (.tup (.cons (.call 25 (.cons (.var 3) .nil)) (.cons (.call 25 (.cons (.var 4) .nil)) .nil)))) (.cons (.set 6 (.lst (.cons (.var 5) .nil))) (.cons (.ite (.cmp .ne (.var 2) (.cst (.str [46]))) (.cons (.set 7 (.tup (.cons (.call 24 (.cons (.idx (.var 0) (.cst (.int 0))) (.cons (.var 3) .nil))) (.cons (.call 24 (.cons (.idx (.var 0) (.cst (.int 1))) (.cons (.var 4) .nil))) .nil)))) (.cons (.set 6 (.bin .add (.var 6) (.lst (.cons (.tup (.cons (.idx (.var 7) (.cst (.int 0))) (.cons (.idx (.var 5) (.cst (.int 1))) .nil))) (.cons (.tup (.cons (.idx (.var 5) (.cst (.int 0))) (.cons (.idx (.var 7) (.cst (.int 1))) .nil))) .nil))))) (.cons (.set 6 (.bin .add (.var 6) (.ife (.cmp .eq (.var 2) (.cst (.str [35]))) (.lst (.cons (.var 7) .nil)) (.lst .nil)))) .nil))) .nil) (.cons (.ret (.lc (.var 8) (.nm 8) (.val (.var 6)) (.e (.cmp .notin (.cst .non) (.var 8))) [8])) .nil)))))
def i_couples_after_1 : It := (.val (.var 1))
def l_couples_after_1 : Ss := (.cons (.set 4 (.bin .add (.var 4) (.call 35 (.cons (.var 0) (.cons (.var 5) (.cons (.var 3) .nil)))))) .nil)
def i_couples_after_2 : It := (.val (.var 2))
def l_couples_after_2 : Ss := (.cons (.set 4 (.lst .nil)) (.cons (.for_ (.nm 5) i_couples_after_1 l_couples_after_1) (.cons (.set 1 (.blt .tuple (.cons (.sset (.var 4)) .nil))) .nil)))
def b_couples_after : Ss := (.cons (.for_ (.nm 3) i_couples_after_2 l_couples_after_2) (.cons (.ret (.var 1)) .nil))
def b_both_over : Ss := (.cons (.ret (.blt .any (.cons (.lc (.and (.call 26 (.cons (.idx (.var 0) (.cst (.int 0))) (.cons (.var 2) .nil))) (.cons (.call 26 (.cons (.idx (.var 0) (.cst (.int 1))) (.cons (.var 3) .nil))) .nil)) (.tp (.cons (.nm 2) (.cons (.nm 3) .nil))) (.val (.var 1)) .no [2, 3]) .nil))) .nil)
def b_passes_for : Ss := (.cons (.set 2 (.call 36 (.cons (.var 1) (.cons (.glo 2) (.cons (.idx (.var 0) (.cst (.int 0))) .nil))))) (.cons (.unp (.cons (.nm 3) (.cons (.nm 4) (.cons (.nm 5) .nil))) (.calll 20 (.cons (.var 2) (.cons (.lam 1 [1, 0]) (.cons (.glo 1) .nil))))) (.cons (.set 6 (.lc (.call 37 (.cons (.var 1) (.cons (.call 36 (.cons (.var 1) (.cons (.var 7) (.cons (.idx (.var 0) (.cst (.int 2))) .nil)))) .nil))) (.nm 7) (.val (.var 3)) .no [7])) (.cons (.ret (.call 19 (.cons (.slc (.var 6) .no (.e (.var 4))) (.cons (.slc (.var 6) (.e (.var 4)) .no) .nil)))) .nil))))
def b_pass_calendar : Ss := (.cons (.exp (.call 8 (.cons (.var 0) (.cons (.var 1) .nil)))) (.cons (.exp (.call 6 (.cons (.var 2) .nil))) (.cons (.ret (.call 38 (.cons (.var 0) (.cons (.tup (.cons (.var 1) (.cons (.var 2) .nil))) .nil)))) .nil)))
def i_least_pairs_1 : It := (.val (.var 0))
def l_least_pairs_1 : Ss := (.cons (.ite (.and (.notN (.var 2)) (.cons (.or (.cmp .notin (.var 2) (.var 1)) (.cons (.cmp .lt (.var 3) (.idx (.var 1) (.var 2))) .nil)) .nil)) (.cons (.idx (.var 1) (.var 2) (.var 3)) .nil) .nil) .nil)
def b_least_pairs : Ss := (.cons (.set 1 (.dic .nil .nil)) (.cons (.for_ (.tp (.cons (.nm 2) (.cons (.nm 3) .nil))) i_least_pairs_1 l_least_pairs_1) (.cons (.ret (.blt .tuple (.cons (.blt .sorted (.cons (.lc (.tup (.cons (.var 2) (.cons (.idx (.var 1) (.var 2)) .nil))) (.nm 2) (.keys (.var 1)) .no [2]) .nil)) .nil))) .nil)))
def b_costs_behind : Ss := (.cons (.set 4 (.lc (.tup (.cons (.call 25 (.cons (.var 6) .nil)) (.cons (.var 7) .nil))) (.tp (.cons (.nm 6) (.cons (.nm 7) .nil))) (.val (.var 1)) .no [6, 7])) (.cons (.set 5 (.callv 3 (.cons (.var 2) .nil))) (.cons (.ite (.notN (.var 5)) (.cons (.set 4 (.bin .add (.var 4) (.lc (.tup (.cons (.call 24 (.cons (.var 0) (.cons (.var 6) .nil))) (.cons (.bin .add (.var 7) (.var 5)) .nil))) (.tp (.cons (.nm 6) (.cons (.nm 7) .nil))) (.val (.var 1)) .no [6, 7]))) .nil) .nil) (.cons (.ret (.call 40 (.cons (.var 4) .nil))) .nil))))
def i_costs_after_1 : It := (.val (.var 2))
def l_costs_after_1 : Ss := (.cons (.set 1 (.call 41 (.cons (.var 0) (.cons (.var 1) (.cons (.var 4) (.cons (.var 3) .nil)))))) .nil)
def b_costs_after : Ss := (.cons (.for_ (.nm 4) i_costs_after_1 l_costs_after_1) (.cons (.ret (.var 1)) .nil))
def b_least_over : Ss := (.cons (.set 2 (.lc (.blt .int (.cons (.var 4) .nil)) (.tp (.cons (.nm 3) (.cons (.nm 4) .nil))) (.val (.var 1)) (.e (.call 26 (.cons (.var 0) (.cons (.var 3) .nil)))) [3, 4])) (.cons (.ret (.ife (.cmp .ne (.var 2) (.lst .nil)) (.blt .min (.cons (.var 2) .nil)) (.cst .non))) .nil))
def b_shape_of : Ss := (.cons (.set 1 (.ife (.cmp .eq (.var 0) (.tup .nil)) (.blt .min (.cons (.bin .add (.lst (.cons (.cst (.int 0)) .nil)) (.lc (.blt .int (.cons (.var 3) .nil)) (.tp (.cons (.nm 2) (.cons (.nm 3) .nil))) (.val (.var 0)) .no [2, 3])) .nil)) (.blt .min (.cons (.lc (.blt .int (.cons (.var 3) .nil)) (.tp (.cons (.nm 2) (.cons (.nm 3) .nil))) (.val (.var 0)) .no [2, 3]) .nil)))) (.cons (.ret (.tup (.cons (.blt .tuple (.cons (.lc (.tup (.cons (.var 2) (.cons (.bin .sub (.var 3) (.var 1)) .nil))) (.tp (.cons (.nm 2) (.cons (.nm 3) .nil))) (.val (.var 0)) .no [2, 3]) .nil)) (.cons (.var 1) .nil)))) .nil))
def i_cost_calendar_1 : It := (.val (.var 5))
def l_cost_calendar_1 : Ss := (.cons (.set 10 (.call 43 (.cons (.var 1) (.cons (.call 42 (.cons (.var 1) (.cons (.var 9) (.cons (.idx (.var 0) (.cst (.int 2))) (.cons (.var 2) .nil))))) .nil)))) (.cons (.exp (.mth .append (.var 8) (.cons (.ife (.isN (.var 10)) (.cst .non) (.bin .add (.var 10) (.var 3))) .nil))) .nil))
def b_cost_calendar : Ss := (.cons (.set 4 (.call 42 (.cons (.var 1) (.cons (.glo 3) (.cons (.idx (.var 0) (.cst (.int 0))) (.cons (.var 2) .nil)))))) (.cons (.unp (.cons (.nm 5) (.cons (.nm 6) (.cons (.nm 7) .nil))) (.calll 20 (.cons (.var 4) (.cons (.lam 2 [1, 2, 0]) (.cons (.glo 4) .nil))))) (.cons (.set 8 (.new .nil)) (.cons (.for_ (.nm 9) i_cost_calendar_1 l_cost_calendar_1) (.cons (.ret (.call 18 (.cons (.slc (.var 8) .no (.e (.var 6))) (.cons (.slc (.var 8) (.e (.var 6)) .no) (.cons (.var 7) .nil))))) .nil)))))
def b_begin : Ss := (.cons (.ret (.tup (.cons (.tup (.cons (.blt .tuple (.cons (.lc (.glo 0) (.nm 1) (.val (.var 0)) .no [1]) .nil)) (.cons (.cst (.int 0)) .nil))) .nil))) .nil)
def b_lot_behind : Ss := (.cons (.ret (.blt .tuple (.cons (.lc (.call 27 (.cons (.var 3) (.cons (.var 4) (.cons (.var 2) .nil)))) (.tp (.cons (.nm 3) (.cons (.nm 4) .nil))) (.zip (.var 0) (.var 1)) .no [3, 4]) .nil))) .nil)
def b_lots_behind : Ss := (.cons (.set 3 (.lc (.tup (.cons (.call 47 (.cons (.var 0) (.cons (.var 4) (.cons (.var 2) .nil)))) (.cons (.var 5) .nil))) (.tp (.cons (.nm 4) (.cons (.nm 5) .nil))) (.val (.var 1)) .no [4, 5])) (.cons (.ite (.cmp .ne (.var 2) (.cst (.str [46]))) (.cons (.set 3 (.bin .add (.var 3) (.lc (.tup (.cons (.call 47 (.cons (.var 0) (.cons (.var 4) (.cons (.cst (.str [46])) .nil)))) (.cons (.bin .add (.var 5) (.cst (.int 1))) .nil))) (.tp (.cons (.nm 4) (.cons (.nm 5) .nil))) (.val (.var 1)) (.e (.cmp .lt (.var 5) (.glo 5))) [4, 5]))) .nil) .nil) (.cons (.ret (.call 40 (.cons (.var 3) .nil))) .nil)))
def i_lots_after_1 : It := (.val (.var 2))
def l_lots_after_1 : Ss := (.cons (.set 1 (.call 48 (.cons (.var 0) (.cons (.var 1) (.cons (.var 3) .nil))))) .nil)
def b_lots_after : Ss := (.cons (.for_ (.nm 3) i_lots_after_1 l_lots_after_1) (.cons (.ret (.var 1)) .nil))
def b_stopped : Ss := (.cons (.ret (.not (.blt .any (.cons (.lc (.call 29 (.cons (.var 2) (.cons (.var 3) .nil))) (.tp (.cons (.nm 2) (.cons (.nm 3) .nil))) (.zip (.var 0) (.var 1)) .no [2, 3]) .nil)))) .nil)
def b_least_stop : Ss := (.cons (.set 2 (.lc (.blt .int (.cons (.var 4) .nil)) (.tp (.cons (.nm 3) (.cons (.nm 4) .nil))) (.val (.var 1)) (.e (.call 50 (.cons (.var 0) (.cons (.var 3) .nil)))) [3, 4])) (.cons (.ret (.ife (.cmp .ne (.var 2) (.lst .nil)) (.blt .min (.cons (.var 2) .nil)) (.cst .non))) .nil))
def b_falls_for : Ss := (.cons (.set 2 (.tup (.cons (.var 1) .nil))) (.cons (.set 3 (.call 49 (.cons (.var 2) (.cons (.call 46 (.cons (.var 2) .nil)) (.cons (.idx (.var 0) (.cst (.int 0))) .nil))))) (.cons (.unp (.cons (.nm 4) (.cons (.nm 5) (.cons (.nm 6) .nil))) (.calll 20 (.cons (.var 3) (.cons (.lam 3 [2, 0]) (.cons (.glo 4) .nil))))) (.cons (.set 7 (.lc (.call 51 (.cons (.var 2) (.cons (.call 49 (.cons (.var 2) (.cons (.var 8) (.cons (.idx (.var 0) (.cst (.int 2))) .nil)))) .nil))) (.nm 8) (.val (.var 4)) .no [8])) (.cons (.ret (.call 19 (.cons (.slc (.var 7) .no (.e (.var 5))) (.cons (.slc (.var 7) (.e (.var 5)) .no) .nil)))) .nil)))))
def b_fall_calendar : Ss := (.cons (.exp (.call 8 (.cons (.var 0) (.cons (.var 1) .nil)))) (.cons (.ret (.call 52 (.cons (.var 0) (.cons (.var 1) .nil)))) .nil))
def b_differs_so : Ss := (.cons (.par2 3 4 (.call 29 (.cons (.idx (.var 0) (.cst (.int 0))) (.cons (.idx (.var 1) (.cst (.int 0))) .nil))) (.call 29 (.cons (.idx (.var 0) (.cst (.int 1))) (.cons (.idx (.var 1) (.cst (.int 1))) .nil)))) (.cons (.ret (.ife (.var 2) (.and (.var 4) (.cons (.not (.var 3)) .nil)) (.cmp .ne (.var 3) (.var 4)))) .nil))
def i_first_row_1 : It := (.val (.var 2))
def l_first_row_1 : Ss := (.cons (.ite (.call 54 (.cons (.var 0) (.cons (.var 5) (.cons (.var 1) .nil)))) (.cons (.ret (.var 4)) .nil) .nil) .nil)
def i_first_row_2 : It := (.val (.cst (.str [35, 46])))
def l_first_row_2 : Ss := (.cons (.set 8 (.tup (.cons (.call 27 (.cons (.idx (.var 0) (.cst (.int 0))) (.cons (.idx (.var 5) (.cst (.int 0))) (.cons (.var 7) .nil)))) (.cons (.call 27 (.cons (.idx (.var 0) (.cst (.int 1))) (.cons (.idx (.var 5) (.cst (.int 1))) (.cons (.var 7) .nil)))) .nil)))) (.cons (.ite (.cmp .notin (.var 8) (.var 3)) (.cons (.idx (.var 3) (.var 8) (.cst (.bl true))) (.cons (.exp (.mth .append (.var 6) (.cons (.tup (.cons (.bin .add (.var 4) (.var 7)) (.cons (.var 8) .nil))) .nil))) .nil)) .nil) .nil))
def i_first_row_3 : It := (.val (.var 2))
def l_first_row_3 : Ss := (.cons (.for_ (.nm 7) i_first_row_2 l_first_row_2) .nil)
def w_first_row_4 : E := (.cmp .ne (.var 2) (.lst .nil))
def l_first_row_4 : Ss := (.cons (.for_ (.tp (.cons (.nm 4) (.cons (.nm 5) .nil))) i_first_row_1 l_first_row_1) (.cons (.set 6 (.new .nil)) (.cons (.for_ (.tp (.cons (.nm 4) (.cons (.nm 5) .nil))) i_first_row_3 l_first_row_3) (.cons (.set 2 (.frz 6)) .nil))))
def b_first_row : Ss := (.cons (.par2 2 3 (.lst (.cons (.tup (.cons (.cst (.str [])) (.cons (.tup (.cons (.glo 0) (.cons (.glo 0) .nil))) .nil))) .nil)) (.dic (.cons (.tup (.cons (.glo 0) (.cons (.glo 0) .nil))) .nil) (.cons (.cst (.bl true)) .nil))) (.cons (.whl w_first_row_4 l_first_row_4) (.cons (.ret (.cst .non)) .nil)))
def b_need_two : Ss := (.cons (.exp (.call 6 (.cons (.var 0) .nil))) (.cons (.exp (.call 6 (.cons (.var 1) .nil))) .nil))
def b_first_worse : Ss := (.cons (.exp (.call 56 (.cons (.var 0) (.cons (.var 1) .nil)))) (.cons (.ret (.call 55 (.cons (.tup (.cons (.var 0) (.cons (.var 1) .nil))) (.cons (.cst (.bl true)) .nil)))) .nil))
def b_parting : Ss := (.cons (.exp (.call 56 (.cons (.var 0) (.cons (.var 1) .nil)))) (.cons (.ret (.call 55 (.cons (.tup (.cons (.var 0) (.cons (.var 1) .nil))) (.cons (.cst (.bl false)) .nil)))) .nil))
def b_mend_price : Ss := (.cons (.ret (.ife (.cmp .eq (.var 0) (.cst (.str [46]))) (.cst (.int 1)) (.cst (.int 0)))) .nil)
def b_mends_for : Ss := (.cons (.ret (.call 45 (.cons (.var 0) (.cons (.var 1) (.cons (.glo 6) (.cons (.cst (.int 0)) .nil)))))) .nil)
def b_mend_calendar : Ss := (.cons (.exp (.call 8 (.cons (.var 0) (.cons (.var 1) .nil)))) (.cons (.ret (.call 60 (.cons (.var 0) (.cons (.var 1) .nil)))) .nil))
def b_stride_price : Ss := (.cons (.ret (.ife (.cmp .eq (.var 0) (.cst (.str [46]))) (.cst .non) (.cst (.int 1)))) .nil)
def b_strides_for : Ss := (.cons (.ret (.call 45 (.cons (.var 0) (.cons (.var 1) (.cons (.glo 7) (.cons (.cst (.int 1)) .nil)))))) .nil)
def b_stride_calendar : Ss := (.cons (.exp (.call 8 (.cons (.var 0) (.cons (.var 1) .nil)))) (.cons (.ret (.call 63 (.cons (.var 0) (.cons (.var 1) .nil)))) .nil))
def b_law_source : Ss := (.cons (.set 2 (.cst (.int 0))) (.cons (.ite (.cmp .lt (.var 1) (.blt .len (.cons (.var 0) .nil))) (.cons (.set 2 (.blt .abs (.cons (.blt .int (.cons (.idx (.var 0) (.var 1)) .nil)) .nil))) .nil) .nil) (.cons (.ite (.cmp .lt (.var 2) (.bin .pow (.cst (.int 10)) (.cst (.int 18)))) (.cons (.ret (.new (.cons (.cst (.int 0)) (.cons (.bin .add (.cst (.int 1)) (.bin .mod (.blt .int (.cons (.bin .add (.bin .mul (.var 2) (.cst (.int 7919))) (.bin .mul (.cst (.int 104729)) (.var 1))) .nil)) (.cst (.int 2147483646)))) .nil)))) .nil) .nil) (.cons (.ret (.new (.cons (.var 2) (.cons (.bin .add (.cst (.int 1)) (.bin .mod (.blt .int (.cons (.bin .add (.var 2) (.var 1)) .nil)) (.cst (.int 2147483646)))) .nil)))) .nil))))
def b_law_draw : Ss := (.cons (.ite (.cmp .gt (.idx (.var 0) (.cst (.int 0))) (.cst (.int 0))) (.cons (.set 2 (.bin .mod (.blt .int (.cons (.idx (.var 0) (.cst (.int 0))) .nil)) (.var 1))) (.cons (.idx (.var 0) (.cst (.int 0)) (.bin .fdiv (.idx (.var 0) (.cst (.int 0))) (.var 1))) (.cons (.ret (.var 2)) .nil))) .nil) (.cons (.idx (.var 0) (.cst (.int 1)) (.bin .mod (.blt .int (.cons (.bin .mul (.idx (.var 0) (.cst (.int 1))) (.cst (.int 48271))) .nil)) (.cst (.int 2147483647)))) (.cons (.ret (.bin .mod (.blt .int (.cons (.bin .fdiv (.bin .mod (.blt .int (.cons (.bin .mul (.idx (.var 0) (.cst (.int 1))) (.idx (.var 0) (.cst (.int 1)))) .nil)) (.cst (.int 2147483629))) (.cst (.int 64))) .nil)) (.var 1))) .nil)))
def b_law_steps_right : Ss := (.cons (.par2 1 2 (.tup (.cons (.cst (.str [])) (.cons (.cst (.str [35])) (.cons (.cst (.str [])) .nil)))) (.tup (.cons (.tup (.cons (.var 0) .nil)) (.cons (.cst (.int 5)) .nil)))) (.cons (.set 3 (.blt .tuple (.cons (.lc (.bin .add (.cst (.int 1)) (.bin .fdiv (.var 6) (.var 0))) (.nm 6) (.rng1 (.var 0)) .no [6]) .nil))) (.cons (.set 4 (.new (.cons (.cmp .eq (.call 34 (.cons (.var 1) (.cons (.var 2) .nil))) (.tup (.cons (.tup .nil) (.cons (.tup (.cons (.cst (.bl true)) .nil)) .nil)))) .nil))) (.cons (.exp (.mth .append (.var 4) (.cons (.cmp .eq (.call 64 (.cons (.var 1) (.cons (.var 2) .nil))) (.tup (.cons (.tup .nil) (.cons (.var 3) (.cons (.cst (.int 1)) .nil))))) .nil))) (.cons (.exp (.mth .append (.var 4) (.cons (.cmp .eq (.call 53 (.cons (.var 1) (.cons (.var 2) .nil))) (.tup (.cons (.bin .mul (.tup (.cons (.cst .non) .nil)) (.var 0)) (.cons (.tup (.cons (.cst (.int 1)) .nil)) .nil)))) .nil))) (.cons (.set 5 (.tup (.cons (.cst (.str [])) (.cons (.cst (.str [46])) (.cons (.cst (.str [])) .nil))))) (.cons (.exp (.mth .append (.var 4) (.cons (.cmp .eq (.call 34 (.cons (.var 5) (.cons (.var 2) .nil))) (.tup (.cons (.bin .mul (.tup (.cons (.cst (.bl true)) .nil)) (.var 0)) (.cons (.tup (.cons (.cst (.bl false)) .nil)) .nil)))) .nil))) (.cons (.ret (.bin .add (.var 4) (.lst (.cons (.cmp .eq (.call 61 (.cons (.var 5) (.cons (.var 2) .nil))) (.tup (.cons (.tup .nil) (.cons (.blt .tuple (.cons (.bin .mul (.lst (.cons (.cst (.int 0)) .nil)) (.var 0)) .nil)) (.cons (.cst (.int 1)) .nil))))) .nil)))) .nil))))))))
def b_law_tired_right : Ss := (.cons (.set 1 (.tup (.cons (.cst (.str [])) (.cons (.bin .add (.bin .mul (.cst (.str [46])) (.bin .sub (.var 0) (.cst (.int 1)))) (.cst (.str [35]))) (.cons (.cst (.str [])) .nil))))) (.cons (.par2 2 3 (.tup (.cons (.tup (.cons (.var 0) .nil)) (.cons (.cst (.int 5)) .nil))) (.tup (.cons (.tup (.cons (.var 0) .nil)) (.cons (.var 0) .nil)))) (.cons (.set 4 (.new (.cons (.cmp .eq (.call 34 (.cons (.var 1) (.cons (.var 2) .nil))) (.tup (.cons (.tup .nil) (.cons (.tup (.cons (.cst (.bl true)) .nil)) .nil)))) .nil))) (.cons (.exp (.mth .append (.var 4) (.cons (.cmp .eq (.call 34 (.cons (.var 1) (.cons (.var 3) .nil))) (.tup (.cons (.tup (.cons (.cst (.bl true)) .nil)) (.cons (.tup (.cons (.cst (.bl false)) .nil)) .nil)))) .nil))) (.cons (.exp (.mth .append (.var 4) (.cons (.cmp .eq (.call 64 (.cons (.var 1) (.cons (.var 2) .nil))) (.tup (.cons (.tup .nil) (.cons (.tup (.cons (.cst (.int 1)) .nil)) (.cons (.cst (.int 1)) .nil))))) .nil))) (.cons (.exp (.mth .append (.var 4) (.cons (.cmp .eq (.call 64 (.cons (.var 1) (.cons (.var 3) .nil))) (.tup (.cons (.tup (.cons (.cst (.int 1)) .nil)) (.cons (.tup (.cons (.cst .non) .nil)) (.cons (.cst (.int 0)) .nil))))) .nil))) (.cons (.ret (.bin .add (.var 4) (.lst (.cons (.cmp .eq (.call 61 (.cons (.var 1) (.cons (.var 3) .nil))) (.tup (.cons (.tup (.cons (.cst (.int 0)) .nil)) (.cons (.tup (.cons (.cst .non) .nil)) (.cons (.cst (.int 0)) .nil))))) .nil)))) .nil)))))))
def b_law_turned_right : Ss := (.cons (.unp (.cons (.nm 0) (.cons (.nm 1) .nil)) (.tup (.cons (.tup (.cons (.cst (.str [])) (.cons (.cst (.str [46, 35])) (.cons (.cst (.str [])) .nil)))) (.cons (.tup (.cons (.tup (.cons (.cst (.int 2)) .nil)) (.cons (.cst (.int 5)) .nil))) .nil)))) (.cons (.set 2 (.new (.cons (.cmp .eq (.call 34 (.cons (.var 0) (.cons (.var 1) .nil))) (.tup (.cons (.tup .nil) (.cons (.tup (.cons (.cst (.bl true)) .nil)) .nil)))) .nil))) (.cons (.exp (.mth .append (.var 2) (.cons (.cmp .eq (.call 34 (.cons (.call 11 (.cons (.var 0) .nil)) (.cons (.var 1) .nil))) (.tup (.cons (.tup (.cons (.cst (.bl true)) .nil)) (.cons (.tup (.cons (.cst (.bl false)) .nil)) .nil)))) .nil))) (.cons (.ret (.bin .add (.var 2) (.lst (.cons (.call 33 (.cons (.var 0) (.cons (.var 1) (.cons (.bin .pow (.cst (.int 10)) (.cst (.int 30))) .nil)))) .nil)))) .nil))))
def b_law_rotten_right : Ss := (.cons (.par3 1 2 3 (.tup (.cons (.cst (.str [])) (.cons (.cst (.str [126])) (.cons (.cst (.str [])) .nil)))) (.tup (.cons (.tup (.cons (.cst (.int 1)) .nil)) (.cons (.cst (.int 5)) .nil))) (.tup (.cons (.tup (.cons (.cst (.int 1)) (.cons (.var 0) .nil))) (.cons (.cst (.int 5)) .nil)))) (.cons (.set 4 (.new (.cons (.cmp .eq (.call 39 (.cons (.var 1) (.cons (.var 2) (.cons (.var 2) .nil)))) (.tup (.cons (.tup (.cons (.cst (.bl true)) .nil)) (.cons (.tup (.cons (.cst (.bl false)) .nil)) .nil)))) .nil))) (.cons (.exp (.mth .append (.var 4) (.cons (.cmp .eq (.call 39 (.cons (.var 1) (.cons (.var 2) (.cons (.var 3) .nil)))) (.tup (.cons (.bin .mul (.tup (.cons (.cst (.bl true)) .nil)) (.var 0)) (.cons (.tup (.cons (.cst (.bl false)) .nil)) .nil)))) .nil))) (.cons (.exp (.mth .append (.var 4) (.cons (.cmp .eq (.call 39 (.cons (.var 1) (.cons (.var 3) (.cons (.var 3) .nil)))) (.tup (.cons (.tup .nil) (.cons (.tup (.cons (.cst (.bl true)) .nil)) .nil)))) .nil))) (.cons (.ret (.bin .add (.var 4) (.lst (.cons (.cmp .eq (.call 57 (.cons (.var 2) (.cons (.var 3) .nil))) (.cst (.str [46]))) (.cons (.cmp .eq (.call 58 (.cons (.var 3) (.cons (.var 2) .nil))) (.cst (.str [46]))) .nil))))) .nil)))))
def i_law_1 : It := (.rng1 (.bin .add (.cst (.int 1)) (.blt .min (.cons (.blt .len (.cons (.var 0) .nil)) (.cons (.cst (.int 8)) .nil)))))
def l_law_1 : Ss := (.cons (.set 2 (.call 65 (.cons (.var 0) (.cons (.var 1) .nil)))) (.cons (.ite (.cmp .isin (.cst (.bl false)) (.call 67 (.cons (.bin .add (.cst (.int 1)) (.call 66 (.cons (.var 2) (.cons (.cst (.int 4)) .nil)))) .nil))) (.cons (.ret (.cst (.bl false))) .nil) .nil) (.cons (.ite (.cmp .isin (.cst (.bl false)) (.call 68 (.cons (.bin .add (.cst (.int 1)) (.call 66 (.cons (.var 2) (.cons (.cst (.int 4)) .nil)))) .nil))) (.cons (.ret (.cst (.bl false))) .nil) .nil) (.cons (.ite (.cmp .isin (.cst (.bl false)) (.call 70 (.cons (.bin .add (.cst (.int 2)) (.call 66 (.cons (.var 2) (.cons (.cst (.int 3)) .nil)))) .nil))) (.cons (.ret (.cst (.bl false))) .nil) .nil) .nil))))
def b_law : Ss := (.cons (.for_ (.nm 1) i_law_1 l_law_1) (.cons (.ite (.cmp .isin (.cst (.bl false)) (.bin .add (.bin .add (.call 67 (.cons (.cst (.int 4)) .nil)) (.call 68 (.cons (.cst (.int 3)) .nil))) (.call 70 (.cons (.cst (.int 2)) .nil)))) (.cons (.ret (.cst (.bl false))) .nil) .nil) (.cons (.ret (.cmp .notin (.cst (.bl false)) (.call 69 .nil))) .nil)))
def f_is_number : Fd := ⟨3, 3, true, b_is_number⟩
def f_is_tuple : Fd := ⟨3, 3, true, b_is_tuple⟩
def f_are_signs : Fd := ⟨3, 4, true, b_are_signs⟩
def f_is_good_bridge : Fd := ⟨1, 1, true, b_is_good_bridge⟩
def f_is_good_walker : Fd := ⟨1, 4, true, b_is_good_walker⟩
def f_need_bridge : Fd := ⟨1, 1, true, b_need_bridge⟩
def f_need_walker : Fd := ⟨1, 1, true, b_need_walker⟩
def f_need_n : Fd := ⟨2, 2, true, b_need_n⟩
def f_need_both : Fd := ⟨2, 2, true, b_need_both⟩
def f_need_all : Fd := ⟨4, 4, true, b_need_all⟩
def f_round_about : Fd := ⟨1, 1, true, b_round_about⟩
def f_turned : Fd := ⟨1, 1, true, b_turned⟩
def f_shortest_early : Fd := ⟨3, 3, true, b_shortest_early⟩
def f_lowered : Fd := ⟨2, 2, true, b_lowered⟩
def f_raised : Fd := ⟨2, 2, true, b_raised⟩
def f_part_of : Fd := ⟨3, 7, true, b_part_of⟩
def f_differs : Fd := ⟨3, 3, true, b_differs⟩
def f_is_count : Fd := ⟨1, 1, true, b_is_count⟩
def f_rising : Fd := ⟨3, 8, true, b_rising⟩
def f_plain : Fd := ⟨2, 2, true, b_plain⟩
def f_come_round : Fd := ⟨3, 7, true, b_come_round⟩
def f_told_by : Fd := ⟨2, 7, true, b_told_by⟩
def f_is_long : Fd := ⟨2, 2, true, b_is_long⟩
def f_strides_from : Fd := ⟨2, 3, true, b_strides_from⟩
def f_landing : Fd := ⟨2, 4, true, b_landing⟩
def f_waiting : Fd := ⟨1, 1, true, b_waiting⟩
def f_reaches : Fd := ⟨2, 3, true, b_reaches⟩
def f_spots_behind : Fd := ⟨3, 5, true, b_spots_behind⟩
def f_spots_after : Fd := ⟨3, 4, true, b_spots_after⟩
def f_gets_over : Fd := ⟨2, 3, true, b_gets_over⟩
def f_no_height : Fd := ⟨1, 1, true, b_no_height⟩
def f_truths_for : Fd := ⟨2, 8, true, b_truths_for⟩
def f_crosses_so : Fd := ⟨3, 5, true, b_crosses_so⟩
def f_crosses : Fd := ⟨3, 3, true, b_crosses⟩
def f_cross_calendar : Fd := ⟨2, 2, true, b_cross_calendar⟩
def f_couples_of : Fd := ⟨3, 9, true, b_couples_of⟩
def f_couples_after : Fd := ⟨3, 6, true, b_couples_after⟩
def f_both_over : Fd := ⟨2, 4, true, b_both_over⟩
def f_passes_for : Fd := ⟨2, 8, true, b_passes_for⟩
def f_pass_calendar : Fd := ⟨3, 3, true, b_pass_calendar⟩
def f_least_pairs : Fd := ⟨1, 4, true, b_least_pairs⟩
def f_costs_behind : Fd := ⟨4, 8, true, b_costs_behind⟩
def f_costs_after : Fd := ⟨4, 5, true, b_costs_after⟩
def f_least_over : Fd := ⟨2, 5, true, b_least_over⟩
def f_shape_of : Fd := ⟨1, 4, true, b_shape_of⟩
def f_cost_calendar : Fd := ⟨4, 11, true, b_cost_calendar⟩
def f_begin : Fd := ⟨1, 2, true, b_begin⟩
def f_lot_behind : Fd := ⟨3, 5, true, b_lot_behind⟩
def f_lots_behind : Fd := ⟨3, 6, true, b_lots_behind⟩
def f_lots_after : Fd := ⟨3, 4, true, b_lots_after⟩
def f_stopped : Fd := ⟨2, 4, true, b_stopped⟩
def f_least_stop : Fd := ⟨2, 5, true, b_least_stop⟩
def f_falls_for : Fd := ⟨2, 9, true, b_falls_for⟩
def f_fall_calendar : Fd := ⟨2, 2, true, b_fall_calendar⟩
def f_differs_so : Fd := ⟨3, 5, true, b_differs_so⟩
def f_first_row : Fd := ⟨2, 9, true, b_first_row⟩
def f_need_two : Fd := ⟨2, 2, true, b_need_two⟩
def f_first_worse : Fd := ⟨2, 2, true, b_first_worse⟩
def f_parting : Fd := ⟨2, 2, true, b_parting⟩
def f_mend_price : Fd := ⟨1, 1, true, b_mend_price⟩
def f_mends_for : Fd := ⟨2, 2, true, b_mends_for⟩
def f_mend_calendar : Fd := ⟨2, 2, true, b_mend_calendar⟩
def f_stride_price : Fd := ⟨1, 1, true, b_stride_price⟩
def f_strides_for : Fd := ⟨2, 2, true, b_strides_for⟩
def f_stride_calendar : Fd := ⟨2, 2, true, b_stride_calendar⟩
def f_law_source : Fd := ⟨2, 3, false, b_law_source⟩
def f_law_draw : Fd := ⟨2, 3, false, b_law_draw⟩
def f_law_steps_right : Fd := ⟨1, 7, true, b_law_steps_right⟩
def f_law_tired_right : Fd := ⟨1, 5, true, b_law_tired_right⟩
def f_law_turned_right : Fd := ⟨0, 3, true, b_law_turned_right⟩
def f_law_rotten_right : Fd := ⟨1, 5, true, b_law_rotten_right⟩
def f_law : Fd := ⟨1, 3, true, b_law⟩
def m_0 : Ld := ⟨2, 1, true, (.call 28 (.cons (.var 0) (.cons (.var 2) (.cons (.idx (.var 1) (.cst (.int 1))) .nil))))⟩
def m_1 : Ld := ⟨2, 1, true, (.call 36 (.cons (.var 0) (.cons (.var 2) (.cons (.idx (.var 1) (.cst (.int 1))) .nil))))⟩
def m_2 : Ld := ⟨3, 1, true, (.call 42 (.cons (.var 0) (.cons (.var 3) (.cons (.idx (.var 2) (.cst (.int 1))) (.cons (.var 1) .nil)))))⟩
def m_3 : Ld := ⟨2, 1, true, (.call 49 (.cons (.var 0) (.cons (.var 2) (.cons (.idx (.var 1) (.cst (.int 1))) .nil))))⟩
def TB : Tab := ⟨[f_is_number, f_is_tuple, f_are_signs, f_is_good_bridge, f_is_good_walker, f_need_bridge, f_need_walker, f_need_n, f_need_both, f_need_all, f_round_about, f_turned, f_shortest_early, f_lowered, f_raised, f_part_of, f_differs, f_is_count, f_rising, f_plain, f_come_round, f_told_by, f_is_long, f_strides_from, f_landing, f_waiting, f_reaches, f_spots_behind, f_spots_after, f_gets_over, f_no_height, f_truths_for, f_crosses_so, f_crosses, f_cross_calendar, f_couples_of, f_couples_after, f_both_over, f_passes_for, f_pass_calendar, f_least_pairs, f_costs_behind, f_costs_after, f_least_over, f_shape_of, f_cost_calendar, f_begin, f_lot_behind, f_lots_behind, f_lots_after, f_stopped, f_least_stop, f_falls_for, f_fall_calendar, f_differs_so, f_first_row, f_need_two, f_first_worse, f_parting, f_mend_price, f_mends_for, f_mend_calendar, f_stride_price, f_strides_for, f_stride_calendar, f_law_source, f_law_draw, f_law_steps_right, f_law_tired_right, f_law_turned_right, f_law_rotten_right, f_law], [m_0, m_1, m_2, m_3], [.d (.tup [(.tup [(.int 1), (.bl false)])]), .fn 30, .d (.tup [(.tup [(.tup [(.int 1), (.bl false)]), (.tup [(.int 1), (.bl false)])])]), .d (.tup [(.tup [(.tup [(.int 1), (.bl false)]), (.int 0)])]), .fn 44, .d (.int 4), .fn 59, .fn 62]⟩
end Law

namespace Law
open Ev EvL
theorem c_67_1 : isT ((TB.cx 39).call 67 [.d (.int 1)] []) = true := by decide +kernel
theorem c_67_2 : isT ((TB.cx 39).call 67 [.d (.int 2)] []) = true := by decide +kernel
theorem c_67_3 : isT ((TB.cx 39).call 67 [.d (.int 3)] []) = true := by decide +kernel
theorem c_67_4 : isT ((TB.cx 39).call 67 [.d (.int 4)] []) = true := by decide +kernel
theorem c_68_1 : isT ((TB.cx 39).call 68 [.d (.int 1)] []) = true := by decide +kernel
theorem c_68_2 : isT ((TB.cx 39).call 68 [.d (.int 2)] []) = true := by decide +kernel
theorem c_68_3 : isT ((TB.cx 39).call 68 [.d (.int 3)] []) = true := by decide +kernel
theorem c_68_4 : isT ((TB.cx 39).call 68 [.d (.int 4)] []) = true := by decide +kernel
theorem c_70_2 : isT ((TB.cx 39).call 70 [.d (.int 2)] []) = true := by decide +kernel
theorem c_70_3 : isT ((TB.cx 39).call 70 [.d (.int 3)] []) = true := by decide +kernel
theorem c_70_4 : isT ((TB.cx 39).call 70 [.d (.int 4)] []) = true := by decide +kernel
theorem c_69 : isT ((TB.cx 39).call 69 [] []) = true := by decide +kernel
end Law

namespace Law
open Ev EvL
theorem good {g : Nat} {f : Fd} {vs : List Vl} (hf : TB.fns[g]? = some f) (ha : f.alone = true) (h : isT ((TB.cx 39).call g vs []) = true) : ∃ xs, (∀ st, (TB.cx 39).call g vs st = .ok (.d (.lst xs)) st) ∧ trueL xs = true ∧ xs.length ≤ 1000 := by
  obtain ⟨xs, e, t, l⟩ := isT_ok h
  exact ⟨xs, fun st => alone_st (n := 38) hf ha e st, t, l⟩
theorem steps {a : Int} (h1 : 1 ≤ a) (h2 : a ≤ 4) : ∃ xs, (∀ st, (TB.cx 39).call 67 [.d (.int a)] st = .ok (.d (.lst xs)) st) ∧ trueL xs = true ∧ xs.length ≤ 1000 := by
  have : a = 1 ∨ a = 2 ∨ a = 3 ∨ a = 4 := by omega
  rcases this with rfl | rfl | rfl | rfl
  · exact good rfl rfl c_67_1
  · exact good rfl rfl c_67_2
  · exact good rfl rfl c_67_3
  · exact good rfl rfl c_67_4
theorem tired {a : Int} (h1 : 1 ≤ a) (h2 : a ≤ 4) : ∃ xs, (∀ st, (TB.cx 39).call 68 [.d (.int a)] st = .ok (.d (.lst xs)) st) ∧ trueL xs = true ∧ xs.length ≤ 1000 := by
  have : a = 1 ∨ a = 2 ∨ a = 3 ∨ a = 4 := by omega
  rcases this with rfl | rfl | rfl | rfl
  · exact good rfl rfl c_68_1
  · exact good rfl rfl c_68_2
  · exact good rfl rfl c_68_3
  · exact good rfl rfl c_68_4
theorem rotten {a : Int} (h1 : 2 ≤ a) (h2 : a ≤ 4) : ∃ xs, (∀ st, (TB.cx 39).call 70 [.d (.int a)] st = .ok (.d (.lst xs)) st) ∧ trueL xs = true ∧ xs.length ≤ 1000 := by
  have : a = 2 ∨ a = 3 ∨ a = 4 := by omega
  rcases this with rfl | rfl | rfl
  · exact good rfl rfl c_70_2
  · exact good rfl rfl c_70_3
  · exact good rfl rfl c_70_4
theorem isin_no {xs : List D} (h : trueL xs = true) (st : Sto) : cmpV .isin (.d (.bl false)) (.d (.lst xs)) st = .ok (.d (.bl false)) st := by
  show ofB (some (inD (.bl false) xs)) st = _
  rw [trueL_in h]
  rfl
theorem notin_yes {xs : List D} (h : trueL xs = true) (st : Sto) : cmpV .notin (.d (.bl false)) (.d (.lst xs)) st = .ok (.d (.bl true)) st := by
  show ofB (some (!inD (.bl false) xs)) st = _
  rw [trueL_in h]
  rfl
theorem ev_round {ns : List Int} {k : Nat} {st : Sto} {t2 : Option Vl} (hk : k ≤ 1000) : ∃ b2 st', evSs (TB.cx 39) l_law_1 [some (.d (.lst (ns.map D.int))), some (.d (.int k)), t2] st = .nx [some (.d (.lst (ns.map D.int))), some (.d (.int k)), b2] st' := by
  obtain ⟨x, y, e0⟩ := source_ok (T := TB) (g := 65) rfl 38 ns k st hk
  have s0 : Src (st ++ [.lst [.int x, .int y]]) st.length := src_new
  generalize st ++ [.lst [.int x, .int y]] = st0 at s0 e0
  generalize st.length = r at s0 e0
  obtain ⟨a, st1, e1, a1, a2, s1⟩ := draw_ok (T := TB) (g := 66) rfl 38 (m := 4) s0 (by decide) (by decide)
  obtain ⟨b, st2, e2, b1, b2, s2⟩ := draw_ok (T := TB) (g := 66) rfl 38 (m := 4) s1 (by decide) (by decide)
  obtain ⟨c, st3, e3, c1, c2, s3⟩ := draw_ok (T := TB) (g := 66) rfl 38 (m := 3) s2 (by decide) (by decide)
  obtain ⟨xs, f1, g1, l1⟩ := steps (a := 1 + a) (by omega) (by omega)
  obtain ⟨ys, f2, g2, l2⟩ := tired (a := 1 + b) (by omega) (by omega)
  obtain ⟨zs, f3, g3, l3⟩ := rotten (a := 2 + c) (by omega) (by omega)
  refine ⟨some (.ref r), st3, ?_⟩
  have e0 : (TB.cx 39).call 65 [.d (.lst (ns.map D.int)), .d (.int k)] st = _ := e0
  have e1 : (TB.cx 39).call 66 [.ref r, .d (.int 4)] st0 = _ := e1
  have e2 : (TB.cx 39).call 66 [.ref r, .d (.int 4)] st1 = _ := e2
  have e3 : (TB.cx 39).call 66 [.ref r, .d (.int 3)] st2 = _ := e3
  simp [l_law_1, En.get, En.put, e0, e1, e2, e3, op_addI, f1, f2, f3, isin_no g1, isin_no g2, isin_no g3]
theorem data (ns : List Int) (hl : ns.length ≤ 63) : ∃ st, (TB.cx (39 + 1)).call 71 [.d (.lst (ns.map D.int))] [] = .ok (.d (.bl true)) st := by
  refine ⟨[], ?_⟩
  rw [call_alone (f := f_law) rfl rfl rfl rfl]
  show (evSs (TB.cx 39) b_law [some (.d (.lst (ns.map D.int))), none, none] []).res.back [] = _
  have hm : bMin2 (.int (ns.length : Int)) (.int 8) = some (.int (min ns.length 8 : Nat)) := by
    show some (D.int (if (8 : Int) < (ns.length : Int) then 8 else (ns.length : Int))) = _
    by_cases h : (8 : Int) < (ns.length : Int)
    · rw [if_pos h, show min ns.length 8 = 8 by omega]
      rfl
    · rw [if_neg h, show min ns.length 8 = ns.length by omega]
  have hit : evIt (TB.cx 39) i_law_1 [some (.d (.lst (ns.map D.int))), none, none] [] = .ok (rangeD 0 (1 + min ns.length 8)) [] := by
    have e1 : ((1 : Int) + ((min ns.length 8 : Nat) : Int)).natAbs ≤ 16777216 := by omega
    have e2 : ((1 : Int) + ((min ns.length 8 : Nat) : Int)).toNat = 1 + min ns.length 8 := by omega
    simp only [i_law_1, it_rng1, e_bin, e_cst, bind_ok, e_blt, es_cons, es_nil, e_var]
    simp [En.get, bltD, blt1, bLen, blt2, hm, op_addI, line, e1, e2]
  obtain ⟨ρ', st1, hf, b1, b2, rfl⟩ := ev_for_inv (t := .nm 1) (b := l_law_1)
    (fun i ρ st => ∃ b1 b2, ρ = [some (.d (.lst (ns.map D.int))), b1, b2]) hit
    (fun i x ρ st hx ⟨b1, b2, hρ⟩ => by
      subst hρ
      obtain ⟨hlt, rfl⟩ := range_lt hx
      obtain ⟨c2, st2, h2⟩ := ev_round (ns := ns) (k := i) (st := st) (t2 := b2) (by omega)
      have h2' : evSs (TB.cx 39) l_law_1 [some (.d (.lst (ns.map D.int))), some (.d (.int (0 + (i : Int)))), b2] st = .nx [some (.d (.lst (ns.map D.int))), some (.d (.int (i : Int))), c2] st2 := by
        rw [Int.zero_add]
        exact h2
      exact ⟨_, _, st2, rfl, .inl h2', _, _, rfl⟩)
    ⟨_, _, rfl⟩
  obtain ⟨xs, f1, g1, l1⟩ := steps (a := 4) (by decide) (by decide)
  obtain ⟨ys, f2, g2, l2⟩ := tired (a := 3) (by decide) (by decide)
  obtain ⟨zs, f3, g3, l3⟩ := rotten (a := 2) (by decide) (by decide)
  obtain ⟨us, f4, g4, l4⟩ := good (g := 69) (f := f_law_turned_right) (vs := []) rfl rfl c_69
  have a1 : opD .add (.lst xs) (.lst ys) = some (.lst (xs ++ ys)) := if_pos (by show xs.length + ys.length ≤ 16777216; omega)
  have a2 : opD .add (.lst (xs ++ ys)) (.lst zs) = some (.lst (xs ++ ys ++ zs)) := if_pos (by show (xs ++ ys).length + zs.length ≤ 16777216; rw [List.length_append]; omega)
  have g5 : trueL (xs ++ ys ++ zs) = true := trueL_app (trueL_app g1 g2) g3
  have n1 := isin_no g5
  simp only [b_law, ss_cons, hf, then_nx, s_ite, e_cmp, e_cst, bind_ok, e_bin, e_call, es_cons, es_nil, f1, f2, f3, f4, rawV_d, onD_some, a1, a2, ofO_some, n1, out_ok, onO_bl, cond_false, ss_nil, s_ret, notin_yes g4, then_rt, res_rt, back_ok]
end Law

def Law.deep : Nat := 39
namespace Law
open PySem PySem.Spec PyProof.Rows L2 Ev EvS
abbrev rowL : PySem.W.OpenLaw := PySem.Challenge.rw_gapplanks_k19_whole_known_mistakes
def top (i : Nat) : Stmt := PySem.Challenge.pw_gapplanks_k19_whole_known_mistakes.main.body.getD i (.Pass ⟨0, 0, 0, 0⟩)
def d_is_number : Df := ⟨"is_number", defArgs (top 6), defBody (top 6), defScope (top 6), ["value", "least", "most"], ["value", "least", "most"], f_is_number, false⟩
def d_is_tuple : Df := ⟨"is_tuple", defArgs (top 7), defBody (top 7), defScope (top 7), ["value", "least", "most"], ["value", "least", "most"], f_is_tuple, false⟩
def d_are_signs : Df := ⟨"are_signs", defArgs (top 8), defBody (top 8), defScope (top 8), ["value", "least", "most", "sign"], ["value", "least", "most"], f_are_signs, false⟩
def d_is_good_bridge : Df := ⟨"is_good_bridge", defArgs (top 9), defBody (top 9), defScope (top 9), ["value"], ["value"], f_is_good_bridge, false⟩
def d_is_good_walker : Df := ⟨"is_good_walker", defArgs (top 10), defBody (top 10), defScope (top 10), ["value", "left", "right", "length"], ["value"], f_is_good_walker, false⟩
def d_need_bridge : Df := ⟨"need_bridge", defArgs (top 11), defBody (top 11), defScope (top 11), ["value"], ["value"], f_need_bridge, false⟩
def d_need_walker : Df := ⟨"need_walker", defArgs (top 12), defBody (top 12), defScope (top 12), ["value"], ["value"], f_need_walker, false⟩
def d_need_n : Df := ⟨"need_n", defArgs (top 13), defBody (top 13), defScope (top 13), ["value", "most"], ["value", "most"], f_need_n, false⟩
def d_need_both : Df := ⟨"need_both", defArgs (top 14), defBody (top 14), defScope (top 14), ["bridge", "walker"], ["bridge", "walker"], f_need_both, false⟩
def d_need_all : Df := ⟨"need_all", defArgs (top 15), defBody (top 15), defScope (top 15), ["bridge", "walker", "n", "most"], ["bridge", "walker", "n", "most"], f_need_all, false⟩
def d_round_about : Df := ⟨"round_about", defArgs (top 16), defBody (top 16), defScope (top 16), ["bridge"], ["bridge"], f_round_about, false⟩
def d_turned : Df := ⟨"turned", defArgs (top 17), defBody (top 17), defScope (top 17), ["bridge"], ["bridge"], f_turned, false⟩
def d_shortest_early : Df := ⟨"shortest_early", defArgs (top 19), defBody (top 19), defScope (top 19), ["early", "again", "rise"], ["early", "again", "rise"], f_shortest_early, false⟩
def d_lowered : Df := ⟨"lowered", defArgs (top 20), defBody (top 20), defScope (top 20), ["item", "rise"], ["item", "rise"], f_lowered, false⟩
def d_raised : Df := ⟨"raised", defArgs (top 21), defBody (top 21), defScope (top 21), ["item", "rise"], ["item", "rise"], f_raised, false⟩
def d_part_of : Df := ⟨"part_of", defArgs (top 22), defBody (top 22), defScope (top 22), ["again", "rise", "size", "numbers", "step", "fits", "at"], ["again", "rise", "size"], f_part_of, false⟩
def d_differs : Df := ⟨"differs", defArgs (top 23), defBody (top 23), defScope (top 23), ["again", "at", "size"], ["again", "at", "size"], f_differs, false⟩
def d_is_count : Df := ⟨"is_count", defArgs (top 24), defBody (top 24), defScope (top 24), ["item"], ["item"], f_is_count, false⟩
def d_rising : Df := ⟨"rising", defArgs (top 25), defBody (top 25), defScope (top 25), ["early", "again", "rise", "size", "step", "early_so", "again_so", "item"], ["early", "again", "rise"], f_rising, false⟩
def d_plain : Df := ⟨"plain", defArgs (top 26), defBody (top 26), defScope (top 26), ["early", "again"], ["early", "again"], f_plain, false⟩
def d_come_round : Df := ⟨"come_round", defArgs (top 27), defBody (top 27), defScope (top 27), ["first", "step", "shape", "found", "known", "state", "begin"], ["first", "step", "shape"], f_come_round, false⟩
def d_told_by : Df := ⟨"told_by", defArgs (top 28), defBody (top 28), defScope (top 28), ["calendar", "n", "early", "again", "rise", "turns", "at"], ["calendar", "n"], f_told_by, false⟩
def d_is_long : Df := ⟨"is_long", defArgs (top 31), defBody (top 31), defScope (top 31), ["walker", "length"], ["walker", "length"], f_is_long, false⟩
def d_strides_from : Df := ⟨"strides_from", defArgs (top 32), defBody (top 32), defScope (top 32), ["walker", "tired", "length"], ["walker", "tired"], f_strides_from, false⟩
def d_landing : Df := ⟨"landing", defArgs (top 33), defBody (top 33), defScope (top 33), ["walker", "spot", "gap", "tired"], ["walker", "spot"], f_landing, false⟩
def d_waiting : Df := ⟨"waiting", defArgs (top 34), defBody (top 34), defScope (top 34), ["spot"], ["spot"], f_waiting, false⟩
def d_reaches : Df := ⟨"reaches", defArgs (top 35), defBody (top 35), defScope (top 35), ["walker", "spot", "length"], ["walker", "spot"], f_reaches, false⟩
def d_spots_behind : Df := ⟨"spots_behind", defArgs (top 38), defBody (top 38), defScope (top 38), ["walker", "spots", "sign", "found", "spot"], ["walker", "spots", "sign"], f_spots_behind, false⟩
def d_spots_after : Df := ⟨"spots_after", defArgs (top 39), defBody (top 39), defScope (top 39), ["walker", "spots", "signs", "sign"], ["walker", "spots", "signs"], f_spots_after, false⟩
def d_gets_over : Df := ⟨"gets_over", defArgs (top 40), defBody (top 40), defScope (top 40), ["walker", "spots", "spot"], ["walker", "spots"], f_gets_over, false⟩
def d_no_height : Df := ⟨"no_height", defArgs (top 41), defBody (top 41), defScope (top 41), ["state"], ["state"], f_no_height, false⟩
def d_truths_for : Df := ⟨"truths_for", defArgs (top 42), defBody (top 42), defScope (top 42), ["bridge", "walker", "first", "rows", "begin", "more", "truths", "spots"], ["bridge", "walker"], f_truths_for, true⟩
def d_crosses_so : Df := ⟨"crosses_so", defArgs (top 43), defBody (top 43), defScope (top 43), ["bridge", "walker", "n", "early", "again"], ["bridge", "walker", "n"], f_crosses_so, false⟩
def d_crosses : Df := ⟨"crosses", defArgs (top 44), defBody (top 44), defScope (top 44), ["bridge", "walker", "n"], ["bridge", "walker", "n"], f_crosses, false⟩
def d_cross_calendar : Df := ⟨"cross_calendar", defArgs (top 45), defBody (top 45), defScope (top 45), ["bridge", "walker"], ["bridge", "walker"], f_cross_calendar, false⟩
def d_couples_of : Df := ⟨"couples_of", defArgs (top 48), defBody (top 48), defScope (top 48), ["walkers", "couple", "sign", "one", "other", "waits", "found", "lands", "pair"], ["walkers", "couple", "sign"], f_couples_of, false⟩
def d_couples_after : Df := ⟨"couples_after", defArgs (top 49), defBody (top 49), defScope (top 49), ["walkers", "couples", "signs", "sign", "found", "couple"], ["walkers", "couples", "signs"], f_couples_after, false⟩
def d_both_over : Df := ⟨"both_over", defArgs (top 50), defBody (top 50), defScope (top 50), ["walkers", "couples", "one", "other"], ["walkers", "couples"], f_both_over, false⟩
def d_passes_for : Df := ⟨"passes_for", defArgs (top 51), defBody (top 51), defScope (top 51), ["bridge", "walkers", "first", "rows", "begin", "more", "truths", "couples"], ["bridge", "walkers"], f_passes_for, true⟩
def d_pass_calendar : Df := ⟨"pass_calendar", defArgs (top 52), defBody (top 52), defScope (top 52), ["bridge", "one", "other"], ["bridge", "one", "other"], f_pass_calendar, false⟩
def d_least_pairs : Df := ⟨"least_pairs", defArgs (top 55), defBody (top 55), defScope (top 55), ["pairs", "table", "spot", "cost"], ["pairs"], f_least_pairs, false⟩
def d_costs_behind : Df := ⟨"costs_behind", defArgs (top 56), defBody (top 56), defScope (top 56), ["walker", "pairs", "sign", "price", "found", "more", "spot", "cost"], ["walker", "pairs", "sign", "price"], f_costs_behind, false⟩
def d_costs_after : Df := ⟨"costs_after", defArgs (top 57), defBody (top 57), defScope (top 57), ["walker", "pairs", "signs", "price", "sign"], ["walker", "pairs", "signs", "price"], f_costs_after, false⟩
def d_least_over : Df := ⟨"least_over", defArgs (top 58), defBody (top 58), defScope (top 58), ["walker", "pairs", "costs", "spot", "cost"], ["walker", "pairs"], f_least_over, false⟩
def d_shape_of : Df := ⟨"shape_of", defArgs (top 59), defBody (top 59), defScope (top 59), ["pairs", "low", "spot", "cost"], ["pairs"], f_shape_of, false⟩
def d_cost_calendar : Df := ⟨"cost_calendar", defArgs (top 60), defBody (top 60), defScope (top 60), ["bridge", "walker", "price", "last", "first", "rows", "begin", "more", "found", "pairs", "cost"], ["bridge", "walker", "price", "last"], f_cost_calendar, true⟩
def d_begin : Df := ⟨"begin", defArgs (top 63), defBody (top 63), defScope (top 63), ["walkers", "walker"], ["walkers"], f_begin, false⟩
def d_lot_behind : Df := ⟨"lot_behind", defArgs (top 64), defBody (top 64), defScope (top 64), ["walkers", "lot", "sign", "walker", "spots"], ["walkers", "lot", "sign"], f_lot_behind, false⟩
def d_lots_behind : Df := ⟨"lots_behind", defArgs (top 65), defBody (top 65), defScope (top 65), ["walkers", "pairs", "sign", "found", "lot", "cost"], ["walkers", "pairs", "sign"], f_lots_behind, false⟩
def d_lots_after : Df := ⟨"lots_after", defArgs (top 66), defBody (top 66), defScope (top 66), ["walkers", "pairs", "signs", "sign"], ["walkers", "pairs", "signs"], f_lots_after, false⟩
def d_stopped : Df := ⟨"stopped", defArgs (top 67), defBody (top 67), defScope (top 67), ["walkers", "lot", "walker", "spots"], ["walkers", "lot"], f_stopped, false⟩
def d_least_stop : Df := ⟨"least_stop", defArgs (top 68), defBody (top 68), defScope (top 68), ["walkers", "pairs", "costs", "lot", "cost"], ["walkers", "pairs"], f_least_stop, false⟩
def d_falls_for : Df := ⟨"falls_for", defArgs (top 69), defBody (top 69), defScope (top 69), ["bridge", "walker", "one", "first", "rows", "at", "more", "found", "pairs"], ["bridge", "walker"], f_falls_for, true⟩
def d_fall_calendar : Df := ⟨"fall_calendar", defArgs (top 70), defBody (top 70), defScope (top 70), ["bridge", "walker"], ["bridge", "walker"], f_fall_calendar, false⟩
def d_differs_so : Df := ⟨"differs_so", defArgs (top 72), defBody (top 72), defScope (top 72), ["walkers", "spots", "worse", "one", "other"], ["walkers", "spots", "worse"], f_differs_so, false⟩
def d_first_row : Df := ⟨"first_row", defArgs (top 73), defBody (top 73), defScope (top 73), ["walkers", "worse", "line", "known", "signs", "spots", "later", "sign", "both"], ["walkers", "worse"], f_first_row, false⟩
def d_need_two : Df := ⟨"need_two", defArgs (top 74), defBody (top 74), defScope (top 74), ["one", "other"], ["one", "other"], f_need_two, false⟩
def d_first_worse : Df := ⟨"first_worse", defArgs (top 75), defBody (top 75), defScope (top 75), ["one", "other"], ["one", "other"], f_first_worse, false⟩
def d_parting : Df := ⟨"parting", defArgs (top 76), defBody (top 76), defScope (top 76), ["one", "other"], ["one", "other"], f_parting, false⟩
def d_mend_price : Df := ⟨"mend_price", defArgs (top 78), defBody (top 78), defScope (top 78), ["sign"], ["sign"], f_mend_price, false⟩
def d_mends_for : Df := ⟨"mends_for", defArgs (top 79), defBody (top 79), defScope (top 79), ["bridge", "walker"], ["bridge", "walker"], f_mends_for, false⟩
def d_mend_calendar : Df := ⟨"mend_calendar", defArgs (top 80), defBody (top 80), defScope (top 80), ["bridge", "walker"], ["bridge", "walker"], f_mend_calendar, false⟩
def d_stride_price : Df := ⟨"stride_price", defArgs (top 82), defBody (top 82), defScope (top 82), ["sign"], ["sign"], f_stride_price, false⟩
def d_strides_for : Df := ⟨"strides_for", defArgs (top 83), defBody (top 83), defScope (top 83), ["bridge", "walker"], ["bridge", "walker"], f_strides_for, false⟩
def d_stride_calendar : Df := ⟨"stride_calendar", defArgs (top 84), defBody (top 84), defScope (top 84), ["bridge", "walker"], ["bridge", "walker"], f_stride_calendar, false⟩
def d_law_source : Df := ⟨"_law_source", defArgs (top 86), defBody (top 86), defScope (top 86), ["script", "k", "cell"], ["script", "k"], f_law_source, false⟩
def d_law_draw : Df := ⟨"_law_draw", defArgs (top 87), defBody (top 87), defScope (top 87), ["source", "many", "found"], ["source", "many"], f_law_draw, false⟩
def d_law_steps_right : Df := ⟨"_law_steps_right", defArgs (top 88), defBody (top 88), defScope (top 88), ["length", "firm", "walker", "again", "found", "bare", "at"], ["length"], f_law_steps_right, false⟩
def d_law_tired_right : Df := ⟨"_law_tired_right", defArgs (top 89), defBody (top 89), defScope (top 89), ["length", "bridge", "free", "tired", "found"], ["length"], f_law_tired_right, false⟩
def d_law_turned_right : Df := ⟨"_law_turned_right", defArgs (top 90), defBody (top 90), defScope (top 90), ["bridge", "walker", "found"], [], f_law_turned_right, false⟩
def d_law_rotten_right : Df := ⟨"_law_rotten_right", defArgs (top 91), defBody (top 91), defScope (top 91), ["length", "rotten", "slow", "quick", "found"], ["length"], f_law_rotten_right, false⟩
def d_law : Df := ⟨"law", defArgs (top 92), defBody (top 92), defScope (top 92), ["script", "k", "source"], ["script"], f_law, false⟩
def ds : List Df := [d_is_number, d_is_tuple, d_are_signs, d_is_good_bridge, d_is_good_walker, d_need_bridge, d_need_walker, d_need_n, d_need_both, d_need_all, d_round_about, d_turned, d_shortest_early, d_lowered, d_raised, d_part_of, d_differs, d_is_count, d_rising, d_plain, d_come_round, d_told_by, d_is_long, d_strides_from, d_landing, d_waiting, d_reaches, d_spots_behind, d_spots_after, d_gets_over, d_no_height, d_truths_for, d_crosses_so, d_crosses, d_cross_calendar, d_couples_of, d_couples_after, d_both_over, d_passes_for, d_pass_calendar, d_least_pairs, d_costs_behind, d_costs_after, d_least_over, d_shape_of, d_cost_calendar, d_begin, d_lot_behind, d_lots_behind, d_lots_after, d_stopped, d_least_stop, d_falls_for, d_fall_calendar, d_differs_so, d_first_row, d_need_two, d_first_worse, d_parting, d_mend_price, d_mends_for, d_mend_calendar, d_stride_price, d_strides_for, d_stride_calendar, d_law_source, d_law_draw, d_law_steps_right, d_law_tired_right, d_law_turned_right, d_law_rotten_right, d_law]
def lms : List Lm := [⟨["walker", "bridge"], ["spots"], m_0⟩, ⟨["walkers", "bridge"], ["couples"], m_1⟩, ⟨["walker", "price", "bridge"], ["pairs"], m_2⟩, ⟨["one", "bridge"], ["pairs"], m_3⟩]
def cs : List (Str × Vl) := [("START_crossing", .d (.tup [(.tup [(.int 1), (.bl false)])])), ("no_height", .fn 30), ("START_passing", .d (.tup [(.tup [(.tup [(.int 1), (.bl false)]), (.tup [(.int 1), (.bl false)])])])), ("BEGIN", .d (.tup [(.tup [(.tup [(.int 1), (.bl false)]), (.int 0)])])), ("shape_of", .fn 44), ("ENOUGH", .d (.int 4)), ("mend_price", .fn 59), ("stride_price", .fn 62)]
theorem k_is_number : DfOk (nmOf ds lms cs) d_is_number := ⟨by decide +kernel, fun _ _ _ _ _ _ us hl => match us, hl with | [_, _, _], _ => rfl⟩
theorem k_is_tuple : DfOk (nmOf ds lms cs) d_is_tuple := ⟨by decide +kernel, fun _ _ _ _ _ _ us hl => match us, hl with | [_, _, _], _ => rfl⟩
theorem k_are_signs : DfOk (nmOf ds lms cs) d_are_signs := ⟨by decide +kernel, fun _ _ _ _ _ _ us hl => match us, hl with | [_, _, _], _ => rfl⟩
theorem k_is_good_bridge : DfOk (nmOf ds lms cs) d_is_good_bridge := ⟨by decide +kernel, fun _ _ _ _ _ _ us hl => match us, hl with | [_], _ => rfl⟩
theorem k_is_good_walker : DfOk (nmOf ds lms cs) d_is_good_walker := ⟨by decide +kernel, fun _ _ _ _ _ _ us hl => match us, hl with | [_], _ => rfl⟩
theorem k_need_bridge : DfOk (nmOf ds lms cs) d_need_bridge := ⟨by decide +kernel, fun _ _ _ _ _ _ us hl => match us, hl with | [_], _ => rfl⟩
theorem k_need_walker : DfOk (nmOf ds lms cs) d_need_walker := ⟨by decide +kernel, fun _ _ _ _ _ _ us hl => match us, hl with | [_], _ => rfl⟩
theorem k_need_n : DfOk (nmOf ds lms cs) d_need_n := ⟨by decide +kernel, fun _ _ _ _ _ _ us hl => match us, hl with | [_, _], _ => rfl⟩
theorem k_need_both : DfOk (nmOf ds lms cs) d_need_both := ⟨by decide +kernel, fun _ _ _ _ _ _ us hl => match us, hl with | [_, _], _ => rfl⟩
theorem k_need_all : DfOk (nmOf ds lms cs) d_need_all := ⟨by decide +kernel, fun _ _ _ _ _ _ us hl => match us, hl with | [_, _, _, _], _ => rfl⟩
theorem k_round_about : DfOk (nmOf ds lms cs) d_round_about := ⟨by decide +kernel, fun _ _ _ _ _ _ us hl => match us, hl with | [_], _ => rfl⟩
theorem k_turned : DfOk (nmOf ds lms cs) d_turned := ⟨by decide +kernel, fun _ _ _ _ _ _ us hl => match us, hl with | [_], _ => rfl⟩
theorem k_shortest_early : DfOk (nmOf ds lms cs) d_shortest_early := ⟨by decide +kernel, fun _ _ _ _ _ _ us hl => match us, hl with | [_, _, _], _ => rfl⟩
theorem k_lowered : DfOk (nmOf ds lms cs) d_lowered := ⟨by decide +kernel, fun _ _ _ _ _ _ us hl => match us, hl with | [_, _], _ => rfl⟩
theorem k_raised : DfOk (nmOf ds lms cs) d_raised := ⟨by decide +kernel, fun _ _ _ _ _ _ us hl => match us, hl with | [_, _], _ => rfl⟩
theorem k_part_of : DfOk (nmOf ds lms cs) d_part_of := ⟨by decide +kernel, fun _ _ _ _ _ _ us hl => match us, hl with | [_, _, _], _ => rfl⟩
theorem k_differs : DfOk (nmOf ds lms cs) d_differs := ⟨by decide +kernel, fun _ _ _ _ _ _ us hl => match us, hl with | [_, _, _], _ => rfl⟩
theorem k_is_count : DfOk (nmOf ds lms cs) d_is_count := ⟨by decide +kernel, fun _ _ _ _ _ _ us hl => match us, hl with | [_], _ => rfl⟩
theorem k_rising : DfOk (nmOf ds lms cs) d_rising := ⟨by decide +kernel, fun _ _ _ _ _ _ us hl => match us, hl with | [_, _, _], _ => rfl⟩
theorem k_plain : DfOk (nmOf ds lms cs) d_plain := ⟨by decide +kernel, fun _ _ _ _ _ _ us hl => match us, hl with | [_, _], _ => rfl⟩
theorem k_come_round : DfOk (nmOf ds lms cs) d_come_round := ⟨by decide +kernel, fun _ _ _ _ _ _ us hl => match us, hl with | [_, _, _], _ => rfl⟩
theorem k_told_by : DfOk (nmOf ds lms cs) d_told_by := ⟨by decide +kernel, fun _ _ _ _ _ _ us hl => match us, hl with | [_, _], _ => rfl⟩
theorem k_is_long : DfOk (nmOf ds lms cs) d_is_long := ⟨by decide +kernel, fun _ _ _ _ _ _ us hl => match us, hl with | [_, _], _ => rfl⟩
theorem k_strides_from : DfOk (nmOf ds lms cs) d_strides_from := ⟨by decide +kernel, fun _ _ _ _ _ _ us hl => match us, hl with | [_, _], _ => rfl⟩
theorem k_landing : DfOk (nmOf ds lms cs) d_landing := ⟨by decide +kernel, fun _ _ _ _ _ _ us hl => match us, hl with | [_, _], _ => rfl⟩
theorem k_waiting : DfOk (nmOf ds lms cs) d_waiting := ⟨by decide +kernel, fun _ _ _ _ _ _ us hl => match us, hl with | [_], _ => rfl⟩
theorem k_reaches : DfOk (nmOf ds lms cs) d_reaches := ⟨by decide +kernel, fun _ _ _ _ _ _ us hl => match us, hl with | [_, _], _ => rfl⟩
theorem k_spots_behind : DfOk (nmOf ds lms cs) d_spots_behind := ⟨by decide +kernel, fun _ _ _ _ _ _ us hl => match us, hl with | [_, _, _], _ => rfl⟩
theorem k_spots_after : DfOk (nmOf ds lms cs) d_spots_after := ⟨by decide +kernel, fun _ _ _ _ _ _ us hl => match us, hl with | [_, _, _], _ => rfl⟩
theorem k_gets_over : DfOk (nmOf ds lms cs) d_gets_over := ⟨by decide +kernel, fun _ _ _ _ _ _ us hl => match us, hl with | [_, _], _ => rfl⟩
theorem k_no_height : DfOk (nmOf ds lms cs) d_no_height := ⟨by decide +kernel, fun _ _ _ _ _ _ us hl => match us, hl with | [_], _ => rfl⟩
theorem k_truths_for : DfOk (nmOf ds lms cs) d_truths_for := ⟨by decide +kernel, fun _ _ _ _ _ _ us hl => match us, hl with | [_, _], _ => rfl⟩
theorem k_crosses_so : DfOk (nmOf ds lms cs) d_crosses_so := ⟨by decide +kernel, fun _ _ _ _ _ _ us hl => match us, hl with | [_, _, _], _ => rfl⟩
theorem k_crosses : DfOk (nmOf ds lms cs) d_crosses := ⟨by decide +kernel, fun _ _ _ _ _ _ us hl => match us, hl with | [_, _, _], _ => rfl⟩
theorem k_cross_calendar : DfOk (nmOf ds lms cs) d_cross_calendar := ⟨by decide +kernel, fun _ _ _ _ _ _ us hl => match us, hl with | [_, _], _ => rfl⟩
theorem k_couples_of : DfOk (nmOf ds lms cs) d_couples_of := ⟨by decide +kernel, fun _ _ _ _ _ _ us hl => match us, hl with | [_, _, _], _ => rfl⟩
theorem k_couples_after : DfOk (nmOf ds lms cs) d_couples_after := ⟨by decide +kernel, fun _ _ _ _ _ _ us hl => match us, hl with | [_, _, _], _ => rfl⟩
theorem k_both_over : DfOk (nmOf ds lms cs) d_both_over := ⟨by decide +kernel, fun _ _ _ _ _ _ us hl => match us, hl with | [_, _], _ => rfl⟩
theorem k_passes_for : DfOk (nmOf ds lms cs) d_passes_for := ⟨by decide +kernel, fun _ _ _ _ _ _ us hl => match us, hl with | [_, _], _ => rfl⟩
theorem k_pass_calendar : DfOk (nmOf ds lms cs) d_pass_calendar := ⟨by decide +kernel, fun _ _ _ _ _ _ us hl => match us, hl with | [_, _, _], _ => rfl⟩
theorem k_least_pairs : DfOk (nmOf ds lms cs) d_least_pairs := ⟨by decide +kernel, fun _ _ _ _ _ _ us hl => match us, hl with | [_], _ => rfl⟩
theorem k_costs_behind : DfOk (nmOf ds lms cs) d_costs_behind := ⟨by decide +kernel, fun _ _ _ _ _ _ us hl => match us, hl with | [_, _, _, _], _ => rfl⟩
theorem k_costs_after : DfOk (nmOf ds lms cs) d_costs_after := ⟨by decide +kernel, fun _ _ _ _ _ _ us hl => match us, hl with | [_, _, _, _], _ => rfl⟩
theorem k_least_over : DfOk (nmOf ds lms cs) d_least_over := ⟨by decide +kernel, fun _ _ _ _ _ _ us hl => match us, hl with | [_, _], _ => rfl⟩
theorem k_shape_of : DfOk (nmOf ds lms cs) d_shape_of := ⟨by decide +kernel, fun _ _ _ _ _ _ us hl => match us, hl with | [_], _ => rfl⟩
theorem k_cost_calendar : DfOk (nmOf ds lms cs) d_cost_calendar := ⟨by decide +kernel, fun _ _ _ _ _ _ us hl => match us, hl with | [_, _, _, _], _ => rfl⟩
theorem k_begin : DfOk (nmOf ds lms cs) d_begin := ⟨by decide +kernel, fun _ _ _ _ _ _ us hl => match us, hl with | [_], _ => rfl⟩
theorem k_lot_behind : DfOk (nmOf ds lms cs) d_lot_behind := ⟨by decide +kernel, fun _ _ _ _ _ _ us hl => match us, hl with | [_, _, _], _ => rfl⟩
theorem k_lots_behind : DfOk (nmOf ds lms cs) d_lots_behind := ⟨by decide +kernel, fun _ _ _ _ _ _ us hl => match us, hl with | [_, _, _], _ => rfl⟩
theorem k_lots_after : DfOk (nmOf ds lms cs) d_lots_after := ⟨by decide +kernel, fun _ _ _ _ _ _ us hl => match us, hl with | [_, _, _], _ => rfl⟩
theorem k_stopped : DfOk (nmOf ds lms cs) d_stopped := ⟨by decide +kernel, fun _ _ _ _ _ _ us hl => match us, hl with | [_, _], _ => rfl⟩
theorem k_least_stop : DfOk (nmOf ds lms cs) d_least_stop := ⟨by decide +kernel, fun _ _ _ _ _ _ us hl => match us, hl with | [_, _], _ => rfl⟩
theorem k_falls_for : DfOk (nmOf ds lms cs) d_falls_for := ⟨by decide +kernel, fun _ _ _ _ _ _ us hl => match us, hl with | [_, _], _ => rfl⟩
theorem k_fall_calendar : DfOk (nmOf ds lms cs) d_fall_calendar := ⟨by decide +kernel, fun _ _ _ _ _ _ us hl => match us, hl with | [_, _], _ => rfl⟩
theorem k_differs_so : DfOk (nmOf ds lms cs) d_differs_so := ⟨by decide +kernel, fun _ _ _ _ _ _ us hl => match us, hl with | [_, _, _], _ => rfl⟩
theorem k_first_row : DfOk (nmOf ds lms cs) d_first_row := ⟨by decide +kernel, fun _ _ _ _ _ _ us hl => match us, hl with | [_, _], _ => rfl⟩
theorem k_need_two : DfOk (nmOf ds lms cs) d_need_two := ⟨by decide +kernel, fun _ _ _ _ _ _ us hl => match us, hl with | [_, _], _ => rfl⟩
theorem k_first_worse : DfOk (nmOf ds lms cs) d_first_worse := ⟨by decide +kernel, fun _ _ _ _ _ _ us hl => match us, hl with | [_, _], _ => rfl⟩
theorem k_parting : DfOk (nmOf ds lms cs) d_parting := ⟨by decide +kernel, fun _ _ _ _ _ _ us hl => match us, hl with | [_, _], _ => rfl⟩
theorem k_mend_price : DfOk (nmOf ds lms cs) d_mend_price := ⟨by decide +kernel, fun _ _ _ _ _ _ us hl => match us, hl with | [_], _ => rfl⟩
theorem k_mends_for : DfOk (nmOf ds lms cs) d_mends_for := ⟨by decide +kernel, fun _ _ _ _ _ _ us hl => match us, hl with | [_, _], _ => rfl⟩
theorem k_mend_calendar : DfOk (nmOf ds lms cs) d_mend_calendar := ⟨by decide +kernel, fun _ _ _ _ _ _ us hl => match us, hl with | [_, _], _ => rfl⟩
theorem k_stride_price : DfOk (nmOf ds lms cs) d_stride_price := ⟨by decide +kernel, fun _ _ _ _ _ _ us hl => match us, hl with | [_], _ => rfl⟩
theorem k_strides_for : DfOk (nmOf ds lms cs) d_strides_for := ⟨by decide +kernel, fun _ _ _ _ _ _ us hl => match us, hl with | [_, _], _ => rfl⟩
theorem k_stride_calendar : DfOk (nmOf ds lms cs) d_stride_calendar := ⟨by decide +kernel, fun _ _ _ _ _ _ us hl => match us, hl with | [_, _], _ => rfl⟩
theorem k_law_source : DfOk (nmOf ds lms cs) d_law_source := ⟨by decide +kernel, fun _ _ _ _ _ _ us hl => match us, hl with | [_, _], _ => rfl⟩
theorem k_law_draw : DfOk (nmOf ds lms cs) d_law_draw := ⟨by decide +kernel, fun _ _ _ _ _ _ us hl => match us, hl with | [_, _], _ => rfl⟩
theorem k_law_steps_right : DfOk (nmOf ds lms cs) d_law_steps_right := ⟨by decide +kernel, fun _ _ _ _ _ _ us hl => match us, hl with | [_], _ => rfl⟩
theorem k_law_tired_right : DfOk (nmOf ds lms cs) d_law_tired_right := ⟨by decide +kernel, fun _ _ _ _ _ _ us hl => match us, hl with | [_], _ => rfl⟩
theorem k_law_turned_right : DfOk (nmOf ds lms cs) d_law_turned_right := ⟨by decide +kernel, fun _ _ _ _ _ _ us hl => match us, hl with | [], _ => rfl⟩
theorem k_law_rotten_right : DfOk (nmOf ds lms cs) d_law_rotten_right := ⟨by decide +kernel, fun _ _ _ _ _ _ us hl => match us, hl with | [_], _ => rfl⟩
theorem k_law : DfOk (nmOf ds lms cs) d_law := ⟨by decide +kernel, fun _ _ _ _ _ _ us hl => match us, hl with | [_], _ => rfl⟩
theorem ds_ok : ∀ d ∈ ds, DfOk (nmOf ds lms cs) d := by
  intro d hd
  simp only [ds, List.mem_cons, List.not_mem_nil, or_false] at hd
  rcases hd with rfl | rfl | rfl | rfl | rfl | rfl | rfl | rfl | rfl | rfl | rfl | rfl | rfl | rfl | rfl | rfl | rfl | rfl | rfl | rfl | rfl | rfl | rfl | rfl | rfl | rfl | rfl | rfl | rfl | rfl | rfl | rfl | rfl | rfl | rfl | rfl | rfl | rfl | rfl | rfl | rfl | rfl | rfl | rfl | rfl | rfl | rfl | rfl | rfl | rfl | rfl | rfl | rfl | rfl | rfl | rfl | rfl | rfl | rfl | rfl | rfl | rfl | rfl | rfl | rfl | rfl | rfl | rfl | rfl | rfl | rfl | rfl
  · exact k_is_number
  · exact k_is_tuple
  · exact k_are_signs
  · exact k_is_good_bridge
  · exact k_is_good_walker
  · exact k_need_bridge
  · exact k_need_walker
  · exact k_need_n
  · exact k_need_both
  · exact k_need_all
  · exact k_round_about
  · exact k_turned
  · exact k_shortest_early
  · exact k_lowered
  · exact k_raised
  · exact k_part_of
  · exact k_differs
  · exact k_is_count
  · exact k_rising
  · exact k_plain
  · exact k_come_round
  · exact k_told_by
  · exact k_is_long
  · exact k_strides_from
  · exact k_landing
  · exact k_waiting
  · exact k_reaches
  · exact k_spots_behind
  · exact k_spots_after
  · exact k_gets_over
  · exact k_no_height
  · exact k_truths_for
  · exact k_crosses_so
  · exact k_crosses
  · exact k_cross_calendar
  · exact k_couples_of
  · exact k_couples_after
  · exact k_both_over
  · exact k_passes_for
  · exact k_pass_calendar
  · exact k_least_pairs
  · exact k_costs_behind
  · exact k_costs_after
  · exact k_least_over
  · exact k_shape_of
  · exact k_cost_calendar
  · exact k_begin
  · exact k_lot_behind
  · exact k_lots_behind
  · exact k_lots_after
  · exact k_stopped
  · exact k_least_stop
  · exact k_falls_for
  · exact k_fall_calendar
  · exact k_differs_so
  · exact k_first_row
  · exact k_need_two
  · exact k_first_worse
  · exact k_parting
  · exact k_mend_price
  · exact k_mends_for
  · exact k_mend_calendar
  · exact k_stride_price
  · exact k_strides_for
  · exact k_stride_calendar
  · exact k_law_source
  · exact k_law_draw
  · exact k_law_steps_right
  · exact k_law_tired_right
  · exact k_law_turned_right
  · exact k_law_rotten_right
  · exact k_law
abbrev fn : List He.DefD := ds.map Df.D
abbrev R : PySem.W.OpenRow := PySem.W.OpenLaw.row rowL
abbrev hk : PySem.W.Hook := He.hookX 4 (faOf ds) fn [] (tfOf ds) (exOf ds cs)
def ob (s : PySem.W.SharedT) : He.AlX := He.obsX 4 (faOf ds) fn [] (tfOf ds) (exOf ds cs) (HandSHeadRun.getT s)
theorem ob_eq (s : PySem.W.SharedT) : ob s = hk.obs s.abs := He.obsX_eq (HandSHeadRun.getT_eq s)
def loose : List Str := [("PlankError" : Str), ("InvalidBridge" : Str), ("InvalidWalker" : Str), ("InvalidNumber" : Str), ("is_number" : Str), ("is_tuple" : Str), ("are_signs" : Str), ("is_good_bridge" : Str), ("is_good_walker" : Str), ("need_bridge" : Str), ("need_walker" : Str), ("need_n" : Str), ("need_both" : Str), ("need_all" : Str), ("round_about" : Str), ("turned" : Str), ("shortest_early" : Str), ("lowered" : Str), ("raised" : Str), ("part_of" : Str), ("differs" : Str), ("is_count" : Str), ("rising" : Str), ("plain" : Str), ("come_round" : Str), ("told_by" : Str), ("FIRST" : Str), ("is_long" : Str), ("strides_from" : Str), ("landing" : Str), ("waiting" : Str), ("reaches" : Str), ("START_crossing" : Str), ("spots_behind" : Str), ("spots_after" : Str), ("gets_over" : Str), ("no_height" : Str), ("truths_for" : Str), ("crosses_so" : Str), ("crosses" : Str), ("cross_calendar" : Str), ("START_passing" : Str), ("couples_of" : Str), ("couples_after" : Str), ("both_over" : Str), ("passes_for" : Str), ("pass_calendar" : Str), ("BEGIN" : Str), ("least_pairs" : Str), ("costs_behind" : Str), ("costs_after" : Str), ("least_over" : Str), ("shape_of" : Str), ("cost_calendar" : Str), ("ENOUGH" : Str), ("begin" : Str), ("lot_behind" : Str), ("lots_behind" : Str), ("lots_after" : Str), ("stopped" : Str), ("least_stop" : Str), ("falls_for" : Str), ("fall_calendar" : Str), ("differs_so" : Str), ("first_row" : Str), ("need_two" : Str), ("first_worse" : Str), ("parting" : Str), ("mend_price" : Str), ("mends_for" : Str), ("mend_calendar" : Str), ("stride_price" : Str), ("strides_for" : Str), ("stride_calendar" : Str), ("_law_source" : Str), ("_law_draw" : Str), ("_law_steps_right" : Str), ("_law_tired_right" : Str), ("_law_turned_right" : Str), ("_law_rotten_right" : Str)]
theorem run (w : World) : HandSHeadRun.RunEq R (PySem.W.view R.prog [92]) hk ob 12000 loose w := by
  intro os
  kernel_rfl
end Law
open PySem PySem.W PySem.Calls PyProof.Rows
theorem PySem.Challenge.cw_gapplanks_k19_whole_known_mistakes_holds : PySem.Challenge.rw_gapplanks_k19_whole_known_mistakes.Holds := by
  w_on; o_law
  refine HandSHeadRun.head_any (r := Law.R) (q := view Law.R.prog [92]) (H := Law.hk) (ob := Law.ob) (M := 12000) (loose := Law.loose) (d := HandSHeadRun.topDef Law.R.prog 92) (kwd := []) Law.ob_eq
    (by kernel_rfl) (fun s => by kernel_rfl) Law.run (by kernel_rfl) (by kernel_rfl) (by kernel_rfl) (by rfl) (by first | assumption | decide +kernel) (by decide +kernel) ⟨rfl, rfl, rfl, rfl, rfl, by decide +kernel⟩ ?hw ?hc
  case hw => w_witness2
  case hc =>
    refine LamX.walk_ofTsE (l := Law.rowL) (n := 63) (k := Law.deep + 1) (x := "script") (CX := fun w => L2.CX Law.rowL.prog w) (by rfl) (by decide) (by kernel_rfl) ⟨rfl, by decide, by decide⟩ ?F ?hCX
    · intro w mg fa h Y G hmg0
      obtain ⟨K, KX, c⟩ := Y
      have hmg : mg ("law" : PySem.Str) = some (.ref fa) := by
        have e : (HandSHeadRun.topDef Law.R.prog 92).name = ("law" : PySem.Str) := by kernel_rfl
        rw [← e]
        exact hmg0
      exact ⟨K, KX, EvS.law_at (d := Law.d_law) (g := 71) KX G c Law.ds_ok rfl rfl hmg (by decide) fun ns hl _ => Law.data ns hl⟩
    · rintro w H s e s' ⟨_, _, _, _, _, _, _, _, _, _, _, _, z⟩
      exact z
