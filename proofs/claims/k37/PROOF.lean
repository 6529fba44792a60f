import PyProof.Rows.All
import HandS.ForExc
import HandS.Comp
import HandS.Dict
import HandS.Iter
import HandS.Wide
import HandS.Deep
import HandS.SortInts
import HandS.IsInst
import HandS.TupAny
import HandS.More
import HandS.SortRule
import HandS.NamedTupSort
import HandS.TupMul
import HandS.Text
import HandS.WordsExc
import HandS.ExcOwn
import HandS.Conv
import KE.GoesZip
import KE.GoesMore
import KE.GoesEnum
import HandS.Style
import HandS.TryOnly
import HandS.Defaults
import HandS.HeadEnd
import HandS.HeadHook1
import HandS.HeadHook2
import KE.KStateDown
import HandS.Ends
import HandS.Head0
import HandS.Head1
import HandS.Head2
import PySem.Challenge.RW_duskgates_k37_tariffs_and_beds
set_option Elab.async false
set_option linter.all false
/-! RxA: a small language over plain data: values, slots, terms, and what they compute. -/
namespace Rx
open PySem L2

/-- plain data. frl: a list that stands outside (the script) -/
inductive D where
  | non | bl (b : Bool) | int (i : Int) | str (x : Str) | tup (xs : List D) | lst (xs : List D) | frl (xs : List D)
  | dk (ks : List Key) (vs : List D) | dt (ks : List (List Key)) (vs : List D)

/-- a slot: a value that may be shared; an own object; a parameter's object (mutable, the caller's); one that was shared; one that is locked -/
inductive Sl where
  | val (d : D) | own (d : D) | ref (d : D) | rfz (d : D) | lck (b : Bool) (d : D)
abbrev En := List (Option Sl)
def Sl.d : Sl → D
  | .val d => d | .own d => d | .ref d => d | .rfz d => d | .lck _ d => d

/-- the largest length -/
abbrev SZ : Nat := 16777216

/-! ### results -/
inductive ER where
  | ok (o : Bool) (d : D) (E : En) | ex (c : Str) (E : En) | bad
def ER.bind (r : ER) (f : Bool → D → En → ER) : ER := match r with
  | .ok o d E => f o d E
  | .ex c E => .ex c E
  | .bad => .bad
/-- a call's result: the value, the parameters' last states -/
inductive CR where
  | ok (o : Bool) (d : D) (ps : En) | ex (c : Str) (ps : En) | bad
inductive Out where
  | nx (E : En) | bk (E : En) | ct (E : En) | rt (o : Bool) (d : D) (E : En) | ex (c : Str) (E : En) | bad
def Out.then (r : Out) (f : En → Out) : Out := match r with
  | .nx E => f E
  | .bk E => .bk E
  | .ct E => .ct E
  | .rt o d E => .rt o d E
  | .ex c E => .ex c E
  | .bad => .bad
/-- a target's end -/
def Out.only : Out → Out
  | .nx E => .nx E
  | .ex c E => .ex c E
  | _ => .bad
def ER.out (r : ER) (f : Bool → D → En → Out) : Out := match r with
  | .ok o d E => f o d E
  | .ex c E => .ex c E
  | .bad => .bad

/-! ### names and operations -/
inductive P1 where
  | len | tupleOf | listOf | sum | max1 | min1 | abs | int | bool | all | any | sorted | neg
  deriving DecidableEq
inductive P2 where
  | add | sub | mul | mod | fdiv | max2 | min2 | item
  deriving DecidableEq
inductive Cp where
  | eq | ne | lt | le | gt | ge | isin | notin | is | isnot
  deriving DecidableEq
/-- methods that change a list at a slot, with its arguments -/
inductive M1 where
  | append | pop0 | popAt | extend | insert
  deriving DecidableEq

mutual
inductive Tm where
  | cst (d : D)
  | var (i : Nat)
  | glob (j : Nat)
  | no
  | rng (a b : Tm)
  | idx (i : Nat) (a : Tm)
  | p1 (p : P1) (a : Tm)
  | p2 (p : P2) (a b : Tm)
  | cmp (c : Cp) (a b : Tm)
  | chain (c c' : Cp) (a b e : Tm)
  | and (a b : Tm)
  | or (a b : Tm)
  | one (a : Tm)
  | not (a : Tm)
  | ifx (c a b : Tm)
  | tup (ts : Tms)
  | lst (ts : Tms)
  | dict0 (t : Bool)
  | slice (a : Tm) (lo hi : Bd)
  | isinst (a : Tm) (ty : String)
  | call (f : Nat) (ts : Tms)
  | meth (m : M1) (i : Nat) (ts : Tms)
  | lc (e : Tm) (g : Tg) (it : It) (c : Option Tm) (vs : List Nat)
  | lcd (e : Tm) (g : Tg) (i : Nat) (itm : Bool) (c : Option Tm) (vs : List Nat)
inductive Tms where
  | nil | cons (t : Tm) (r : Tms)
/-- a slice's border -/
inductive Bd where
  | no | at (t : Tm)
/-- what is walked -/
inductive It where
  | seq (a : Tm) | range1 (a : Tm) | range2 (a b : Tm) | enum (a : Tm) | zip (a b : Tm)
/-- a target -/
inductive Tg where
  | nm (i : Nat) | tup (gs : Tgs) | sub (i : Nat) (ix : Tm)
inductive Tgs where
  | nil | cons (g : Tg) (r : Tgs)
end
mutual
inductive St where
  | asg (g : Tg) (a : Tm)
  | par (gs : Tgs) (ts : Tms)
  | aug (i : Nat) (p : P2) (a : Tm)
  | augs (i : Nat) (ix : Tm) (p : P2) (a : Tm)
  | expr (a : Tm)
  | ite (c : Tm) (a b : Sts)
  | for_ (g : Tg) (it : It) (b : Sts)
  | while_ (c : Tm) (b : Sts)
  | ret (a : Tm)
  | brk | cnt | pass
  | raise (c : Str)
  | try_ (b : Sts) (c : Str) (k : D)
inductive Sts where
  | nil | cons (s : St) (r : Sts)
end

/-! ### operations on data -/
mutual
/-- data that == compares, n deep at most -/
def plain : Nat → D → Bool
  | _, .non => true
  | _, .bl _ => true
  | _, .int _ => true
  | _, .str x => PyData.strOk x
  | 0, .tup _ => false
  | 0, .lst _ => false
  | n + 1, .tup xs => plains n xs
  | n + 1, .lst xs => plains n xs
  | _, _ => false
def plains : Nat → List D → Bool
  | _, [] => true
  | n, x :: xs => plain n x && plains n xs
end
mutual
/-- == of None, bools, ints, texts, lists, tuples -/
def eqv : D → D → Bool
  | .non, .non => true
  | .bl a, .bl b => a == b
  | .bl a, .int j => (if a then 1 else 0) == j
  | .int i, .bl b => i == (if b then 1 else 0)
  | .int i, .int j => i == j
  | .str x, .str y => x == y
  | .tup xs, .tup ys => eqvs xs ys
  | .lst xs, .lst ys => eqvs xs ys
  | _, _ => false
def eqvs : List D → List D → Bool
  | [], [] => true
  | x :: xs, y :: ys => eqv x y && eqvs xs ys
  | _, _ => false
end
/-- how deep data may be -/
abbrev DP : Nat := 40

/-- the place i of a row, from either side -/
def atD (xs : List D) (i : Int) : Option D := if 0 ≤ i then xs[i.toNat]? else if 0 ≤ i + xs.length then xs[(i + xs.length).toNat]? else none
def ixD (n : Nat) (i : Int) : Option Nat := if 0 ≤ i then (if i < n then some i.toNat else none) else if 0 ≤ i + n then some (i + n).toNat else none
/-- a slice's border -/
def clip (n d : Nat) : Option Int → Nat
  | none => d
  | some i => if i < 0 then (i + (n : Int)).toNat else min i.toNat n
def cutD (xs : List D) (lo hi : Option Int) : List D := (xs.drop (clip xs.length 0 lo)).take (clip xs.length xs.length hi - clip xs.length 0 lo)

def isInts : List D → Option (List Int)
  | [] => some []
  | .int i :: r => match isInts r with
    | some l => some (i :: l)
    | none => none
  | _ :: _ => none
/-- tuples of ints -/
def isTups : List D → Option (List (List Int))
  | [] => some []
  | .tup ds :: r => match isInts ds, isTups r with
    | some l, some ls => some (l :: ls)
    | _, _ => none
  | _ :: _ => none
def tupD (ns : List Int) : D := .tup (ns.map .int)
/-- which rows of tuples are sorted -/
def tupsOk (l : List (List Int)) : Bool := decide (l.head? = some []) || l.all fun ns => ns.length == 2
def ltL : List Int → List Int → Bool
  | _, [] => false
  | [], _ :: _ => true
  | x :: xs, y :: ys => if x = y then ltL xs ys else decide (x < y)
def sortTI (l : List (List Int)) : List (List Int) := l.mergeSort fun a b => !ltL b a
def isBls : List D → Option (List Bool)
  | [] => some []
  | .bl i :: r => match isBls r with
    | some l => some (i :: l)
    | none => none
  | _ :: _ => none
def keyOf : D → Option Key
  | .int i => some (.inl i)
  | .str x => some (.inr x)
  | _ => none
def keysOf : List D → Option (List Key)
  | [] => some []
  | d :: r => match keyOf d, keysOf r with
    | some k, some l => some (k :: l)
    | _, _ => none
def ofKey : Key → D
  | .inl i => .int i
  | .inr x => .str x
/-- what stands at a key -/
def dget {κ : Type} [DecidableEq κ] : List κ → List D → κ → Option D
  | k :: ks, v :: vs, x => if k = x then some v else dget ks vs x
  | _, _, _ => none
/-- the values, those at a key replaced -/
def drepl {κ : Type} [DecidableEq κ] : List κ → List D → κ → D → List D
  | k :: ks, v :: vs, x, y => (if k = x then y else v) :: drepl ks vs x y
  | _, _, _, _ => []
/-- the keys and values, one put in -/
def dputK {κ : Type} [DecidableEq κ] (ks : List κ) (x : κ) : List κ := if x ∈ ks then ks else ks ++ [x]
def dputV {κ : Type} [DecidableEq κ] (ks : List κ) (vs : List D) (x : κ) (y : D) : List D := if x ∈ ks then drepl ks vs x y else vs ++ [y]

/-- a truth -/
def truth : D → Option Bool
  | .non => some false
  | .bl b => some b
  | .int i => some (i != 0)
  | .str x => if x.length ≤ SZ then some (x.length != 0) else none
  | .tup xs => some (!xs.isEmpty)
  | .lst xs => some (!xs.isEmpty)
  | .dk ks _ => some (!ks.isEmpty)
  | _ => none

def maxL : Int → List Int → Int
  | m, [] => m
  | m, x :: r => maxL (if m < x then x else m) r
def minL : Int → List Int → Int
  | m, [] => m
  | m, x :: r => minL (if x < m then x else m) r

def pr1 : P1 → D → Option (Bool × D)
  | .len, .tup xs => some (false, .int xs.length)
  | .len, .lst xs => some (false, .int xs.length)
  | .len, .frl xs => some (false, .int xs.length)
  | .len, .str x => if x.length ≤ SZ then some (false, .int x.length) else none
  | .len, .dk ks _ => some (false, .int ks.length)
  | .tupleOf, .tup xs => some (false, .tup xs)
  | .tupleOf, .lst xs => some (false, .tup xs)
  | .listOf, .tup xs => some (true, .lst xs)
  | .listOf, .lst xs => some (true, .lst xs)
  | .sum, .lst xs => match isInts xs with
    | some l => some (false, .int l.sum)
    | none => none
  | .sum, .tup xs => match isInts xs with
    | some l => some (false, .int l.sum)
    | none => none
  | .max1, .lst xs => match isInts xs with
    | some (x :: l) => some (false, .int (maxL x l))
    | _ => none
  | .min1, .lst xs => match isInts xs with
    | some (x :: l) => some (false, .int (minL x l))
    | _ => none
  | .max1, .tup xs => match isInts xs with
    | some (x :: l) => some (false, .int (maxL x l))
    | _ => none
  | .min1, .tup xs => match isInts xs with
    | some (x :: l) => some (false, .int (minL x l))
    | _ => none
  | .abs, .int i => some (false, .int (if i < 0 then -i else i))
  | .int, .int i => some (false, .int i)
  | .int, .bl b => some (false, .int (if b then 1 else 0))
  | .bool, .int i => some (false, .bl (i != 0))
  | .bool, .bl b => some (false, .bl b)
  | .all, .lst xs => match isBls xs with
    | some l => some (false, .bl (l.all id))
    | none => none
  | .any, .lst xs => match isBls xs with
    | some l => some (false, .bl (l.any id))
    | none => none
  | .sorted, .lst xs => match isInts xs with
    | some l => some (true, .lst ((l.mergeSort fun a b => decide (a ≤ b)).map .int))
    | none => (match isTups xs with
      | some l => if tupsOk l then some (true, .lst ((sortTI l).map tupD)) else none
      | none => none)
  | .neg, .int i => some (false, .int (-i))
  | _, _ => none

/-- a tuple that may be a key: none of the text's own -/
def okKey (G : List D) (k : List D) : Bool := !(G.any fun g => eqv g (.tup k))
/-- the largest numbers that are multiplied, divided by -/
def Wd (i : Int) : Prop := i.natAbs < 2 ^ 4000
instance : DecidablePred Wd := fun i => inferInstanceAs (Decidable (i.natAbs < 2 ^ 4000))
def mulOk (i j : Int) : Bool := decide (i.natAbs < 18446744073709551616) || decide (j.natAbs < 18446744073709551616) || (decide (Wd i) && decide (Wd j))

/-- how often a list may be repeated -/
def RepOk (j : Int) (n : Nat) : Prop := -16777216 ≤ j ∧ j < 16777216 ∧ n * j.toNat ≤ SZ
noncomputable instance {j : Int} {n : Nat} : Decidable (RepOk j n) := Classical.propDecidable _
noncomputable def pr2 (G : List D) : P2 → D → D → Option (Bool × D)
  | .add, .int i, .int j => some (false, .int (i + j))
  | .add, .str x, .str y => if x.length + y.length ≤ SZ then some (false, .str (x ++ y)) else none
  | .add, .tup xs, .tup ys => if xs.length + ys.length ≤ SZ then some (false, .tup (xs ++ ys)) else none
  | .add, .lst xs, .lst ys => if xs.length + ys.length ≤ SZ then some (true, .lst (xs ++ ys)) else none
  | .sub, .int i, .int j => some (false, .int (i - j))
  | .mul, .int i, .int j => if mulOk i j then some (false, .int (i * j)) else none
  | .mul, .lst xs, .int j => if RepOk j xs.length then some (true, .lst (List.replicate j.toNat xs).flatten) else none
  | .mod, .int i, .int j => if 0 < j then some (false, .int (i % j)) else none
  | .fdiv, .int i, .int j => if 0 < j ∧ Wd j then some (false, .int (i / j)) else none
  | .max2, .int i, .int j => some (false, .int (if i < j then j else i))
  | .min2, .int i, .int j => some (false, .int (if j < i then j else i))
  | .item, .tup xs, .int i => match atD xs i with
    | some d => some (false, d)
    | none => none
  | .item, .lst xs, .int i => match atD xs i with
    | some d => some (false, d)
    | none => none
  | .item, .dk ks vs, k => match keyOf k with
    | some k => (match dget ks vs k with
      | some d => some (false, d)
      | none => none)
    | none => none
  | .item, .dt ks vs, .tup k => if okKey G k then (match keysOf k with
    | some k => (match dget ks vs k with
      | some d => some (false, d)
      | none => none)
    | none => none) else none
  | .item, .str x, .int i => if x.length ≤ SZ then (match atI x.cps.toList i with
    | some c => some (false, .str ⟨#[c]⟩)
    | none => none) else none
  | _, _, _ => none

def lexL : List Int → List Int → Bool
  | _, [] => false
  | [], _ :: _ => true
  | x :: xs, y :: ys => if x = y then lexL xs ys else decide (x < y)

def flatD : D → Bool
  | .non => true
  | .bl _ => true
  | .int _ => true
  | .str _ => true
  | _ => false
/-- list.index of flat items -/
def ixF : D → D → Option (Bool × D)
  | .lst xs, a => if flatD a && xs.all flatD then (match xs.findIdx? (fun x => eqv x a) with
    | some j => some (false, .int (j : Nat))
    | none => none) else none
  | _, _ => none
/-- a comparison -/
def cmpD (G : List D) : Cp → D → D → Option Bool
  | .eq, a, b => if plain DP a && plain DP b then some (eqv a b) else none
  | .ne, a, b => if plain DP a && plain DP b then some (!eqv a b) else none
  | .lt, .int i, .int j => some (decide (i < j))
  | .le, .int i, .int j => some (decide (i ≤ j))
  | .gt, .int i, .int j => some (decide (j < i))
  | .ge, .int i, .int j => some (decide (j ≤ i))
  | .is, a, .non => some (match a with
    | .non => true
    | _ => false)
  | .isnot, a, .non => some (match a with
    | .non => false
    | _ => true)
  | .isin, a, .lst xs => if plain DP a && plain DP (.lst xs) then some (xs.any fun x => eqv x a) else none
  | .notin, a, .lst xs => if plain DP a && plain DP (.lst xs) then some (!(xs.any fun x => eqv x a)) else none
  | .isin, a, .dk ks vs => match keyOf a with
    | some k => some (dget ks vs k).isSome
    | none => none
  | .notin, a, .dk ks vs => match keyOf a with
    | some k => some (!(dget ks vs k).isSome)
    | none => none
  | .isin, .tup a, .dt ks vs => if okKey G a then (match keysOf a with
    | some k => some (dget ks vs k).isSome
    | none => none) else none
  | .notin, .tup a, .dt ks vs => if okKey G a then (match keysOf a with
    | some k => some (!(dget ks vs k).isSome)
    | none => none) else none
  | .lt, .str x, .str y => some (decide (x.cps.toList < y.cps.toList))
  | .le, .str x, .str y => some (!decide (y.cps.toList < x.cps.toList))
  | .isin, a, .tup xs => if flatD a && xs.all flatD then some (xs.any fun x => eqv x a) else none
  | .notin, a, .tup xs => if flatD a && xs.all flatD then some (!(xs.any fun x => eqv x a)) else none
  | _, _, _ => none

/-- isinstance(d, a built-in class) -/
def isTy : D → String → Option Bool
  | .non, t => if t = "tuple" ∨ t = "list" ∨ t = "int" ∨ t = "bool" ∨ t = "str" then some false else none
  | .bl _, t => if t = "bool" ∨ t = "int" then some true else if t = "tuple" ∨ t = "list" ∨ t = "str" then some false else none
  | .int _, t => if t = "int" then some true else if t = "tuple" ∨ t = "list" ∨ t = "bool" ∨ t = "str" then some false else none
  | .str _, t => if t = "str" then some true else if t = "tuple" ∨ t = "list" ∨ t = "bool" ∨ t = "int" then some false else none
  | .tup _, t => if t = "tuple" then some true else if t = "int" ∨ t = "list" ∨ t = "bool" ∨ t = "str" then some false else none
  | .lst _, t => if t = "list" then some true else if t = "int" ∨ t = "tuple" ∨ t = "bool" ∨ t = "str" then some false else none
  | _, _ => none

/-- a place where an item may be put -/
def InsOk (i : Int) (n : Nat) : Prop := 0 ≤ i ∧ i < 9223372036854775808 ∧ n < SZ
noncomputable instance {i : Int} {n : Nat} : Decidable (InsOk i n) := Classical.propDecidable _
/-- a method that changes the list: its value, the list behind it -/
noncomputable def mth : M1 → List D → List D → Option (D × List D)
  | .append, xs, [d] => if xs.length < SZ then some (.non, xs ++ [d]) else none
  | .pop0, xs, [] => match xs[xs.length - 1]? with
    | some d => some (d, xs.dropLast)
    | none => none
  | .popAt, xs, [.int i] => match ixD xs.length i with
    | some k => (match xs[k]? with
      | some d => some (d, xs.eraseIdx k)
      | none => none)
    | none => none
  | .insert, xs, [.int i, d] => if InsOk i xs.length then some (.non, xs.take i.toNat ++ [d] ++ xs.drop i.toNat) else none
  | .extend, xs, [.lst ys] => if xs.length + ys.length ≤ SZ then some (.non, xs ++ ys) else none
  | _, _, _ => none
/-- o[i] = d -/
def setD (G : List D) : D → D → D → Option D
  | .lst xs, .int i, d => match ixD xs.length i with
    | some k => some (.lst (xs.set k d))
    | none => none
  | .dk ks vs, k, d => match keyOf k with
    | some k => if ks.length < SZ then some (.dk (dputK ks k) (dputV ks vs k d)) else none
    | none => none
  | .dt ks vs, .tup k, d => if okKey G k then match keysOf k with
    | some k => if ks.length < SZ then some (.dt (dputK ks k) (dputV ks vs k d)) else none
    | none => none
    else none
  | _, _, _ => none

/-! ### slots -/
/-- what stands in a slot -/
def gt (E : En) (i : Nat) : Option Sl := match E[i]? with
  | some (some s) => some s
  | _ => none
/-- read to be kept: what is own is shared from then on -/
def take (E : En) (i : Nat) : ER := match gt E i with
  | some (.val d) => .ok false d E
  | some (.own d) => .ok false d (E.set i (some (.val d)))
  | some (.ref d) => .ok false d (E.set i (some (.rfz d)))
  | some (.rfz d) => .ok false d E
  | _ => .bad
/-- changed in place -/
def putS (E : En) (i : Nat) (d : D) : Option En := match gt E i with
  | some (.own _) => some (E.set i (some (.own d)))
  | some (.ref _) => some (E.set i (some (.ref d)))
  | _ => none
def locked (E : En) (i : Nat) : Bool := match gt E i with
  | some (.lck _ _) => true
  | _ => false
/-- a name is stored -/
def storeS (E : En) (i : Nat) (o : Bool) (d : D) : Out := if locked E i then .bad else if i < E.length then .nx (E.set i (some (if o then .own d else .val d))) else .bad
/-- locked for a walk, and back -/
def lockS (E : En) (i : Nat) : En := match gt E i with
  | some (.own d) => E.set i (some (.lck true d))
  | some (.ref d) => E.set i (some (.lck false d))
  | _ => E
def isMut (E : En) (i : Nat) : Bool := match gt E i with
  | some (.own _) => true
  | some (.ref _) => true
  | _ => false
def unlockS (E : En) (i : Nat) : En := match gt E i with
  | some (.lck true d) => E.set i (some (.own d))
  | some (.lck false d) => E.set i (some (.ref d))
  | _ => E
/-- an operand: a name, a value -/
inductive Opd where
  | sl (i : Nat) | dt (d : D)
def fetch (E : En) : Opd → Option D
  | .sl i => (gt E i).map Sl.d
  | .dt d => some d
def opB (v : Option Nat) (r : En → ER) (E : En) (k : Opd → En → ER) : ER := match v with
  | some i => (match gt E i with
    | some _ => k (.sl i) E
    | none => .bad)
  | none => (r E).bind fun _ d E' => k (.dt d) E'
def asVar : Tm → Option Nat
  | .var i => some i
  | _ => none
def fin1 (f : D → Option (Bool × D)) (x : Opd) (E : En) : ER := match fetch E x with
  | some a => (match f a with
    | some r => .ok r.1 r.2 E
    | none => .bad)
  | none => .bad
def fin2 (f : D → D → Option (Bool × D)) (x y : Opd) (E : En) : ER := match fetch E x, fetch E y with
  | some a, some b => (match f a b with
    | some r => .ok r.1 r.2 E
    | none => .bad)
  | _, _ => .bad
def bl? (r : Option Bool) : Option (Bool × D) := r.map fun b => (false, .bl b)
/-- a test's outcome -/
def ER.test (r : ER) (f : Bool → En → ER) : ER := r.bind fun _ d E => match d with
  | .bl b => f b E
  | _ => .bad

/-- arguments: what is handed over; where a mutable came from -/
inductive AR where
  | ok (as : List Sl) (bk : List (Option (Nat × Bool))) (E : En) | ex (c : Str) (E : En) | bad
def AR.bind (r : AR) (f : List Sl → List (Option (Nat × Bool)) → En → AR) : AR := match r with
  | .ok a b E => f a b E
  | .ex c E => .ex c E
  | .bad => .bad
def argV (E : En) (i : Nat) (k : En → AR) : AR := match gt E i with
  | some (.val d) => (k E).bind fun as bk E' => .ok (.val d :: as) (none :: bk) E'
  | some (.rfz d) => (k E).bind fun as bk E' => .ok (.val d :: as) (none :: bk) E'
  | some (.own d) => (k (E.set i none)).bind fun as bk E' => .ok (.ref d :: as) (some (i, true) :: bk) E'
  | some (.ref d) => (k (E.set i none)).bind fun as bk E' => .ok (.ref d :: as) (some (i, false) :: bk) E'
  | _ => .bad
def argD (r : ER) (k : En → AR) : AR := match r with
  | .ok _ d E => (k E).bind fun as bk E' => .ok (.val d :: as) (none :: bk) E'
  | .ex c E => .ex c E
  | .bad => .bad
/-- the parameters' states back into the slots -/
def back : List (Option (Nat × Bool)) → En → En → En
  | some (i, o) :: bk, p :: ps, E => back bk ps (E.set i (match p with
    | some (.ref d) => some (if o then .own d else .ref d)
    | some (.rfz d) => some (if o then .val d else .rfz d)
    | _ => none))
  | none :: bk, _ :: ps, E => back bk ps E
  | _, _, E => E
def AR.call (r : AR) (F : List Sl → CR) : ER := match r with
  | .ok as bk E => (match F as with
    | .ok o d ps => .ok o d (back bk ps E)
    | .ex c ps => .ex c (back bk ps E)
    | .bad => .bad)
  | .ex c E => .ex c E
  | .bad => .bad

/-- rows of data, walked -/
def rows : D → Option (List D)
  | .tup xs => some xs
  | .lst xs => some xs
  | .frl xs => some xs
  | _ => none
def rangeD (a b : Int) : List D := (List.range (b - a).toNat).map fun i => .int (a + (i : Nat))
def enumD (xs : List D) : List D := (xs.zipIdx).map fun p => .tup [.int (p.2 : Nat), p.1]
def zipD (xs ys : List D) : List D := (xs.zip ys).map fun p => .tup [p.1, p.2]
def itemsD (ks : List Key) (ds : List D) : List D := (ks.zip ds).map fun p => .tup [ofKey p.1, p.2]
/-- a walk: its items, the slots that are locked -/
inductive IR where
  | ok (xs : List D) (lk : List Nat) (E : En) | ex (c : Str) (E : En) | bad
def isLst : Option Sl → Bool
  | some s => (match s.d with
    | .lst _ => true
    | _ => false)
  | none => false
/-- an operand's slot is locked -/
def lockO (x : Opd) (E : En) (k : D → List Nat → En → IR) : IR := match x with
  | .sl i => (match gt E i with
    | some s => if isMut E i then (if isLst (some s) then k s.d [i] (lockS E i) else .bad) else k s.d [] E
    | none => .bad)
  | .dt d => k d [] E
/-- an operand, nothing raised -/
def opBI (v : Option Nat) (r : En → ER) (E : En) (k : Opd → En → IR) : IR := match v with
  | some i => (match gt E i with
    | some _ => k (.sl i) E
    | none => .bad)
  | none => (match r E with
    | .ok _ d E' => k (.dt d) E'
    | _ => .bad)
/-- nothing may be raised -/
def IR.calm : IR → IR
  | .ok xs lk E => .ok xs lk E
  | _ => .bad
def opI (v : Option Nat) (r : En → ER) (E : En) (k : D → List Nat → En → IR) : IR := match v with
  | some i => (match gt E i with
    | some s => if isMut E i then (if isLst (some s) then k s.d [i] (lockS E i) else .bad) else k s.d [] E
    | none => .bad)
  | none => (match r E with
    | .ok _ d E' => k d [] E'
    | .ex c E' => .ex c E'
    | .bad => .bad)
def opN (r : ER) (k : D → En → IR) : IR := match r with
  | .ok _ d E' => k d E'
  | .ex c E' => .ex c E'
  | .bad => .bad
/-- small enough for a range -/
def rgOk (a b : Int) : Bool := decide (-16777216 ≤ a) && decide (a ≤ 16777216) && decide (-16777216 ≤ b) && decide (b ≤ 16777216) && decide (b - a ≤ 16777216)
def unlockAll : List Nat → En → En
  | [], E => E
  | i :: r, E => unlockAll r (unlockS E i)
def Out.map (f : En → En) : Out → Out
  | .nx E => .nx (f E)
  | .bk E => .bk (f E)
  | .ct E => .ct (f E)
  | .rt o d E => .rt o d (f E)
  | .ex c E => .ex c (f E)
  | .bad => .bad

def wipeE (E : En) : List Nat → En
  | [] => E
  | v :: vs => (wipeE E vs).set v none
/-- a comprehension's loop: the list so far; its own names are forgotten ahead of each turn -/
def compL (vs : List Nat) (tg : D → En → Out) (c : En → ER) (e : En → ER) : List D → List D → En → ER
  | [], acc, E => .ok true (.lst acc) (wipeE E vs)
  | x :: xs, acc, E => match tg x (wipeE E vs) with
    | .nx E1 => (match c E1 with
      | .ok _ (.bl true) E2 => (match e E2 with
        | .ok _ d E3 => if acc.length < SZ then compL vs tg c e xs (acc ++ [d]) E3 else .bad
        | _ => .bad)
      | .ok _ (.bl false) E2 => compL vs tg c e xs acc E2
      | _ => .bad)
    | _ => .bad
/-- the block's own slots as they stood ahead -/
def restE (E0 : En) : List Nat → En → En
  | [], E => E
  | v :: vs, E => (restE E0 vs E).set v (E0[v]?.getD none)
def calmE (E : En) (vs : List Nat) : Bool := vs.all fun v => match gt E v with
  | none => true
  | some (.val _) => true
  | _ => false
def IR.comp (r : IR) (vs : List Nat) (lp : List D → En → ER) : ER := match r with
  | .ok xs lk E => if calmE E vs then (match lp xs E with
    | .ok o d E' => .ok o d (unlockAll lk (restE E vs E'))
    | _ => .bad) else .bad
  | .ex c E => .ex c E
  | .bad => .bad
def IR.for_ (r : IR) (lp : List D → En → Out) : Out := match r with
  | .ok xs lk E => (lp xs E).map (unlockAll lk)
  | .ex c E => .ex c E
  | .bad => .bad
/-- what is walked: keys, items -/
def rowsK (itm : Bool) (ks : List Key) (ds : List D) : List D := if itm then itemsD ks ds else ks.map ofKey
/-- a dictionary at a slot -/
def dkAt (E : En) (i : Nat) : Option (List Key × List D) := match gt E i with
  | some (.own (.dk ks ds)) => some (ks, ds)
  | some (.ref (.dk ks ds)) => some (ks, ds)
  | _ => none
def ER.unl (r : ER) (i : Nat) : ER := match r with
  | .ok o d E => .ok o d (unlockS E i)
  | _ => .bad
def forL (tg : D → En → Out) (body : En → Out) : List D → En → Out
  | [], E => .nx E
  | x :: xs, E => match tg x E with
    | .nx E1 => (match body E1 with
      | .nx E2 => forL tg body xs E2
      | .ct E2 => forL tg body xs E2
      | .bk E2 => .nx E2
      | .rt o d E2 => .rt o d E2
      | .ex c E2 => .ex c E2
      | .bad => .bad)
    | .ex c E1 => .ex c E1
    | _ => .bad
/-- n turns at most -/
def whileN (c : En → ER) (body : En → Out) : Nat → En → Out
  | 0, _ => .bad
  | n + 1, E => match c E with
    | .ok _ (.bl true) E1 => (match body E1 with
      | .nx E2 => whileN c body n E2
      | .ct E2 => whileN c body n E2
      | .bk E2 => .nx E2
      | .rt o d E2 => .rt o d E2
      | .ex c E2 => .ex c E2
      | .bad => .bad)
    | .ok _ (.bl false) E1 => .nx E1
    | .ex c E1 => .ex c E1
    | _ => .bad
open Classical in
noncomputable def whileE (c : En → ER) (body : En → Out) (E : En) : Out := if h : ∃ n, whileN c body n E ≠ .bad then whileN c body (Classical.choose h) E else .bad

section
variable (F : Nat → List Sl → CR) (G : List D)
def constOf (j : Nat) (E : En) : ER := match G[j]? with
  | some d => .ok false d E
  | none => .bad
/-- a value's truth as a test -/
def truthOf (v : Option Nat) (r : En → ER) (E : En) : ER := opB v r E (fin1 fun d => bl? (truth d))
/-- a slice's border, told -/
def partE (v : Option Nat) (r : En → ER) (E : En) (k : Option Int → En → ER) : ER := opB v r E fun y E2 => match fetch E2 y with
  | some (.int i) => k (some i) E2
  | _ => .bad
def slD : D → Option Int → Option Int → Option (Bool × D)
  | .tup xs, l, h => some (false, .tup (cutD xs l h))
  | .lst xs, l, h => some (true, .lst (cutD xs l h))
  | _, _, _ => none
noncomputable def finM (m : M1) (i : Nat) (r : AR) : ER := match r with
  | .ok as bk E => (match gt E i with
    | some s => (match s.d with
      | .lst xs => (match mth m xs (as.map Sl.d) with
        | some (v, ys) => (match putS E i (.lst ys) with
          | some E' => .ok false v E'
          | none => .bad)
        | none => .bad)
      | _ => .bad)
    | none => .bad)
  | .ex c E => .ex c E
  | .bad => .bad
def unpk (n : Nat) : D → Option (List D)
  | .tup xs => if xs.length = n then some xs else none
  | _ => none
def Tgs.len : Tgs → Nat
  | .nil => 0
  | .cons _ r => r.len + 1
mutual
noncomputable def ev : Tm → En → ER
  | .cst d, E => .ok false d E
  | .var i, E => take E i
  | .glob j, E => constOf G j E
  | .no, E => .bad
  | .idx i a, E => if isLst (gt E i) then opB (asVar a) (ev a) E fun y E1 => fin2 ixF (.sl i) y E1 else .bad
  | .rng a b, E => (ev a E).bind fun _ d E1 => (ev b E1).bind fun _ e E2 => match d, e with
    | .int m, .int n => if rgOk m n then .ok true (.lst (rangeD m n)) E2 else .bad
    | _, _ => .bad
  | .p1 p a, E => opB (asVar a) (ev a) E (fin1 (pr1 p))
  | .p2 p a b, E => opB (asVar a) (ev a) E fun x E1 => opB (asVar b) (ev b) E1 fun y E2 => fin2 (pr2 G p) x y E2
  | .cmp c a b, E => opB (asVar a) (ev a) E fun x E1 => opB (asVar b) (ev b) E1 fun y E2 => fin2 (fun d e => bl? (cmpD G c d e)) x y E2
  | .chain c c' a b e, E => opB (asVar a) (ev a) E fun x E1 => opB (asVar b) (ev b) E1 fun y E2 => (fin2 (fun d e => bl? (cmpD G c d e)) x y E2).test fun k E3 =>
      if k then opB (asVar e) (ev e) E3 fun z E4 => fin2 (fun d e => bl? (cmpD G c' d e)) y z E4 else .ok false (.bl false) E3
  | .and a b, E => (ev a E).test fun k E1 => if k then ev b E1 else .ok false (.bl false) E1
  | .or a b, E => (ev a E).test fun k E1 => if k then .ok false (.bl true) E1 else ev b E1
  | .one a, E => ev a E
  | .not a, E => opB (asVar a) (ev a) E (fin1 fun d => bl? ((truth d).map fun k => !k))
  | .ifx c a b, E => (tst c E).test fun k E1 => if k then ev a E1 else ev b E1
  | .tup ts, E => (evs ts E).call fun as => .ok false (.tup (as.map Sl.d)) []
  | .lst ts, E => (evs ts E).call fun as => .ok true (.lst (as.map Sl.d)) []
  | .dict0 t, E => .ok true (if t then .dt [] [] else .dk [] []) E
  | .slice a lo hi, E => opB (asVar a) (ev a) E fun x E1 => bord lo E1 fun l E2 => bord hi E2 fun h E3 => fin1 (fun d => slD d l h) x E3
  | .isinst a ty, E => opB (asVar a) (ev a) E (fin1 fun d => bl? (isTy d ty))
  | .call f ts, E => (args ts E).call (F f)
  | .meth m i ts, E => if isLst (gt E i) then finM m i (evs ts E) else .bad
  | .lc e g it c vs, E => (walk it E).comp vs fun xs E1 => compL vs (tgt g) (match c with
      | none => fun E => .ok false (.bl true) E
      | some c => tst c) (ev e) xs [] E1
  | .lcd e g i itm c vs, E => match dkAt E i with
    | some (ks, ds) => ((IR.ok (rowsK itm ks ds) [] (lockS E i)).comp vs fun xs E1 => compL vs (tgt g) (match c with
      | none => fun E => .ok false (.bl true) E
      | some c => tst c) (ev e) xs [] E1).unl i
    | none => .bad
/-- as a test -/
noncomputable def tst : Tm → En → ER
  | .and a b, E => (tst a E).test fun k E1 => if k then tst b E1 else .ok false (.bl false) E1
  | .or a b, E => (tst a E).test fun k E1 => if k then .ok false (.bl true) E1 else tst b E1
  | .one a, E => tst a E
  | .not a, E => (tst a E).test fun k E1 => .ok false (.bl (!k)) E1
  | .cmp c a b, E => opB (asVar a) (ev a) E fun x E1 => opB (asVar b) (ev b) E1 fun y E2 => fin2 (fun d e => bl? (cmpD G c d e)) x y E2
  | .chain c c' a b e, E => opB (asVar a) (ev a) E fun x E1 => opB (asVar b) (ev b) E1 fun y E2 => (fin2 (fun d e => bl? (cmpD G c d e)) x y E2).test fun k E3 =>
      if k then opB (asVar e) (ev e) E3 fun z E4 => fin2 (fun d e => bl? (cmpD G c' d e)) y z E4 else .ok false (.bl false) E3
  | .ifx c a b, E => (tst c E).test fun k E1 => if k then tst a E1 else tst b E1
  | a, E => truthOf (asVar a) (ev a) E
/-- a slice's border -/
noncomputable def bord : Bd → En → (Option Int → En → ER) → ER
  | .no, E, k => k none E
  | .at t, E, k => partE (asVar t) (ev t) E k
/-- items that are kept: each shared -/
noncomputable def evs : Tms → En → AR
  | .nil, E => .ok [] [] E
  | .cons t r, E => argD (ev t E) (evs r)
/-- a call's arguments: a mutable name is lent -/
noncomputable def args : Tms → En → AR
  | .nil, E => .ok [] [] E
  | .cons t r, E => match asVar t with
    | some i => argV E i (args r)
    | none => argD (ev t E) (args r)
noncomputable def walk : It → En → IR
  | .seq a, E => opI (asVar a) (ev a) E fun d lk E1 => match rows d with
    | some xs => .ok xs lk E1
    | none => .bad
  | .range1 a, E => opN (ev a E) fun d E1 => match d with
    | .int n => if rgOk 0 n then .ok (rangeD 0 n) [] E1 else .bad
    | _ => .bad
  | .range2 a b, E => opN (ev a E) fun d E1 => opN (ev b E1) fun e E2 => match d, e with
    | .int m, .int n => if rgOk m n then .ok (rangeD m n) [] E2 else .bad
    | _, _ => .bad
  | .enum a, E => opI (asVar a) (ev a) E fun d lk E1 => match rows d with
    | some xs => .ok (enumD xs) lk E1
    | none => .bad
  | .zip a b, E => opBI (asVar a) (ev a) E fun x E1 => opBI (asVar b) (ev b) E1 fun y E2 => lockO x E2 fun d lk E3 => match rows d with
    | some xs => lockO y E3 fun e lk' E4 => (match rows e with
      | some ys => .ok (zipD xs ys) (lk' ++ lk) E4
      | none => .bad)
    | none => .bad
/-- a value to a target -/
noncomputable def tgt : Tg → D → En → Out
  | .nm i, d, E => storeS E i false d
  | .tup gs, d, E => match unpk gs.len d with
    | some xs => tgts gs xs E
    | none => .bad
  | .sub i ix, d, E => if (gt E i).isNone then .bad else match opB (asVar ix) (ev ix) E (fun y E1 => fin1 (fun k => match gt E1 i with
      | some s => (setD G s.d k d).map fun d' => (false, d')
      | none => none) y E1) with
    | .ok _ d' E1 => (match putS E1 i d' with
      | some E2 => .nx E2
      | none => .bad)
    | .ex c E1 => .ex c E1
    | .bad => .bad
noncomputable def tgts : Tgs → List D → En → Out
  | .nil, [], E => .nx E
  | .cons g r, x :: xs, E => (tgt g x E).then (tgts r xs)
  | _, _, _ => .bad
end
/-- a value, own or shared, to a target -/
noncomputable def tgtO (g : Tg) (o : Bool) (d : D) (E : En) : Out := match g with
  | .nm i => storeS E i o d
  | g => tgt F G g d E
noncomputable def tgtOs : Tgs → List (Bool × D) → En → Out
  | .nil, [], E => .nx E
  | .cons g r, x :: xs, E => (tgtO F G g x.1 x.2 E).only.then (tgtOs r xs)
  | _, _, _ => .bad
/-- values of a display that is taken apart at once -/
inductive OR where
  | ok (xs : List (Bool × D)) (E : En) | ex (c : Str) (E : En) | bad
noncomputable def evos : Tms → En → OR
  | .nil, E => .ok [] E
  | .cons t r, E => match ev F G t E with
    | .ok o d E1 => (match evos r E1 with
      | .ok xs E2 => .ok ((o, d) :: xs) E2
      | .ex c E2 => .ex c E2
      | .bad => .bad)
    | .ex c E1 => .ex c E1
    | .bad => .bad
/-- x op= y -/
noncomputable def augOp (p : P2) (x : D) (y : Opd) (E : En) : ER := fin1 (fun b => match x, p with
  | .int i, .add => pr2 G .add (.int i) b
  | .int i, .sub => pr2 G .sub (.int i) b
  | _, _ => none) y E
mutual
noncomputable def exec : St → En → Out
  | .asg g a, E => (ev F G a E).out fun o d E1 => (tgtO F G g o d E1).only
  | .par gs ts, E => match evos F G ts E with
    | .ok xs E1 => (tgtOs F G gs xs E1).only
    | .ex c E1 => .ex c E1
    | .bad => .bad
  | .aug i p a, E => match gt E i with
    | some s => (opB (asVar a) (ev F G a) E fun y E1 => augOp G p s.d y E1).out fun o d E1 => storeS E1 i false d
    | none => .bad
  | .augs i ix p a, E => .bad
  | .expr a, E => (ev F G a E).out fun _ _ E1 => .nx E1
  | .ite c a b, E => (tst F G c E).out fun _ d E1 => match d with
    | .bl true => execs a E1
    | .bl false => execs b E1
    | _ => .bad
  | .for_ g it b, E => (walk F G it E).for_ fun xs E1 => forL (tgt F G g) (execs b) xs E1
  | .while_ c b, E => whileE (tst F G c) (execs b) E
  | .ret a, E => match a with
    | .var i => (match gt E i with
      | some (.own d) => .rt true d (E.set i none)
      | _ => (take E i).out fun o d E1 => .rt o d E1)
    | a => (ev F G a E).out fun o d E1 => .rt o d E1
  | .brk, E => .bk E
  | .cnt, E => .ct E
  | .pass, E => .nx E
  | .raise c, E => .ex c E
  | .try_ b c k, E => match execs b E with
    | .ex c' E1 => if c' = c then .rt false k E1 else .bad
    | r => r
noncomputable def execs : Sts → En → Out
  | .nil, E => .nx E
  | .cons s r, E => (exec s E).then (execs r)
end
end
/-- a def: how many parameters, how many slots, its body -/
structure Df where
  n : Nat
  m : Nat
  body : Sts
/-- the parameters' last states -/
def lastH : En → Option Sl
  | some (.ref d) :: _ => some (.ref d)
  | some (.rfz d) :: _ => some (.rfz d)
  | _ => none
def lastPs : List Sl → En → En
  | [], _ => []
  | .ref _ :: as, E => lastH E :: lastPs as E.tail
  | _ :: as, E => none :: lastPs as E.tail
noncomputable def runDf (F : Nat → List Sl → CR) (G : List D) (f : Df) (as : List Sl) : CR :=
  if as.length = f.n then (match execs F G f.body (as.map some ++ List.replicate (f.m - f.n) none) with
    | .nx E => .ok false .non (lastPs as E)
    | .rt o d E => .ok o d (lastPs as E)
    | .ex c E => .ex c (lastPs as E)
    | _ => .bad) else .bad
/-- k calls deep at most -/
noncomputable def callK (T : List Df) (G : List D) : Nat → Nat → List Sl → CR
  | 0, _, _ => .bad
  | k + 1, f, as => match T[f]? with
    | some d => runDf (callK T G k) G d as
    | none => .bad
end Rx
set_option maxHeartbeats 1000000
/-! RxB: how data lies in the layer's heap. -/
namespace Rx
open PySem L2

/-- the written part, and the tuples that stand in it -/
structure Gm where
  K : PySem.W.Frag
  G : List D
def KresT (K : PySem.W.Frag) (a : Addr) (xs : List V) : Prop :=
  ∃ (o : Obj) (its : Array Value) (n : Nat), K.lookup a = some o ∧ o.cls = .type "tuple" ∧ o.data = .seq its n ∧ its.size ≤ sizeLine ∧ Vals xs its.toList
/-- a list that the module's text holds -/
def KresL (K : PySem.W.Frag) (a : Addr) (xs : List V) : Prop :=
  ∃ (o : Obj) (its : Array Value) (n : Nat), K.lookup a = some o ∧ o.cls = .type "list" ∧ o.dict = none ∧ o.data = .seq its n ∧ its.size ≤ sizeLine ∧ Vals xs its.toList
/-- data at a value: nothing of it at the addresses of F (the owned ones) -/
inductive Rep (K : Gm) (H : Hp) (F : Addr → Prop) : D → V → Prop where
  | non : Rep K H F .non .non
  | bl (b : Bool) : Rep K H F (.bl b) (.bl b)
  | int (i : Int) : Rep K H F (.int i) (.int i)
  | str (x : Str) : Rep K H F (.str x) (.str x)
  | tup {p : Addr} {ds : List D} {vs : List V} (q : H p = some (.tup vs) ∨ (KresT K.K p vs ∧ D.tup ds ∈ K.G)) (z : ds.length ≤ SZ) (l : vs.length = ds.length) (r : ∀ (i : Nat) d v, ds[i]? = some d → vs[i]? = some v → Rep K H F d v) : Rep K H F (.tup ds) (.ref p)
  | lst {p : Addr} {ds : List D} {vs : List V} (q : H p = some (.lst vs)) (n : ¬ F p) (z : ds.length ≤ SZ) (l : vs.length = ds.length) (r : ∀ (i : Nat) d v, ds[i]? = some d → vs[i]? = some v → Rep K H F d v) : Rep K H F (.lst ds) (.ref p)
  | frl {p : Addr} {ds : List D} {vs : List V} (q : (Rd H p (.lst vs) ∧ ¬ F p) ∨ KresL K.K p vs) (z : ds.length ≤ SZ) (l : vs.length = ds.length) (r : ∀ (i : Nat) d v, ds[i]? = some d → vs[i]? = some v → Rep K H F d v) : Rep K H F (.frl ds) (.ref p)
  | dk {p : Addr} {ks : List Key} {ds : List D} {kvs : List (Key × V)} (q : Rd H p (.dK kvs)) (n : ¬ F p) (k : kvs.map (·.1) = ks) (l : ks.length = ds.length) (r : ∀ (i : Nat) d v, ds[i]? = some d → (kvs.map (·.2))[i]? = some v → Rep K H F d v) : Rep K H F (.dk ks ds) (.ref p)
  | dt {p : Addr} {ks : List (List Key)} {ds : List D} {kvs : List (List Key × V)} (q : Rd H p (.dT kvs)) (n : ¬ F p) (k : kvs.map (·.1) = ks) (l : ks.length = ds.length) (r : ∀ (i : Nat) d v, ds[i]? = some d → (kvs.map (·.2))[i]? = some v → Rep K H F d v) : Rep K H F (.dt ks ds) (.ref p)

/-- a row of data -/
structure Reps (K : Gm) (H : Hp) (F : Addr → Prop) (ds : List D) (vs : List V) : Prop where
  l : vs.length = ds.length
  r : ∀ (i : Nat) d v, ds[i]? = some d → vs[i]? = some v → Rep K H F d v

/-- what may be changed in place -/
def MutK (H : Hp) (a : Addr) : Prop := (∃ vs, H a = some (.lst vs)) ∨ (∃ k, H a = some (.dK k)) ∨ (∃ k, H a = some (.dT k)) ∨ ∃ o u, H a = some (.frz o u)

/-- what must hold of two heaps for data to stay -/
structure Stay (H H' : Hp) (F F' M : Addr → Prop) : Prop where
  keep : ∀ a o, ¬ M a → H a = some o → H' a = some o
  mf : ∀ a, M a → F a
  mu : ∀ a, M a → MutK H a
  nf : ∀ a, F' a → F a ∨ H a = none
section
variable {K : Gm} {H H' : Hp} {F F' M : Addr → Prop} {d : D} {v : V} {ds : List D} {vs : List V}
theorem Stay.same (h : Same H H') (n : ∀ a, F' a → F a ∨ H a = none) : Stay H H' F F' fun _ => False :=
  ⟨fun a o _ e => h a o e, fun _ z => z.elim, fun _ z => z.elim, n⟩
theorem Stay.rd (s : Stay H H' F F' M) {p : Addr} {u : HO} (n : ¬ F p) (h : Rd H p u) : Rd H' p u ∧ ¬ F' p := by
  refine ⟨?_, fun z => ?_⟩
  · rcases h with h | ⟨o, h⟩
    · exact .inl (s.keep _ _ (fun m => n (s.mf _ m)) h)
    · exact .inr ⟨o, s.keep _ _ (fun m => n (s.mf _ m)) h⟩
  · rcases s.nf _ z with q | q
    · exact n q
    · rcases h with h | ⟨o, h⟩ <;> rw [h] at q <;> cases q
theorem Stay.at (s : Stay H H' F F' M) {p : Addr} {u : HO} (n : ¬ F p) (h : H p = some u) : H' p = some u ∧ ¬ F' p := by
  refine ⟨s.keep _ _ (fun m => n (s.mf _ m)) h, fun z => ?_⟩
  rcases s.nf _ z with q | q
  · exact n q
  · rw [h] at q; cases q
theorem Stay.tup (s : Stay H H' F F' M) {p : Addr} {vs : List V} (h : H p = some (.tup vs)) : H' p = some (.tup vs) := by
  refine s.keep _ _ (fun m => ?_) h
  rcases s.mu _ m with ⟨k, q⟩ | ⟨k, q⟩ | ⟨k, q⟩ | ⟨k, k', q⟩ <;> rw [h] at q <;> cases q
theorem Rep.stay (r : Rep K H F d v) (s : Stay H H' F F' M) : Rep K H' F' d v := by
  induction r with
  | non => exact .non
  | bl b => exact .bl b
  | int i => exact .int i
  | str x => exact .str x
  | tup q z l _ ih => exact .tup (q.imp s.tup id) z l ih
  | lst q n z l _ ih => exact .lst (s.at n q).1 (s.at n q).2 z l ih
  | @frl p ds vs q z l _ ih =>
    refine .frl ?_ z l ih
    rcases q with ⟨q, n⟩ | q
    · exact .inl (s.rd n q)
    · exact .inr q
  | dk q n k l _ ih => exact .dk (s.rd n q).1 (s.rd n q).2 k l ih
  | dt q n k l _ ih => exact .dt (s.rd n q).1 (s.rd n q).2 k l ih
theorem Reps.stay (r : Reps K H F ds vs) (s : Stay H H' F F' M) : Reps K H' F' ds vs := ⟨r.l, fun i d v h1 h2 => (r.r i d v h1 h2).stay s⟩
theorem Stay.weak (n : ∀ a, F' a → F a) : Stay H H F F' fun _ => False := .same (Same.refl H) fun a z => .inl (n a z)
theorem Reps.nil : Reps K H F [] [] := ⟨rfl, fun i d v h => by simp at h⟩
theorem Reps.cons (h : Rep K H F d v) (r : Reps K H F ds vs) : Reps K H F (d :: ds) (v :: vs) := by
  refine ⟨by simp [r.l], fun i d v h1 h2 => ?_⟩
  cases i with
  | zero => simp at h1 h2; subst h1 h2; exact h
  | succ i => exact r.r i d v (by simpa using h1) (by simpa using h2)
theorem Reps.head {w : V} {ws : List V} (r : Reps K H F (d :: ds) (w :: ws)) : Rep K H F d w ∧ Reps K H F ds ws :=
  ⟨r.r 0 d w (by simp) (by simp), by have := r.l; simpa using this, fun i d v h1 h2 => r.r (i + 1) d v (by simpa using h1) (by simpa using h2)⟩
theorem Reps.nil_inv (r : Reps K H F [] vs) : vs = [] := List.eq_nil_of_length_eq_zero (by simpa using r.l)
theorem Reps.cons_inv (r : Reps K H F (d :: ds) vs) : ∃ w ws, vs = w :: ws ∧ Rep K H F d w ∧ Reps K H F ds ws := by
  cases vs with
  | nil => have := r.l; simp at this
  | cons w ws => exact ⟨w, ws, rfl, r.head.1, r.head.2⟩
theorem Reps.append {ds' : List D} {vs' : List V} (r : Reps K H F ds vs) (r' : Reps K H F ds' vs') : Reps K H F (ds ++ ds') (vs ++ vs') := by
  refine ⟨by simp [r.l, r'.l], fun i d v h1 h2 => ?_⟩
  by_cases hi : i < ds.length
  · rw [List.getElem?_append_left hi] at h1
    rw [List.getElem?_append_left (by rw [r.l]; exact hi)] at h2
    exact r.r i d v h1 h2
  · rw [List.getElem?_append_right (by omega)] at h1
    rw [List.getElem?_append_right (by rw [r.l]; omega), r.l] at h2
    exact r'.r _ d v h1 h2
theorem Reps.sub {ds' : List D} {vs' : List V} (r : Reps K H F ds vs) (l : vs'.length = ds'.length) (f : ∀ i : Nat, i < ds'.length → ∃ j : Nat, ds'[i]? = ds[j]? ∧ vs'[i]? = vs[j]?) : Reps K H F ds' vs' :=
  ⟨l, fun i d v h1 h2 => by
    obtain ⟨hi, _⟩ := List.getElem?_eq_some_iff.mp h1
    obtain ⟨j, e1, e2⟩ := f i hi
    exact r.r j d v (e1 ▸ h1) (e2 ▸ h2)⟩
theorem Reps.take (r : Reps K H F ds vs) (n : Nat) : Reps K H F (ds.take n) (vs.take n) :=
  r.sub (by simp [r.l]) fun i hi => ⟨i, by
    have hi' : i < n := by rw [List.length_take] at hi; omega
    exact ⟨by rw [List.getElem?_take_of_lt hi'], by rw [List.getElem?_take_of_lt hi']⟩⟩
theorem Reps.drop (r : Reps K H F ds vs) (n : Nat) : Reps K H F (ds.drop n) (vs.drop n) :=
  r.sub (by simp [r.l]) fun i hi => ⟨n + i, by rw [List.getElem?_drop], by rw [List.getElem?_drop]⟩
theorem Reps.get (r : Reps K H F ds vs) {i : Nat} (h : ds[i]? = some d) : ∃ v, vs[i]? = some v ∧ Rep K H F d v := by
  obtain ⟨hi, _⟩ := List.getElem?_eq_some_iff.mp h
  have hv : i < vs.length := by rw [r.l]; exact hi
  exact ⟨vs[i], List.getElem?_eq_getElem hv, r.r i d _ h (List.getElem?_eq_getElem hv)⟩
theorem Reps.set (r : Reps K H F ds vs) (k : Nat) (h : Rep K H F d v) : Reps K H F (ds.set k d) (vs.set k v) := by
  refine ⟨by simp [r.l], fun i e w h1 h2 => ?_⟩
  by_cases hi : k = i
  · subst hi
    obtain ⟨hl, _⟩ := List.getElem?_eq_some_iff.mp h1
    simp at hl
    rw [List.getElem?_set_self hl] at h1
    rw [List.getElem?_set_self (by rw [r.l]; exact hl)] at h2
    cases h1; cases h2; exact h
  · rw [List.getElem?_set_ne hi] at h1 h2
    exact r.r i e w h1 h2
theorem Reps.mapInt : ∀ ns : List Int, Reps K H F (ns.map .int) (ns.map .int)
  | [] => .nil
  | n :: ns => .cons (.int n) (Reps.mapInt ns)

/-- the object at p is d; x: as it stands (not locked) -/
def Cn (x : Bool) (K : Gm) (H : Hp) (F : Addr → Prop) (d : D) (p : Addr) : Prop := match d with
  | .lst ds => ∃ vs, H p = some (.lst vs) ∧ ds.length ≤ SZ ∧ Reps K H F ds vs
  | .dk ks ds => ∃ kvs : List (Key × V), (if x then H p = some (.dK kvs) else Rd H p (.dK kvs)) ∧ kvs.map (·.1) = ks ∧ ks.length = ds.length ∧ Reps K H F ds (kvs.map (·.2))
  | .dt ks ds => ∃ kvs : List (List Key × V), (if x then H p = some (.dT kvs) else Rd H p (.dT kvs)) ∧ kvs.map (·.1) = ks ∧ ks.length = ds.length ∧ Reps K H F ds (kvs.map (·.2))
  | _ => False
theorem Cn.mutk {p : Addr} (h : Cn true K H F d p) : MutK H p := by
  cases d with
  | lst ds => obtain ⟨vs, q, _⟩ := h; exact .inl ⟨_, q⟩
  | dk ks ds => obtain ⟨kvs, q, _⟩ := h; exact .inr (.inl ⟨_, q⟩)
  | dt ks ds => obtain ⟨kvs, q, _⟩ := h; exact .inr (.inr (.inl ⟨_, q⟩))
  | _ => exact h.elim
theorem Cn.weakX {p : Addr} {x : Bool} (h : Cn x K H F d p) : Cn false K H F d p := by
  cases x with
  | false => exact h
  | true =>
    cases d with
    | lst ds => exact h
    | dk ks ds => obtain ⟨kvs, q, r⟩ := h; exact ⟨kvs, .inl q, r⟩
    | dt ks ds => obtain ⟨kvs, q, r⟩ := h; exact ⟨kvs, .inl q, r⟩
    | _ => exact h.elim
theorem Cn.rep {p : Addr} {x : Bool} (h : Cn x K H F d p) (n : ¬ F p) : Rep K H F d (.ref p) := by
  replace h := h.weakX
  cases d with
  | lst ds => obtain ⟨vs, q, z, r⟩ := h; exact .lst q n z r.l r.r
  | dk ks ds => obtain ⟨kvs, q, k, l, r⟩ := h; exact .dk q n k l r.r
  | dt ks ds => obtain ⟨kvs, q, k, l, r⟩ := h; exact .dt q n k l r.r
  | _ => exact h.elim
/-- content stays where its own object stays -/
theorem Cn.stay {p : Addr} {x : Bool} (h : Cn x K H F d p) (s : Stay H H' F F' M) (np : ¬ M p) : Cn x K H' F' d p := by
  have rd : ∀ u, Rd H p u → Rd H' p u := fun u q => by
    rcases q with q | ⟨o, q⟩
    · exact .inl (s.keep _ _ np q)
    · exact .inr ⟨o, s.keep _ _ np q⟩
  cases d with
  | lst ds => obtain ⟨vs, q, z, r⟩ := h; exact ⟨vs, s.keep _ _ np q, z, r.stay s⟩
  | dk ks ds =>
    obtain ⟨kvs, q, k, l, r⟩ := h
    cases x with
    | true => exact ⟨kvs, s.keep _ _ np q, k, l, r.stay s⟩
    | false => exact ⟨kvs, rd _ q, k, l, r.stay s⟩
  | dt ks ds =>
    obtain ⟨kvs, q, k, l, r⟩ := h
    cases x with
    | true => exact ⟨kvs, s.keep _ _ np q, k, l, r.stay s⟩
    | false => exact ⟨kvs, rd _ q, k, l, r.stay s⟩
  | _ => exact h.elim
theorem Cn.there {p : Addr} {x : Bool} (h : Cn x K H F d p) : H p ≠ none := by
  replace h := h.weakX
  cases d with
  | lst ds => obtain ⟨vs, q, _⟩ := h; rw [q]; exact nofun
  | dk ks ds => obtain ⟨kvs, q, _⟩ := h; rcases q with q | ⟨o, q⟩ <;> rw [q] <;> exact nofun
  | dt ks ds => obtain ⟨kvs, q, _⟩ := h; rcases q with q | ⟨o, q⟩ <;> rw [q] <;> exact nofun
  | _ => exact h.elim

/-! ### slots -/
/-- is an owned object at this slot's value? -/
def Sl.ow : Sl → Bool
  | .own _ => true
  | .ref _ => true
  | .lck _ _ => true
  | _ => false
def SlR (K : Gm) (H : Hp) (F : Addr → Prop) (s : Sl) (v : V) : Prop := match s with
  | .val d => Rep K H F d v
  | .rfz d => Rep K H F d v
  | .own d => ∃ p, v = .ref p ∧ Cn true K H F d p
  | .ref d => ∃ p, v = .ref p ∧ Cn true K H F d p
  | .lck _ d => ∃ p, v = .ref p ∧ Cn false K H F d p
/-- the owned address of a slot -/
def OA (E : En) (σ : L2.St) (i : Nat) (p : Addr) : Prop := ∃ s, gt E i = some s ∧ s.ow = true ∧ σ[i]? = some (some (.ref p))
/-- all owned: these and the callers' -/
def Fz (C : Addr → Prop) (E : En) (σ : L2.St) (a : Addr) : Prop := C a ∨ ∃ i, OA E σ i a
/-- what may be changed -/
def Mu (E : En) (σ : L2.St) (a : Addr) : Prop := ∃ i s, gt E i = some s ∧ ((∃ d, s = .own d) ∨ ∃ d, s = .ref d) ∧ σ[i]? = some (some (.ref a))
structure RE (K : Gm) (H : Hp) (C : Addr → Prop) (E : En) (σ : L2.St) : Prop where
  len : E.length = σ.length
  slot : ∀ i s, gt E i = some s → ∃ v, σ[i]? = some (some v) ∧ SlR K H (Fz C E σ) s v
  inj : ∀ i j p, OA E σ i p → OA E σ j p → i = j
  dis : ∀ i p, OA E σ i p → ¬ C p
  cH : ∀ a, C a → H a ≠ none
end
section
variable {K : Gm} {H H' : Hp} {C C' : Addr → Prop} {E E' : En} {σ σ' : L2.St}
theorem Mu.fz {a : Addr} (m : Mu E σ a) : Fz C E σ a := by
  obtain ⟨i, s, h1, h2, h3⟩ := m
  refine .inr ⟨i, s, h1, ?_, h3⟩
  rcases h2 with ⟨d, rfl⟩ | ⟨d, rfl⟩ <;> rfl
theorem RE.oaThere (r : RE K H C E σ) {i : Nat} {p : Addr} (h : OA E σ i p) : H p ≠ none := by
  obtain ⟨s, h1, h2, h3⟩ := h
  obtain ⟨v, e, q⟩ := r.slot i s h1
  rw [h3] at e; cases e
  cases s with
  | val d => cases h2
  | rfz d => cases h2
  | own d => obtain ⟨p', e, c⟩ := q; cases e; exact c.there
  | ref d => obtain ⟨p', e, c⟩ := q; cases e; exact c.there
  | lck b d => obtain ⟨p', e, c⟩ := q; cases e; exact c.there
theorem RE.fzThere (r : RE K H C E σ) {a : Addr} (h : Fz C E σ a) : H a ≠ none := by
  rcases h with h | ⟨i, h⟩
  · exact r.cH a h
  · exact r.oaThere h
theorem RE.muK (r : RE K H C E σ) {a : Addr} (m : Mu E σ a) : MutK H a := by
  obtain ⟨i, s, h1, h2, h3⟩ := m
  obtain ⟨v, e, q⟩ := r.slot i s h1
  rw [h3] at e; cases e
  rcases h2 with ⟨d, rfl⟩ | ⟨d, rfl⟩ <;> (obtain ⟨p', e, c⟩ := q; cases e; exact c.mutk)
/-- a new address is not owned -/
theorem RE.new (r : RE K H C E σ) {a : Addr} (h : H a = none) : ¬ Fz C E σ a := fun z => r.fzThere z h

/-- from one state of a def's body to a later one -/
structure Tr (E : En) (σ : L2.St) (H : Hp) (E' : En) (σ' : L2.St) (H' : Hp) : Prop where
  keep : ∀ a o, ¬ Mu E σ a → H a = some o → H' a = some o
  there : ∀ a, H a ≠ none → H' a ≠ none
  own : ∀ i p d, gt E' i = some (.own d) → σ'[i]? = some (some (.ref p)) → (∃ j d', gt E j = some (.own d') ∧ σ[j]? = some (some (.ref p))) ∨ H p = none
  lck : ∀ i b d, gt E i = some (.lck b d) → gt E' i = some (.lck b d) ∧ σ'[i]? = σ[i]?
  lckB : ∀ i b d, gt E' i = some (.lck b d) → gt E i = some (.lck b d)
  ref : ∀ i d, gt E' i = some (.ref d) → (∃ d', gt E i = some (.ref d')) ∧ σ'[i]? = σ[i]?
  rfz : ∀ i d, gt E' i = some (.rfz d) → (∃ d', gt E i = some (.ref d') ∨ gt E i = some (.rfz d')) ∧ σ'[i]? = σ[i]?
theorem Tr.refl : Tr E σ H E σ H := ⟨fun _ _ _ e => e, fun _ e => e, fun i p d h1 h2 => .inl ⟨i, d, h1, h2⟩, fun _ _ _ h => ⟨h, rfl⟩, fun _ _ _ h => h, fun _ d h => ⟨⟨d, h⟩, rfl⟩, fun _ d h => ⟨⟨d, .inr h⟩, rfl⟩⟩
/-- what may be changed later could be before, or is new -/
theorem Tr.mu (t : Tr E σ H E' σ' H') {a : Addr} (m : Mu E' σ' a) : Mu E σ a ∨ H a = none := by
  obtain ⟨i, s, h1, h2, h3⟩ := m
  rcases h2 with ⟨d, rfl⟩ | ⟨d, rfl⟩
  · rcases t.own i a d h1 h3 with ⟨j, d', g1, g2⟩ | n
    · exact .inl ⟨j, _, g1, .inl ⟨d', rfl⟩, g2⟩
    · exact .inr n
  · obtain ⟨⟨d', g⟩, e⟩ := t.ref i d h1
    exact .inl ⟨i, _, g, .inr ⟨d', rfl⟩, e ▸ h3⟩
theorem Tr.trans {E2 : En} {σ2 : L2.St} {H2 : Hp} (t : Tr E σ H E' σ' H') (u : Tr E' σ' H' E2 σ2 H2) : Tr E σ H E2 σ2 H2 where
  keep := fun a o n e => u.keep a o (fun m => by
    rcases t.mu m with m | m
    · exact n m
    · rw [e] at m; cases m) (t.keep a o n e)
  there := fun a h => u.there a (t.there a h)
  own := fun i p d h1 h2 => by
    rcases u.own i p d h1 h2 with ⟨j, d', g1, g2⟩ | n
    · exact t.own j p d' g1 g2
    · by_cases h : H p = none
      · exact .inr h
      · exact absurd n (t.there p h)
  lck := fun i b d h => by
    obtain ⟨h1, e1⟩ := t.lck i b d h
    obtain ⟨h2, e2⟩ := u.lck i b d h1
    exact ⟨h2, e2.trans e1⟩
  lckB := fun i b d h => t.lckB i b d (u.lckB i b d h)
  ref := fun i d h => by
    obtain ⟨⟨d', g⟩, e⟩ := u.ref i d h
    obtain ⟨g', e'⟩ := t.ref i d' g
    exact ⟨g', e.trans e'⟩
  rfz := fun i d h => by
    obtain ⟨⟨d', g⟩, e⟩ := u.rfz i d h
    rcases g with g | g
    · obtain ⟨⟨d2, g'⟩, e'⟩ := t.ref i d' g
      exact ⟨⟨d2, .inl g'⟩, e.trans e'⟩
    · obtain ⟨g', e'⟩ := t.rfz i d' g
      exact ⟨g', e.trans e'⟩
/-- objects that are only added -/
theorem Tr.grow (h : Same H H') : Tr E σ H E σ H' :=
  { (Tr.refl : Tr E σ H E σ H) with
    keep := fun a o _ e => h a o e
    there := fun a n z => by
      cases q : H a with
      | none => exact n q
      | some o => rw [h a o q] at z; cases z }
/-- data that lies outside what may be changed stays -/
theorem RE.stay (r : RE K H C E σ) (t : Tr E σ H E' σ' H') {F' : Addr → Prop} (n : ∀ a, F' a → Fz C E σ a ∨ H a = none) : Stay H H' (Fz C E σ) F' (Mu E σ) :=
  ⟨t.keep, fun _ m => m.fz, fun _ m => r.muK m, n⟩
theorem same_upd' {p : Addr} {o : HO} (h : H p = none) : Same H (upd H p o) := fun b x e => by
  rw [upd_ne (ne_of_none e h)]
  exact e
/-- the owned ones of a slot list that grew by objects alone -/
theorem RE.grow (r : RE K H C E σ) (h : Same H H') (hC : ∀ a, C' a → C a ∨ H a = none) (hC2 : ∀ a, C' a → H' a ≠ none) : RE K H' C' E σ := by
  have st : Stay H H' (Fz C E σ) (Fz C' E σ) fun _ => False := .same h fun a z => by
    rcases z with z | z
    · rcases hC a z with q | q
      · exact .inl (.inl q)
      · exact .inr q
    · exact .inl (.inr z)
  refine ⟨r.len, fun i s hs => ?_, r.inj, fun i p o c => ?_, hC2⟩
  · obtain ⟨v, e, q⟩ := r.slot i s hs
    refine ⟨v, e, ?_⟩
    cases s with
    | val d => exact Rep.stay q st
    | rfz d => exact Rep.stay q st
    | own d => obtain ⟨p, e, c⟩ := q; exact ⟨p, e, c.stay st id⟩
    | ref d => obtain ⟨p, e, c⟩ := q; exact ⟨p, e, c.stay st id⟩
    | lck b d => obtain ⟨p, e, c⟩ := q; exact ⟨p, e, c.stay st id⟩
  · rcases hC p c with q | q
    · exact r.dis i p o q
    · exact r.oaThere o q
theorem RE.fewer (r : RE K H C E σ) (h : ∀ a, C' a → C a) : RE K H C' E σ :=
  r.grow (Same.refl H) (fun a z => .inl (h a z)) fun a z => r.cH a (h a z)

/-- how a result lies: shared, or new and nobody's -/
def VR (K : Gm) (Hs H' : Hp) (C : Addr → Prop) (o : Bool) (d : D) (v : V) (E : En) (σ : L2.St) : Prop :=
  if o then ∃ p, v = .ref p ∧ Hs p = none ∧ ¬ C p ∧ RE K H' (fun a => C a ∨ a = p) E σ ∧ Cn true K H' (Fz (fun a => C a ∨ a = p) E σ) d p
  else RE K H' C E σ ∧ Rep K H' (Fz C E σ) d v
theorem VR.share {Hs : Hp} {o : Bool} {d : D} {v : V} (h : VR K Hs H' C o d v E σ) : RE K H' C E σ ∧ Rep K H' (Fz C E σ) d v := by
  cases o with
  | false => exact h
  | true =>
    obtain ⟨p, rfl, _, nc, r, c⟩ := h
    have r' : RE K H' C E σ := r.fewer fun a z => .inl z
    refine ⟨r', (c.stay (F' := Fz C E σ) (.weak fun a z => ?_) id).rep fun z => ?_⟩
    · rcases z with z | z
      · exact .inl (.inl z)
      · exact .inr z
    · rcases z with z | ⟨i, z⟩
      · exact nc z
      · exact r.dis i p z (.inr rfl)
end
end Rx
set_option maxHeartbeats 1000000
/-! RxC0: rules that the layer lacks: sum, max, min of a tuple of ints. -/
namespace Rx
open PySem PySem.Spec PyProof.Rows L2
section
variable {prog : Program} {w : World} {A : Around} {E : Value → Shared → Prop} {s : Shared} {l : Addr} {xs : Array (Int × Tok)}
theorem iter_intTup {Q : Value → Shared → Prop} (hl : s.heap.IsTuple l (intItems xs))
    (h : ∀ s₂ : Shared, s₂ = { s with heap := s.heap.push { cls := .type "tuple_iterator", data := .fields #[.ref l, .int 0 0] } } →
      (s₂.heap.IsTupleIter s.heap.objs.size l 0 ∧ s₂.heap.IsTuple l (intItems xs)) → (∀ b ∈ [s.heap.objs.size, l], b < s₂.heap.objs.size) → l ≠ s.heap.objs.size → Q (.ref s.heap.objs.size) s₂) :
    wpAny (model prog w) A (pyIter (.ref l)) Q E s := by
  have hlt : l < s.heap.objs.size := by obtain ⟨_, e, _⟩ := hl; exact Heap.lt_size e
  refine wpAny_pyIter_tuple hl (h _ rfl ⟨⟨_, Heap.get?_push_size _ rfl, rfl, rfl⟩, ?_⟩ (fun b hb => ?_) (Nat.ne_of_lt hlt))
  · obtain ⟨o, e, c⟩ := hl
    exact ⟨o, Heap.get?_push_of_some _ e, c⟩
  · show b < (s.heap.push _).objs.size
    rw [Heap.size_push]
    rcases List.mem_cons.mp hb with rfl | hb
    · exact Nat.lt_succ_self _
    · rcases List.mem_cons.mp hb with rfl | hb
      · exact Nat.lt_succ_of_lt hlt
      · cases hb
theorem old_keptT {h' : Heap} (hk : ∀ b o, b ∉ [s.heap.objs.size] → (s.heap.push { cls := .type "tuple_iterator", data := .fields #[.ref l, .int 0 0] }).get? b = some o → h'.get? b = some o) :
    ∀ b o, s.heap.get? b = some o → h'.get? b = some o := fun b o e => by
  refine hk b o (fun hm => ?_) (Heap.get?_push_of_some _ e)
  rcases List.mem_cons.mp hm with e1 | hm
  · exact absurd (e1 ▸ Heap.lt_size e) (Nat.lt_irrefl _)
  · cases hm
theorem sum_intTup {Q : Value → Shared → Prop} (hh : A.handled = none) (hl : s.heap.IsTuple l (intItems xs))
    (h : ∀ h' tk t', (∀ b o, s.heap.get? b = some o → h'.get? b = some o) → Q (.int (preSum (numAt xs) xs.size) t') { s with heap := h', toks := tk }) :
    wpAny (model prog w) A (call (.builtin "sum") [.ref l]) Q E s := by
  refine call_sum_walkG (iter_intTup hl fun s₂ e st hfp hlI => ?_)
  subst e
  refine ⟨_, _, _, _, _, _, numAt xs, rfl, Walks.tuple (A := A.in1) hh _ l hlI (intItems xs), st, hfp, (fun _ _ => intItems_at), fun h' tk t' hk => ?_⟩
  have := h h' tk t' (old_keptT hk)
  simpa [intItems] using this
theorem max_intTup {Q : Value → Shared → Prop} (hh : A.handled = none) (hl : s.heap.IsTuple l (intItems xs)) (hne : 0 < xs.size)
    (h : ∀ v h' tk, (intItems xs)[argBest (fun i j => decide (numAt xs i > numAt xs j)) (xs.size - 1)]? = some v → (∀ b o, s.heap.get? b = some o → h'.get? b = some o) → Q v { s with heap := h', toks := tk }) :
    wpAny (model prog w) A (call (.builtin "max") [.ref l]) Q E s := by
  refine call_max_walk (iter_intTup hl fun s₂ e st hfp hlI => ?_)
  subst e
  refine ⟨_, _, _, _, _, _, _, rfl, Walks.tuple (A := A.in1) hh _ l hlI (intItems xs), st, hfp, by simpa [intItems] using hne, CmpOf.ints_gt (numAt xs) (fun _ _ => intItems_at), fun v h' tk hP hk => ?_⟩
  exact h v h' tk (by simpa [intItems] using hP) (old_keptT hk)
theorem min_intTup {Q : Value → Shared → Prop} (hh : A.handled = none) (hl : s.heap.IsTuple l (intItems xs)) (hne : 0 < xs.size)
    (h : ∀ v h' tk, (intItems xs)[argBest (fun i j => decide (numAt xs i < numAt xs j)) (xs.size - 1)]? = some v → (∀ b o, s.heap.get? b = some o → h'.get? b = some o) → Q v { s with heap := h', toks := tk }) :
    wpAny (model prog w) A (call (.builtin "min") [.ref l]) Q E s := by
  refine call_min_walk (iter_intTup hl fun s₂ e st hfp hlI => ?_)
  subst e
  refine ⟨_, _, _, _, _, _, _, rfl, Walks.tuple (A := A.in1) hh _ l hlI (intItems xs), st, hfp, by simpa [intItems] using hne, CmpOf.ints_lt (numAt xs) (fun _ _ => intItems_at), fun v h' tk hP hk => ?_⟩
  exact h v h' tk (by simpa [intItems] using hP) (old_keptT hk)
end
section
variable {X : Cx}
theorem cr_sumT (hc : X.calm = true) : CallR X (.builtin "sum") (fun vs H Q => ∃ (a : Addr) (ns : List Int), vs = [V.ref a] ∧ SqT X.K H a (ns.map V.int) ∧ Q (.int ns.sum) H) := by
  intro pins s σ H vs us Q I r h
  obtain ⟨a, ns, rfl, hs, q⟩ := h
  obtain ⟨its, rv, hl, _⟩ := I.tuple hs
  rw [Vals.ref1 r]
  have hi := rv.ints
  obtain ⟨xs, e⟩ := hi.allInts.items
  have hn : numsOf (intItems xs).toList = ns := by rw [← e]; exact hi.numsOf
  rw [nums_intItems] at hn
  rw [e] at hl
  refine sum_intTup (I.ok.hd hc) (show s.heap.IsTuple a _ from hl) fun h' tk t' hk => ⟨.int _, H, I.kept hk, (by rw [preSum_eq, List.take_of_length_le (by simp), hn]; exact ⟨t', rfl⟩), q⟩
theorem cr_maxT (hc : X.calm = true) : CallR X (.builtin "max") (fun vs H Q => ∃ (a : Addr) (ns : List Int), vs = [V.ref a] ∧ SqT X.K H a (ns.map V.int) ∧ 0 < ns.length ∧ ∀ m, m ∈ ns → (∀ y, y ∈ ns → y ≤ m) → Q (.int m) H) := by
  intro pins s σ H vs us Q I r h
  obtain ⟨a, ns, rfl, hs, hne, q⟩ := h
  obtain ⟨its, rv, hl, _⟩ := I.tuple hs
  rw [Vals.ref1 r]
  have hi := rv.ints
  obtain ⟨xs, e⟩ := hi.allInts.items
  have hn : numsOf (intItems xs).toList = ns := by rw [← e]; exact hi.numsOf
  rw [nums_intItems] at hn
  subst hn
  rw [e] at hl
  have hsz : 0 < xs.size := by simpa using hne
  refine max_intTup (I.ok.hd hc) (show s.heap.IsTuple a _ from hl) hsz fun v h' tk hv hk => ?_
  obtain ⟨t, rfl⟩ := intItems_at hv
  obtain ⟨h1, h2⟩ := argBest_gt (numAt xs) (xs.size - 1)
  refine ⟨.int _, H, I.kept hk, ⟨_, rfl⟩, q _ ?_ fun a ha => ?_⟩
  · rw [numAt_eq]; exact PySem.getD_mem (by rw [List.length_map, Array.length_toList]; omega)
  · obtain ⟨j, hj, rfl⟩ := mem_getD ha
    rw [List.length_map, Array.length_toList] at hj
    rw [← numAt_eq]; exact h2 j (by omega)
theorem cr_minT (hc : X.calm = true) : CallR X (.builtin "min") (fun vs H Q => ∃ (a : Addr) (ns : List Int), vs = [V.ref a] ∧ SqT X.K H a (ns.map V.int) ∧ 0 < ns.length ∧ ∀ m, m ∈ ns → (∀ y, y ∈ ns → m ≤ y) → Q (.int m) H) := by
  intro pins s σ H vs us Q I r h
  obtain ⟨a, ns, rfl, hs, hne, q⟩ := h
  obtain ⟨its, rv, hl, _⟩ := I.tuple hs
  rw [Vals.ref1 r]
  have hi := rv.ints
  obtain ⟨xs, e⟩ := hi.allInts.items
  have hn : numsOf (intItems xs).toList = ns := by rw [← e]; exact hi.numsOf
  rw [nums_intItems] at hn
  subst hn
  rw [e] at hl
  have hsz : 0 < xs.size := by simpa using hne
  refine min_intTup (I.ok.hd hc) (show s.heap.IsTuple a _ from hl) hsz fun v h' tk hv hk => ?_
  obtain ⟨t, rfl⟩ := intItems_at hv
  obtain ⟨h1, h2⟩ := argBest_lt (numAt xs) (xs.size - 1)
  refine ⟨.int _, H, I.kept hk, ⟨_, rfl⟩, q _ ?_ fun a ha => ?_⟩
  · rw [numAt_eq]; exact PySem.getD_mem (by rw [List.length_map, Array.length_toList]; omega)
  · obtain ⟨j, hj, rfl⟩ := mem_getD ha
    rw [List.length_map, Array.length_toList] at hj
    rw [← numAt_eq]; exact h2 j (by omega)
end
end Rx
set_option maxHeartbeats 1000000
/-! RxC: the operations of the language against the layer's rules. -/
namespace Rx
open PySem PySem.Spec PyProof.Rows L2

/-- data that may be read: shared, or owned by a slot -/
def OB (K : Gm) (H : Hp) (F : Addr → Prop) (d : D) (v : V) : Prop := Rep K H F d v ∨ ∃ p, v = .ref p ∧ Cn false K H F d p
/-- what a rule has to give -/
def PQ (K : Gm) (H : Hp) (F : Addr → Prop) (o : Bool) (d : D) (Q : VK) : Prop :=
  ∀ v H', Same H H' → (if o then ∃ p, v = .ref p ∧ H p = none ∧ Cn true K H' (fun a => F a ∨ a = p) d p else Rep K H' F d v) → Q v H'
section
variable {K : Gm} {H : Hp} {F : Addr → Prop} {v w : V} {Q : VK} {d : D}
theorem OB.non (h : OB K H F .non v) : v = .non := by
  rcases h with h | ⟨p, _, h⟩
  · cases h; rfl
  · exact h.elim
theorem OB.bl {b : Bool} (h : OB K H F (.bl b) v) : v = .bl b := by
  rcases h with h | ⟨p, _, h⟩
  · cases h; rfl
  · exact h.elim
theorem OB.int {b : Int} (h : OB K H F (.int b) v) : v = .int b := by
  rcases h with h | ⟨p, _, h⟩
  · cases h; rfl
  · exact h.elim
theorem OB.str {b : Str} (h : OB K H F (.str b) v) : v = .str b := by
  rcases h with h | ⟨p, _, h⟩
  · cases h; rfl
  · exact h.elim
theorem OB.tup {ds : List D} (h : OB K H F (.tup ds) v) : ∃ p vs, v = .ref p ∧ (H p = some (.tup vs) ∨ (KresT K.K p vs ∧ D.tup ds ∈ K.G)) ∧ SqT K.K H p vs ∧ ds.length ≤ SZ ∧ Reps K H F ds vs := by
  rcases h with h | ⟨p, _, h⟩
  · cases h with
    | tup q z l r =>
      refine ⟨_, _, rfl, q, ?_, z, l, r⟩
      rcases q with q | ⟨q, _⟩
      · exact .inl (.inl q)
      · exact .inr q
  · exact h.elim
theorem OB.lst {ds : List D} (h : OB K H F (.lst ds) v) : ∃ p vs, v = .ref p ∧ H p = some (.lst vs) ∧ ds.length ≤ SZ ∧ Reps K H F ds vs := by
  rcases h with h | ⟨p, e, h⟩
  · cases h with
    | lst q n z l r => exact ⟨_, _, rfl, q, z, l, r⟩
  · obtain ⟨vs, q, z, r⟩ := h
    exact ⟨p, vs, e, q, z, r⟩
theorem OB.frl {ds : List D} (h : OB K H F (.frl ds) v) : ∃ p vs, v = .ref p ∧ SqL K.K H p vs ∧ ds.length ≤ SZ ∧ Reps K H F ds vs := by
  rcases h with h | ⟨p, e, h⟩
  · cases h with
    | frl q z l r =>
      refine ⟨_, _, rfl, ?_, z, l, r⟩
      rcases q with ⟨q, _⟩ | q
      · exact .inl q
      · exact .inr q
  · exact h.elim
theorem OB.dk {ks : List Key} {ds : List D} (h : OB K H F (.dk ks ds) v) : ∃ p kvs, v = .ref p ∧ Rd H p (.dK kvs) ∧ kvs.map (·.1) = ks ∧ ks.length = ds.length ∧ Reps K H F ds (kvs.map (·.2)) := by
  rcases h with h | ⟨p, e, h⟩
  · cases h with
    | dk q n k l r => exact ⟨_, _, rfl, q, k, l, by simp [← l, ← k], r⟩
  · obtain ⟨kvs, q, k, l, r⟩ := h
    exact ⟨p, kvs, e, q, k, l, r⟩
theorem OB.dt {ks : List (List Key)} {ds : List D} (h : OB K H F (.dt ks ds) v) : ∃ p kvs, v = .ref p ∧ Rd H p (.dT kvs) ∧ kvs.map (·.1) = ks ∧ ks.length = ds.length ∧ Reps K H F ds (kvs.map (·.2)) := by
  rcases h with h | ⟨p, e, h⟩
  · cases h with
    | dt q n k l r => exact ⟨_, _, rfl, q, k, l, by simp [← l, ← k], r⟩
  · obtain ⟨kvs, q, k, l, r⟩ := h
    exact ⟨p, kvs, e, q, k, l, r⟩
/-- a result that lies already -/
theorem PQ.rep {v : V} (q : PQ K H F false d Q) (h : Rep K H F d v) : Q v H := q v H (Same.refl H) (by rw [if_neg Bool.false_ne_true]; exact h)
theorem PQ.int {i : Int} (q : PQ K H F false (.int i) Q) : Q (.int i) H := q.rep (.int i)
theorem PQ.bl {i : Bool} (q : PQ K H F false (.bl i) Q) : Q (.bl i) H := q.rep (.bl i)
theorem PQ.str {i : Str} (q : PQ K H F false (.str i) Q) : Q (.str i) H := q.rep (.str i)
theorem PQ.non (q : PQ K H F false .non Q) : Q .non H := q.rep .non
/-- a new tuple -/
theorem PQ.newT {ds : List D} {vs : List V} (q : PQ K H F false (.tup ds) Q) (r : Reps K H F ds vs) (z : ds.length ≤ SZ) (hF : ∀ a, F a → H a ≠ none) (p : Addr) (np : H p = none) : Q (.ref p) (upd H p (.tup vs)) := by
  have st : Stay H (upd H p (.tup vs)) F F fun _ => False := .same (same_upd' np) fun a z => .inl z
  have r' := r.stay st
  exact q _ _ (same_upd' np) (by rw [if_neg Bool.false_ne_true]; exact Rep.tup (.inl upd_same) z r'.l r'.r)
/-- a new list -/
theorem PQ.newL {ds : List D} {vs : List V} (q : PQ K H F true (.lst ds) Q) (r : Reps K H F ds vs) (z : ds.length ≤ SZ) (p : Addr) (np : H p = none) : Q (.ref p) (upd H p (.lst vs)) := by
  have st : Stay H (upd H p (.lst vs)) F (fun a => F a ∨ a = p) fun _ => False := .same (same_upd' np) fun a z => by
    rcases z with z | z
    · exact .inl z
    · exact .inr (by rw [z]; exact np)
  exact q _ _ (same_upd' np) (by rw [if_pos rfl]; exact ⟨p, rfl, np, vs, upd_same, z, r.stay st⟩)
theorem sz_line : SZ = sizeLine := by rw [sizeLine_eq]
theorem SqL.at {K : PySem.W.Frag} {a : Addr} {vs : List V} (h : H a = some (.lst vs)) : SqL K H a vs := .inl (.inl h)

/-! ### rows of ints, bools -/
theorem isInts_eq : ∀ {xs : List D} {l : List Int}, isInts xs = some l → xs = l.map .int
  | [], l, h => by cases h; rfl
  | x :: r, l, h => by
    cases x with
    | int i =>
      unfold isInts at h
      cases q : isInts r with
      | none => rw [q] at h; cases h
      | some l' => rw [q] at h; cases h; rw [isInts_eq q]; rfl
    | _ => cases h
theorem isBls_eq : ∀ {xs : List D} {l : List Bool}, isBls xs = some l → xs = l.map .bl
  | [], l, h => by cases h; rfl
  | x :: r, l, h => by
    cases x with
    | bl i =>
      unfold isBls at h
      cases q : isBls r with
      | none => rw [q] at h; cases h
      | some l' => rw [q] at h; cases h; rw [isBls_eq q]; rfl
    | _ => cases h
theorem Reps.ints : ∀ {ns : List Int} {vs : List V}, Reps K H F (ns.map .int) vs → vs = ns.map .int
  | [], vs, r => r.nil_inv
  | n :: ns, vs, r => by
    obtain ⟨w, ws, rfl, h, t⟩ := Reps.cons_inv (d := .int n) r
    cases h
    rw [Reps.ints t]; rfl
theorem Reps.bls : ∀ {ns : List Bool} {vs : List V}, Reps K H F (ns.map .bl) vs → vs = ns.map .bl
  | [], vs, r => r.nil_inv
  | n :: ns, vs, r => by
    obtain ⟨w, ws, rfl, h, t⟩ := Reps.cons_inv (d := .bl n) r
    cases h
    rw [Reps.bls t]; rfl
theorem maxL_ge : ∀ (l : List Int) (m : Int), m ≤ maxL m l ∧ (∀ y ∈ l, y ≤ maxL m l) ∧ (maxL m l = m ∨ maxL m l ∈ l)
  | [], m => ⟨Int.le_refl m, by simp, .inl rfl⟩
  | x :: r, m => by
    unfold maxL
    by_cases hx : m < x
    · rw [if_pos hx]
      obtain ⟨h1, h2, h3⟩ := maxL_ge r x
      refine ⟨by omega, fun y hy => ?_, ?_⟩
      · rcases List.mem_cons.mp hy with rfl | hy
        · exact h1
        · exact h2 y hy
      · rcases h3 with h3 | h3
        · exact .inr (by rw [h3]; exact List.mem_cons_self)
        · exact .inr (List.mem_cons_of_mem _ h3)
    · rw [if_neg hx]
      obtain ⟨h1, h2, h3⟩ := maxL_ge r m
      refine ⟨h1, fun y hy => ?_, ?_⟩
      · rcases List.mem_cons.mp hy with rfl | hy
        · omega
        · exact h2 y hy
      · rcases h3 with h3 | h3
        · exact .inl h3
        · exact .inr (List.mem_cons_of_mem _ h3)
theorem minL_le : ∀ (l : List Int) (m : Int), minL m l ≤ m ∧ (∀ y ∈ l, minL m l ≤ y) ∧ (minL m l = m ∨ minL m l ∈ l)
  | [], m => ⟨Int.le_refl m, by simp, .inl rfl⟩
  | x :: r, m => by
    unfold minL
    by_cases hx : x < m
    · rw [if_pos hx]
      obtain ⟨h1, h2, h3⟩ := minL_le r x
      refine ⟨by omega, fun y hy => ?_, ?_⟩
      · rcases List.mem_cons.mp hy with rfl | hy
        · exact h1
        · exact h2 y hy
      · rcases h3 with h3 | h3
        · exact .inr (by rw [h3]; exact List.mem_cons_self)
        · exact .inr (List.mem_cons_of_mem _ h3)
    · rw [if_neg hx]
      obtain ⟨h1, h2, h3⟩ := minL_le r m
      refine ⟨h1, fun y hy => ?_, ?_⟩
      · rcases List.mem_cons.mp hy with rfl | hy
        · omega
        · exact h2 y hy
      · rcases h3 with h3 | h3
        · exact .inl h3
        · exact .inr (List.mem_cons_of_mem _ h3)
theorem max_is {x : Int} {l : List Int} {m : Int} (h1 : m ∈ x :: l) (h2 : ∀ y, y ∈ x :: l → y ≤ m) : m = maxL x l := by
  obtain ⟨a, b, c⟩ := maxL_ge l x
  have e1 : maxL x l ≤ m := by
    rcases c with c | c
    · rw [c]; exact h2 x List.mem_cons_self
    · exact h2 _ (List.mem_cons_of_mem _ c)
  have e2 : m ≤ maxL x l := by
    rcases List.mem_cons.mp h1 with e | e
    · rw [e]; exact a
    · exact b m e
  omega
theorem min_is {x : Int} {l : List Int} {m : Int} (h1 : m ∈ x :: l) (h2 : ∀ y, y ∈ x :: l → m ≤ y) : m = minL x l := by
  obtain ⟨a, b, c⟩ := minL_le l x
  have e1 : m ≤ minL x l := by
    rcases c with c | c
    · rw [c]; exact h2 x List.mem_cons_self
    · exact h2 _ (List.mem_cons_of_mem _ c)
  have e2 : minL x l ≤ m := by
    rcases List.mem_cons.mp h1 with e | e
    · rw [e]; exact a
    · exact b m e
  omega
/-- the one sorted row of ints -/
theorem sorted_is {l ns : List Int} (hp : ns.Perm l) (hs : ns.Pairwise (· ≤ ·)) : ns = l.mergeSort fun a b => decide (a ≤ b) := by
  have p2 := List.mergeSort_perm l fun a b => decide (a ≤ b)
  have s2 := List.pairwise_mergeSort (le := fun a b : Int => decide (a ≤ b)) (fun a b c h1 h2 => decide_eq_true (Int.le_trans (of_decide_eq_true h1) (of_decide_eq_true h2)))
    (fun a b => by simp only [Bool.or_eq_true, decide_eq_true_eq]; exact Int.le_total a b) l
  refine List.Perm.eq_of_pairwise (le := (· ≤ ·)) (fun a b _ _ h1 h2 => Int.le_antisymm h1 h2) hs (s2.imp fun h => of_decide_eq_true h) (hp.trans p2.symm)
end
end Rx
set_option maxHeartbeats 1000000
/-! RxC1: sorted of tuples of ints, the first of them empty. -/
namespace Rx
open PySem PySem.Spec PyProof.Rows L2
open PySem.W (Looks kas_mapM kas_first_eq)
/-- v is a tuple of these numbers -/
def IsTI (h : Heap) (v : Value) (ns : List Int) : Prop := ∃ (t : Addr) (items : Array Value), v = .ref t ∧ IsTup h t items ∧ IntsAre items.toList ns
theorem IsTI.keeps {h h' : Heap} {v : Value} {ns : List Int} (x : IsTI h v ns) (k : ∀ b o, v = .ref b → h.get? b = some o → h'.get? b = some o) : IsTI h' v ns := by
  obtain ⟨t, items, rfl, ⟨o, ho, hc, n, hd⟩, i⟩ := x
  exact ⟨t, items, rfl, ⟨o, k _ _ rfl ho, hc, n, hd⟩, i⟩
section
variable {prog : Program} {w : World} {A : Around} {E : Value → Shared → Prop} {s : Shared}
theorem oneLt_tups {v u : Value} {ns ms : List Int} {Q : Bool → Shared → Prop} (hu : A.units < cLine) (hv : IsTI s.heap v ns) (hw : IsTI s.heap u ms) (h : Q (HT.lexLt ns ms) s) : wpAny (model prog w) A (oneLt' true v u) Q E s := by
  obtain ⟨l, items, rfl, ⟨⟨cls, dd, data, sl⟩, ho, hc, n, hd⟩, hi⟩ := hv
  obtain ⟨b, items2, rfl, ⟨⟨cls2, dd2, data2, sl2⟩, ho2, hc2, n2, hd2⟩, hj⟩ := hw
  simp only at hc hd hc2 hd2
  subst hc hd hc2 hd2
  rw [oneLt'_eq]
  simp only [if_true]
  refine wpAny_bind (wpAny_cRoomFor hu ?_)
  refine wpAny_bind (wpAny_callSpecialIfBound?_slot (T := "tuple") ⟨_, ho, rfl⟩ PySem.F.slot_tuple_lt (call_meets PySem.F.slot_tuple_lt ⟨_, ho, rfl⟩ PySem.F.entry_tuple_lt (PySem.F.args_tuple_lt_2 _ _) (HT.tuple_lt_ints l b items items2 n n2 dd dd2 sl sl2 ns ms hi hj) ⟨ho, ho2, ?_⟩))
  exact wpAny_truthy_bool h
theorem mapM_each {α β : Type} {M : Model} {f : α → Sem β} {r : α → β} : ∀ (l : List α) {Q : List β → Shared → Prop}, (∀ v ∈ l, ∀ (Q' : β → Shared → Prop), Q' (r v) s → wpAny M A (f v) Q' E s) → Q (l.map r) s → wpAny M A (l.mapM f) Q E s
  | [], _, _, h => by rw [List.mapM_nil]; exact wpAny_pure h
  | x :: l, Q, hf, h => by
    rw [List.mapM_cons]
    exact wpAny_bind (hf x (.head _) _ (wpAny_bind (mapM_each l (r := r) (Q := fun bs s' => wpAny M A (pure (r x :: bs)) Q E s') (fun v hv => hf v (.tail _ hv)) (wpAny_pure h))))
/-- the numbers of a tuple -/
noncomputable def tiOf (h : Heap) (v : Value) : Option Value := match v with
  | .ref t => (match h.get? t with
    | some ⟨_, _, .seq items _, _⟩ => items[0]?
    | _ => none)
  | _ => none
theorem first_tup {M : Model} {v : Value} {ns : List Int} (hv : IsTI s.heap v ns) {Q : Option Value → Shared → Prop} (h : Q (tiOf s.heap v) s) : wpAny M A (firstOfTuple' v) Q E s := by
  obtain ⟨l, items, rfl, ⟨⟨cls, dd, data, sl⟩, ho, hc, n, hd⟩, hi⟩ := hv
  simp only at hc hd
  subst hc hd
  have hT : Looks M s.heap (typeOf (.ref l)) (.type "tuple") := (Looks.ld ho).andThen .now
  rw [kas_first_eq]
  refine wpAny_bind (hT.here ?_)
  rw [if_neg (by decide +kernel)]
  refine wpAny_bind (listItems_at ho rfl (wpAny_pure ?_))
  have e : tiOf s.heap (.ref l) = items[0]? := by
    unfold tiOf
    simp only [ho]
  rw [← e]
  exact h
theorem tups_kind {M : Model} {v0 : Value} {vs : List Value} {k : Value → List Int} {Q : SortKind → Shared → Prop} (hv : ∀ v ∈ v0 :: vs, IsTI s.heap v (k v)) (h0 : k v0 = []) (h : Q oneType' s) : wpAny M A (keyKind' (v0 :: vs).toArray) Q E s := by
  have hf0 : tiOf s.heap v0 = none := by
    obtain ⟨l, items, rfl, ⟨⟨cls, dd, data, sl⟩, ho, hc, n, hd⟩, hi⟩ := hv v0 (by simp)
    simp only at hc hd
    subst hc hd
    unfold tiOf
    simp only [ho]
    rw [h0] at hi
    obtain ⟨il⟩ := items
    cases hi
    rfl
  rw [kat_kind_eq, List.mapM_toArray, map_eq_pure_bind]
  refine wpAny_bind (wpAny_bind (mapM_each (r := tiOf s.heap) _ (fun v m Q' hq => first_tup (hv v m) hq) (wpAny_pure ?_)))
  rw [if_neg (by simp [hf0]), if_neg (by simp [hf0])]
  rw [oneTypeOnly'_eq, List.mapM_toArray, map_eq_pure_bind]
  refine wpAny_bind (wpAny_bind (wpAny_bind (kas_mapM (r := Value.type "tuple") _ (fun v m Q' hq => ?_) (wpAny_pure ?_))))
  · obtain ⟨l, items, rfl, ⟨⟨cls, dd, data, sl⟩, ho, hc, n, hd⟩, hi⟩ := hv v m
    simp only at hc
    subst hc
    have hT : Looks M s.heap (typeOf (.ref l)) (.type "tuple") := (Looks.ld ho).andThen .now
    exact hT.here hq
  · have hall : ((List.map (fun _ => Value.type "tuple") (v0 :: vs)).toArray.all fun x => x == Value.type "tuple") = true := by
      simp only [List.all_toArray, List.all_map, List.all_eq_true]
      intro _ _
      show (Value.type "tuple" == Value.type "tuple") = true
      decide +kernel
    have h1 : (List.map (fun _ => Value.type "tuple") (v0 :: vs)).toArray[0]? = some (Value.type "tuple") := by simp
    rw [h1]
    simp only [hall, if_true]
    exact wpAny_pure (wpAny_pure h)
theorem tups_sortable {a : Addr} {v0 : Value} {vs : List Value} {k : Value → List Int} (hu : A.units < cLine) (hv : ∀ v ∈ v0 :: vs, IsTI s.heap v (k v)) (h0 : k v0 = []) (ha : ∀ v ∈ v0 :: vs, v ≠ .ref a) :
    SrtO.SortableO prog w A s a (v0 :: vs) fun v u => HT.lexLt (k v) (k u) := by
  intro h' keep
  have hv' : ∀ v ∈ v0 :: vs, IsTI h' v (k v) := fun v hm => (hv v hm).keeps fun b o e g => keep b o (fun z => ha v hm (by rw [e, z])) g
  refine ⟨oneType', fun Q E hq => tups_kind (s := { s with heap := h' }) hv' h0 hq, ?_⟩
  intro p q hp hq
  exact oneLt_tups (s := { s with heap := h' }) (Q := fun r s' => s' = { s with heap := h' } ∧ r = HT.lexLt (k p.1) (k q.1)) (E := fun _ _ => False) hu (hv' p.1 hp) (hv' q.1 hq) ⟨rfl, rfl⟩
end
/-- the numbers of a tuple, off the heap -/
def numOf : Value → Int
  | .int i _ => i
  | _ => 0
noncomputable def tInts (h : Heap) (v : Value) : List Int := match v with
  | .ref t => (match h.get? t with
    | some ⟨_, _, .seq items _, _⟩ => items.toList.map numOf
    | _ => [])
  | _ => []
theorem ints_num : ∀ {us : List Value} {ns : List Int}, IntsAre us ns → us.map numOf = ns
  | _, _, .nil => rfl
  | _, _, .cons a t h => by rw [List.map_cons, ints_num h]; rfl
theorem IsTI.is {h : Heap} {v : Value} {ns : List Int} (x : IsTI h v ns) : tInts h v = ns := by
  obtain ⟨l, items, rfl, ⟨⟨cls, dd, data, sl⟩, ho, hc, n, hd⟩, hi⟩ := x
  simp only at hc hd
  subst hc hd
  unfold tInts
  simp only [ho]
  exact ints_num hi
/-- a tuple of these numbers, over the layer -/
def TupI (K : PySem.W.Frag) (H : Hp) (v : V) (ns : List Int) : Prop := ∃ t, v = V.ref t ∧ SqT K H t (ns.map V.int)
/-- sorted(xs), xs a list of tuples of ints: a new list, sorted -/
def rSortedTI (K : PySem.W.Frag) : List V → Hp → VK → Prop := fun vs H Q => ∃ (a : Addr) (xs : List V) (l : List (List Int)), vs = [V.ref a] ∧ SqL K H a xs ∧ xs.length = l.length ∧ (∀ (i : Nat) x ns, xs[i]? = some x → l[i]? = some ns → TupI K H x ns) ∧ tupsOk l = true ∧
  ∀ (zs : List (V × List Int)) p, zs.Perm (xs.zip l) → zs.Pairwise (fun x y => HT.lexLt y.2 x.2 = false) → H p = none → Q (.ref p) (upd H p (.lst (zs.map (·.1))))
theorem lex2 {a b c d : Int} : HT.lexLt [a, b] [c, d] = SrtO.lexB (a, b) (c, d) := by
  rw [HT.lexLt_cons, HT.lexLt_cons, HT.lexLt_nil_nil]
  unfold SrtO.lexB
  by_cases h : a = c
  · rw [if_pos h, if_pos h]
    by_cases h2 : b = d
    · rw [if_pos h2]; simp [h2]
    · rw [if_neg h2]
  · rw [if_neg h, if_neg h]
theorem zip_map2 {α β γ : Type} {f : γ → α} {g : γ → β} : ∀ (us : List γ), (us.map f).zip (us.map g) = us.map fun u => (f u, g u)
  | [] => rfl
  | u :: us => by simp [zip_map2 us]
variable {X : Cx}
theorem cr_sortedTI (hu : X.A.units + 65 < cLine) : CallR X (.builtin "sorted") (rSortedTI X.K) := by
  intro pins s σ H vs us Q I r h
  obtain ⟨a, xs, l, rfl, hs, hlen, hx, hok, q⟩ := h
  obtain ⟨its, rv, hl, hz⟩ := I.list hs
  obtain ⟨u, rfl, ru⟩ := vals1 r
  obtain rfl : u = Value.ref a := ru
  have each : ∀ x ∈ xs, ∃ ns ∈ l, TupI X.K H x ns := fun x m => by
    obtain ⟨i, hi, e⟩ := List.getElem_of_mem m
    have hi' : i < l.length := by omega
    exact ⟨l[i], List.getElem_mem hi', hx i x l[i] (by rw [List.getElem?_eq_getElem hi, e]) (List.getElem?_eq_getElem hi')⟩
  obtain ⟨e1, e2⟩ := refs_back rv fun x m => by
    obtain ⟨ns, _, t, e, _⟩ := each x m
    exact ⟨t, e⟩
  have one : ∀ (u : Value) ns, u ∈ its → TupI X.K H (backV u) ns → IsTI s.heap u ns := fun u ns hu ht => by
    obtain ⟨t, rfl⟩ := e2 u hu
    obtain ⟨t', e, ht⟩ := ht
    cases e
    obtain ⟨its2, r2, p2, _⟩ := I.tuple ht
    exact ⟨t, its2.toArray, rfl, p2, intsAre_of r2⟩
  have hti : ∀ v ∈ its, tInts s.heap v ∈ l ∧ IsTI s.heap v (tInts s.heap v) := fun v hv => by
    obtain ⟨ns, hm, ht⟩ := each (backV v) (by rw [e1]; exact List.mem_map.mpr ⟨_, hv, rfl⟩)
    have z := one v ns hv ht
    rw [z.is]
    exact ⟨hm, z⟩
  have el : its.map (tInts s.heap) = l := by
    have hl2 : its.length = l.length := by rw [← hlen, e1, List.length_map]
    refine List.ext_getElem (by simpa using hl2) fun i h1 h2 => ?_
    have hi : i < its.length := by simpa using h1
    rw [List.getElem_map]
    refine (one its[i] l[i] (List.getElem_mem hi) (hx i _ _ ?_ (List.getElem?_eq_getElem h2))).is
    rw [e1, List.getElem?_map, List.getElem?_eq_getElem hi]
    rfl
  have fin : ∀ out : List Value, out.Perm its → out.Pairwise (fun x y => HT.lexLt (tInts s.heap y) (tInts s.heap x) = false) → ∀ p, H p = none → Q (.ref p) (upd H p (.lst (out.map backV))) := fun out hp hs p np => by
    have := q (out.map fun u => (backV u, tInts s.heap u)) p (by rw [e1, ← el, zip_map2]; exact hp.map _) (List.pairwise_map.mpr hs) np
    rw [List.map_map] at this
    exact this
  have lay : ∀ out : List Value, out.Perm its → (∀ u ∈ out, ∃ a, u = Value.ref a) ∧ (out.map backV).length ≤ sizeLine := fun out hp => ⟨fun u hu => e2 u (hp.mem_iff.mp hu), by rw [List.length_map, hp.length_eq, ← rv.length]; exact hz⟩
  unfold tupsOk at hok
  rcases Bool.or_eq_true _ _ |>.mp hok with h0 | h0
  · have h0 : l.head? = some [] := of_decide_eq_true h0
    refine SrtO.sorted_ord (NtL.swo_lexL fun u => tInts s.heap u) hl.isList (by rw [← rv.length]; exact hz) (fun h2 h₁ a' ha kk => ?_) fun out h1 h2 => ?_
    · cases its with
      | nil => simp at h2
      | cons v0 rest =>
        refine tups_sortable (s := { s with heap := h₁ }) ?_ (fun v hv => (hti v hv).2.keeps fun b o e g => (kk b o g).2) ?_ fun v hv e => ?_
        · show X.A.units + 1 + 1 < cLine
          omega
        · rw [← el] at h0
          simpa using h0
        · obtain ⟨t, items, e', ⟨o, ho, _⟩, _⟩ := (hti v hv).2
          rw [e] at e'
          cases e'
          exact (kk _ o ho).1 rfl
    · obtain ⟨ep, he'⟩ := PyProof.Rows.sortedAll_at s.heap its out.toArray
      obtain ⟨l1, l2⟩ := lay out h2.perm
      exact ⟨.ref _, upd H (s.heap.objs.size + 1) (.lst (out.map backV)), I.laid (t' := s.toks) (fun _ _ => PyProof.Rows.sortedAll_old) (Nat.le_succ _) ⟨l2, out, ep, vals_back l1, he'⟩, rfl, fin out h2.perm h1 _ (I.hok.fresh (Nat.le_succ _))⟩
  · have h2l : ∀ v ∈ its, ∃ x y, tInts s.heap v = [x, y] := fun v hv => by
      have := List.all_eq_true.mp h0 _ (hti v hv).1
      match tInts s.heap v, this with
      | [x, y], _ => exact ⟨x, y, rfl⟩
    refine SrtO.sorted_pairsO (k := fun v => ((tInts s.heap v).getD 0 0, (tInts s.heap v).getD 1 0)) hl.isList (by rw [← rv.length]; exact hz) (fun v hv => ?_) fun h' d out h1 h2 kp hd hn => ?_
    · obtain ⟨x, y, e⟩ := h2l v hv
      obtain ⟨t, items, rfl, ⟨o, ho, hc, n, hd⟩, hi⟩ := (hti v hv).2
      rw [e] at hi ⊢
      obtain ⟨il⟩ := items
      cases hi with
      | cons a t1 hi => cases hi with
        | cons b t2 hi => cases hi; exact ⟨t, o, t1, t2, n, rfl, ho, hc, hd⟩
    · obtain ⟨n, hn⟩ := hn
      obtain ⟨l1, l2⟩ := lay out h2.perm
      refine ⟨.ref d, upd H d (.lst (out.map backV)), I.laid (t' := s.toks) kp hd ⟨l2, out, n, vals_back l1, hn⟩, rfl, fin out h2.perm ?_ d (I.hok.fresh hd)⟩
      refine List.Pairwise.imp_of_mem (fun {x y} mx my hxy => ?_) h1
      obtain ⟨a, b, ea⟩ := h2l x (h2.perm.mem_iff.mp mx)
      obtain ⟨c, d', ec⟩ := h2l y (h2.perm.mem_iff.mp my)
      dsimp only at hxy
      rw [ea, ec] at hxy ⊢
      rw [lex2]
      exact hxy
theorem ltL_eq : ∀ (a b : List Int), ltL a b = HT.lexLt a b
  | [], [] => by rw [ltL, HT.lexLt_nil_nil]
  | [], _ :: _ => by rw [ltL, HT.lexLt_nil_cons]
  | _ :: _, [] => by rw [ltL, HT.lexLt_cons_nil]
  | x :: xs, y :: ys => by
    rw [ltL, HT.lexLt_cons, ltL_eq xs ys]
theorem ltL_anti : ∀ (a b : List Int), ltL a b = false → ltL b a = false → a = b
  | [], [], _, _ => rfl
  | [], _ :: _, h, _ => by simp [ltL] at h
  | _ :: _, [], _, h => by simp [ltL] at h
  | x :: xs, y :: ys, h1, h2 => by
    unfold ltL at h1 h2
    by_cases e : x = y
    · rw [if_pos e] at h1
      rw [if_pos e.symm] at h2
      rw [e, ltL_anti xs ys h1 h2]
    · rw [if_neg e] at h1
      rw [if_neg (fun z => e z.symm)] at h2
      have := of_decide_eq_false h1
      have := of_decide_eq_false h2
      omega
theorem ltL_tr (a b c : List Int) (h1 : ltL b a = false) (h2 : ltL c b = false) : ltL c a = false := by
  rw [ltL_eq] at h1 h2 ⊢
  exact NtL.lex_tr _ _ _ h1 h2
theorem ltL_asym (a b : List Int) (h : ltL a b = true) : ltL b a = false := by
  rw [ltL_eq] at h ⊢
  exact NtL.lex_asym _ _ h
theorem sortTI_perm (l : List (List Int)) : (sortTI l).Perm l := List.mergeSort_perm l _
theorem sortTI_sorted (l : List (List Int)) : (sortTI l).Pairwise fun a b => ltL b a = false := by
  have := List.pairwise_mergeSort (le := fun a b : List Int => !ltL b a) (fun a b c h1 h2 => by
    simp only [Bool.not_eq_true'] at h1 h2 ⊢
    exact ltL_tr a b c h1 h2) (fun a b => by
    cases h : ltL b a with
    | false => simp
    | true => simp [ltL_asym _ _ h]) l
  exact this.imp fun h => by simpa using h
/-- the one sorted row -/
theorem sortTI_is {l zs : List (List Int)} (hp : zs.Perm l) (hs : zs.Pairwise fun a b => ltL b a = false) : zs = sortTI l :=
  List.Perm.eq_of_pairwise (le := fun a b => ltL b a = false) (fun a b _ _ h1 h2 => ltL_anti a b h2 h1) hs (sortTI_sorted l) (hp.trans (sortTI_perm l).symm)
theorem isTups_eq : ∀ {xs : List D} {l : List (List Int)}, isTups xs = some l → xs = l.map tupD
  | [], l, h => by cases h; rfl
  | x :: r, l, h => by
    cases x with
    | tup ds =>
      unfold isTups at h
      split at h
      · rename_i l1 ls h1 h2
        cases h
        rw [List.map_cons, ← isTups_eq h2, tupD, ← isInts_eq h1]
      · cases h
    | _ => cases h
end Rx
set_option maxHeartbeats 1000000
/-! RxD: each operation, over its rules. -/
namespace Rx
open PySem PySem.Spec PyProof.Rows L2
section
variable {X : Cx} {G : List D}
/-- what a one-place operation's rule has to give -/
def Ok1 (X : Cx) (f : Value) (g : D → Option (Bool × D)) : Prop := ∃ r, CallR X f r ∧
  ∀ (G : List D) (H : Hp) (F : Addr → Prop) (v : V) (d : D) (o : Bool) (d' : D) (Q : VK), (∀ a, F a → H a ≠ none) → OB ⟨X.K, G⟩ H F d v → g d = some (o, d') → PQ ⟨X.K, G⟩ H F o d' Q → r [v] H Q
def P1.fv : P1 → Option (String × Value)
  | .len => some ("len", .builtin "len")
  | .tupleOf => some ("tuple", .type "tuple")
  | .listOf => some ("list", .type "list")
  | .sum => some ("sum", .builtin "sum")
  | .max1 => some ("max", .builtin "max")
  | .min1 => some ("min", .builtin "min")
  | .abs => some ("abs", .builtin "abs")
  | .int => some ("int", .type "int")
  | .bool => some ("bool", .type "bool")
  | .all => some ("all", .builtin "all")
  | .any => some ("any", .builtin "any")
  | .sorted => some ("sorted", .builtin "sorted")
  | .neg => none
theorem call_lenD : CallR X (.builtin "len") (fun xs H Q => ∃ p kvs, xs = [.ref p] ∧ Rd H p (.dK kvs) ∧ Q (.int (kvs.length : Nat)) H) := by
  intro pins s σ H xs us Q I r h
  obtain ⟨p, kvs, rfl, e, q⟩ := h
  rw [Vals.ref1 r]
  exact d_len I e fun t s' I' => ⟨.int _, H, I', ⟨_, rfl⟩, q⟩
theorem ok_len : Ok1 X (.builtin "len") (pr1 .len) := by
  refine ⟨_, call_len.or call_lenD, fun G H F v d o d' Q hF hb hg q => ?_⟩
  cases d with
  | tup ds =>
    cases hg
    obtain ⟨p, vs, rfl, g, h, z, r⟩ := hb.tup
    exact .inl ⟨_, _, rfl, .inr ⟨vs, h, rfl⟩, by rw [r.l]; exact q.int⟩
  | lst ds =>
    cases hg
    obtain ⟨p, vs, rfl, h, z, r⟩ := hb.lst
    exact .inl ⟨_, _, rfl, .inl ⟨vs, SqL.at h, rfl⟩, by rw [r.l]; exact q.int⟩
  | frl ds =>
    cases hg
    obtain ⟨p, vs, rfl, h, z, r⟩ := hb.frl
    exact .inl ⟨_, _, rfl, .inl ⟨vs, h, rfl⟩, by rw [r.l]; exact q.int⟩
  | str x =>
    cases hb.str
    simp only [pr1] at hg
    split at hg
    · rename_i hz
      cases hg
      exact .inl ⟨_, _, rfl, ⟨by rw [← sz_line]; exact hz, rfl⟩, q.int⟩
    · cases hg
  | dk ks ds =>
    cases hg
    obtain ⟨p, kvs, rfl, h, k, l, r⟩ := hb.dk
    refine .inr ⟨p, kvs, rfl, h, ?_⟩
    have e : kvs.length = ks.length := by rw [← k, List.length_map]
    rw [e]; exact q.int
  | _ => cases hg
theorem ok_tupleOf : Ok1 X (.type "tuple") (pr1 .tupleOf) := by
  refine ⟨_, call_tuple_of, fun G H F v d o d' Q hF hb hg q => ?_⟩
  cases d with
  | tup ds =>
    cases hg
    obtain ⟨p, vs, rfl, g, h, z, r⟩ := hb.tup
    exact ⟨p, vs, rfl, .inr ⟨h, q.rep (.tup g z r.l r.r)⟩⟩
  | lst ds =>
    cases hg
    obtain ⟨p, vs, rfl, h, z, r⟩ := hb.lst
    exact ⟨p, vs, rfl, .inl ⟨SqL.at h, fun l nl => q.newT r z hF l nl⟩⟩
  | _ => cases hg
theorem ok_listOf : Ok1 X (.type "list") (pr1 .listOf) := by
  refine ⟨_, call_list_of, fun G H F v d o d' Q hF hb hg q => ?_⟩
  cases d with
  | tup ds =>
    cases hg
    obtain ⟨p, vs, rfl, g, h, z, r⟩ := hb.tup
    exact ⟨p, vs, rfl, .inr h, fun l nl => q.newL r z l nl⟩
  | lst ds =>
    cases hg
    obtain ⟨p, vs, rfl, h, z, r⟩ := hb.lst
    exact ⟨p, vs, rfl, .inl (SqL.at h), fun l nl => q.newL r z l nl⟩
  | _ => cases hg
theorem ok_sum (hc : X.calm = true) : Ok1 X (.builtin "sum") (pr1 .sum) := by
  refine ⟨_, (cr_sum hc).or (cr_sumT hc), fun G H F v d o d' Q hF hb hg q => ?_⟩
  cases d with
  | tup ds =>
    simp only [pr1] at hg
    split at hg
    · rename_i l hl
      cases hg
      obtain ⟨p, vs, rfl, g, h, z, r⟩ := hb.tup
      rw [isInts_eq hl] at r
      exact .inr ⟨p, l, rfl, by rw [← Reps.ints r]; exact h, q.int⟩
    · cases hg
  | lst ds =>
    simp only [pr1] at hg
    split at hg
    · rename_i l hl
      cases hg
      obtain ⟨p, vs, rfl, h, z, r⟩ := hb.lst
      rw [isInts_eq hl] at r
      exact .inl ⟨p, l, rfl, by rw [← Reps.ints r]; exact SqL.at h, q.int⟩
    · cases hg
  | _ => cases hg
theorem ok_max1 (hc : X.calm = true) : Ok1 X (.builtin "max") (pr1 .max1) := by
  refine ⟨_, (cr_max hc).or (cr_maxT hc), fun G H F v d o d' Q hF hb hg q => ?_⟩
  cases d with
  | lst ds =>
    simp only [pr1] at hg
    split at hg
    · rename_i x l hl
      cases hg
      obtain ⟨p, vs, rfl, h, z, r⟩ := hb.lst
      rw [isInts_eq hl] at r
      exact .inl ⟨p, x :: l, rfl, by rw [← Reps.ints r]; exact SqL.at h, by simp, fun m h1 h2 => by rw [max_is h1 h2]; exact q.int⟩
    · cases hg
  | tup ds =>
    simp only [pr1] at hg
    split at hg
    · rename_i x l hl
      cases hg
      obtain ⟨p, vs, rfl, g, h, z, r⟩ := hb.tup
      rw [isInts_eq hl] at r
      exact .inr ⟨p, x :: l, rfl, by rw [← Reps.ints r]; exact h, by simp, fun m h1 h2 => by rw [max_is h1 h2]; exact q.int⟩
    · cases hg
  | _ => cases hg
theorem ok_min1 (hc : X.calm = true) : Ok1 X (.builtin "min") (pr1 .min1) := by
  refine ⟨_, (cr_min hc).or (cr_minT hc), fun G H F v d o d' Q hF hb hg q => ?_⟩
  cases d with
  | lst ds =>
    simp only [pr1] at hg
    split at hg
    · rename_i x l hl
      cases hg
      obtain ⟨p, vs, rfl, h, z, r⟩ := hb.lst
      rw [isInts_eq hl] at r
      exact .inl ⟨p, x :: l, rfl, by rw [← Reps.ints r]; exact SqL.at h, by simp, fun m h1 h2 => by rw [min_is h1 h2]; exact q.int⟩
    · cases hg
  | tup ds =>
    simp only [pr1] at hg
    split at hg
    · rename_i x l hl
      cases hg
      obtain ⟨p, vs, rfl, g, h, z, r⟩ := hb.tup
      rw [isInts_eq hl] at r
      exact .inr ⟨p, x :: l, rfl, by rw [← Reps.ints r]; exact h, by simp, fun m h1 h2 => by rw [min_is h1 h2]; exact q.int⟩
    · cases hg
  | _ => cases hg
theorem ok_abs : Ok1 X (.builtin "abs") (pr1 .abs) := by
  refine ⟨_, call_abs, fun G H F v d o d' Q hF hb hg q => ?_⟩
  cases d with
  | int i => cases hg; cases hb.int; exact ⟨i, rfl, q.int⟩
  | _ => cases hg
theorem ok_int : Ok1 X (.type "int") (pr1 .int) := by
  refine ⟨_, call_int1, fun G H F v d o d' Q hF hb hg q => ?_⟩
  cases d with
  | int i => cases hg; cases hb.int; exact .inl ⟨i, rfl, q.int⟩
  | bl i => cases hg; cases hb.bl; exact .inr ⟨i, rfl, q.int⟩
  | _ => cases hg
theorem ok_bool : Ok1 X (.type "bool") (pr1 .bool) := by
  refine ⟨_, call_bool1, fun G H F v d o d' Q hF hb hg q => ?_⟩
  cases d with
  | int i => cases hg; cases hb.int; exact .inl ⟨i, rfl, q.bl⟩
  | bl i => cases hg; cases hb.bl; exact .inr ⟨i, rfl, q.bl⟩
  | _ => cases hg
theorem ok_all (hc : X.calm = true) : Ok1 X (.builtin "all") (pr1 .all) := by
  refine ⟨_, cr_all hc, fun G H F v d o d' Q hF hb hg q => ?_⟩
  cases d with
  | lst ds =>
    simp only [pr1] at hg
    split at hg
    · rename_i l hl
      cases hg
      obtain ⟨p, vs, rfl, h, z, r⟩ := hb.lst
      rw [isBls_eq hl] at r
      exact ⟨p, l, rfl, by rw [← Reps.bls r]; exact SqL.at h, q.bl⟩
    · cases hg
  | _ => cases hg
theorem ok_any (hc : X.calm = true) : Ok1 X (.builtin "any") (pr1 .any) := by
  refine ⟨_, cr_any hc, fun G H F v d o d' Q hF hb hg q => ?_⟩
  cases d with
  | lst ds =>
    simp only [pr1] at hg
    split at hg
    · rename_i l hl
      cases hg
      obtain ⟨p, vs, rfl, h, z, r⟩ := hb.lst
      rw [isBls_eq hl] at r
      exact ⟨p, l, rfl, by rw [← Reps.bls r]; exact SqL.at h, q.bl⟩
    · cases hg
  | _ => cases hg
theorem ok_sorted (hu : X.A.units + 65 < cLine) : Ok1 X (.builtin "sorted") (pr1 .sorted) := by
  refine ⟨_, cr_sortedI.or (cr_sortedTI hu), fun G H F v d o d' Q hF hb hg q => ?_⟩
  cases d with
  | lst ds =>
    simp only [pr1] at hg
    split at hg
    · rename_i l hl
      cases hg
      obtain ⟨p, vs, rfl, h, z, r⟩ := hb.lst
      have e := isInts_eq hl
      rw [e] at r z
      refine .inl ⟨p, l, rfl, by rw [← Reps.ints r]; exact SqL.at h, fun ns' a h1 h2 na => ?_⟩
      rw [← sorted_is h1 h2] at q
      exact q.newL (Reps.mapInt ns') (by rw [List.length_map, h1.length_eq]; rw [List.length_map] at z; exact z) a na
    · split at hg
      · rename_i l hl
        split at hg
        · rename_i hk
          cases hg
          obtain ⟨p, vs, rfl, h, z, r⟩ := hb.lst
          have e := isTups_eq hl
          rw [e] at r z
          have rl : vs.length = l.length := by have := r.l; rwa [List.length_map] at this
          refine .inr ⟨p, vs, l, rfl, SqL.at h, rl, fun i x ns h1 h2 => ?_, hk, fun zs a hp hs na => ?_⟩
          · have rx := r.r i (tupD ns) x (by rw [List.getElem?_map, h2]; rfl) h1
            obtain ⟨t, ws, rfl, _, hw, _, rw'⟩ := OB.tup (ds := ns.map .int) (.inl rx)
            rw [Reps.ints rw'] at hw
            exact ⟨t, rfl, hw⟩
          · have es : zs.map (·.2) = sortTI l := by
              refine sortTI_is ?_ (List.pairwise_map.mpr (hs.imp fun h => by rw [ltL_eq]; exact h))
              have := hp.map (·.2)
              rwa [List.map_snd_zip (by omega)] at this
            rw [← es] at q
            refine q.newL ?_ ?_ a na
            · refine ⟨by simp, fun i d v h1 h2 => ?_⟩
              rw [List.map_map, List.getElem?_map] at h1
              rw [List.getElem?_map] at h2
              obtain ⟨y, hy, rfl⟩ := Option.map_eq_some_iff.mp h1
              rw [hy] at h2
              cases h2
              have hm := hp.mem_iff.mp (List.mem_of_getElem? hy)
              obtain ⟨j, hj, ej⟩ := List.getElem_of_mem hm
              have hj2 : j < min vs.length l.length := by simpa using hj
              have hj' : j < vs.length ∧ j < l.length := by omega
              rw [List.getElem_zip] at ej
              refine r.r j (tupD y.2) y.1 ?_ ?_
              · rw [List.getElem?_map, List.getElem?_eq_getElem hj'.2, ← ej]; rfl
              · rw [List.getElem?_eq_getElem hj'.1, ← ej]
            · rw [List.length_map, List.length_map, hp.length_eq, List.length_zip]
              rw [List.length_map] at z
              omega
        · cases hg
      · cases hg
  | _ => cases hg
theorem ok1 (hc : X.calm = true) (hu : X.A.units + 65 < cLine) : ∀ (p : P1) (n : String) (f : Value), p.fv = some (n, f) → Ok1 X f (pr1 p)
  | .len, _, _, rfl => ok_len
  | .tupleOf, _, _, rfl => ok_tupleOf
  | .listOf, _, _, rfl => ok_listOf
  | .sum, _, _, rfl => ok_sum hc
  | .max1, _, _, rfl => ok_max1 hc
  | .min1, _, _, rfl => ok_min1 hc
  | .abs, _, _, rfl => ok_abs
  | .int, _, _, rfl => ok_int
  | .bool, _, _, rfl => ok_bool
  | .all, _, _, rfl => ok_all hc
  | .any, _, _, rfl => ok_any hc
  | .sorted, _, _, rfl => ok_sorted hu

/-! ### two places -/
def OkR (X : Cx) (G : List D) (r : R2) (g : D → D → Option (Bool × D)) : Prop :=
  ∀ (H : Hp) (F : Addr → Prop) (v w : V) (a b : D) (o : Bool) (d' : D) (Q : VK), (∀ a, F a → H a ≠ none) → OB ⟨X.K, G⟩ H F a v → OB ⟨X.K, G⟩ H F b w → g a b = some (o, d') → PQ ⟨X.K, G⟩ H F o d' Q → r v w H Q
def Ok2 (X : Cx) (G : List D) (f : Value → Value → Sem Value) (g : D → D → Option (Bool × D)) : Prop := ∃ r, OpR X f r ∧ OkR X G r g
theorem ok_add : Ok2 X G (binaryOp .Add) (pr2 G .add) := by
  refine ⟨_, op_add.or (op_add_str.or (op_catA.or op_cat)), fun H F v w a b o d' Q hF ha hb hg q => ?_⟩
  cases a with
  | int i => cases b with
    | int j => cases hg; cases ha.int; cases hb.int; exact .inl ⟨i, j, rfl, rfl, q.int⟩
    | _ => cases hg
  | str i => cases b with
    | str j =>
      simp only [pr2] at hg
      split at hg
      · cases hg; cases ha.str; cases hb.str; exact .inr (.inl ⟨i, j, rfl, rfl, by rw [← sz_line]; assumption, q.str⟩)
      · cases hg
    | _ => cases hg
  | tup xs => cases b with
    | tup ys =>
      simp only [pr2] at hg
      split at hg
      · rename_i hz
        cases hg
        obtain ⟨p, vs, rfl, g, h, z, r⟩ := ha.tup
        obtain ⟨p', vs', rfl, g', h', z', r'⟩ := hb.tup
        refine .inr (.inr (.inl ⟨p, p', vs, vs', rfl, rfl, h, h', by rw [r.l, r'.l, ← sz_line]; exact hz, fun e => ?_, fun _ e => ?_, fun _ _ l nl => q.newT (r.append r') (by rw [List.length_append]; exact hz) hF l nl⟩))
        · have e2 : xs = [] := List.eq_nil_of_length_eq_zero (by rw [← r.l, e]; rfl)
          rw [e2, List.nil_append] at q
          exact q.rep (.tup g' z' r'.l r'.r)
        · have e2 : ys = [] := List.eq_nil_of_length_eq_zero (by rw [← r'.l, e]; rfl)
          rw [e2, List.append_nil] at q
          exact q.rep (.tup g z r.l r.r)
      · cases hg
    | _ => cases hg
  | lst xs => cases b with
    | lst ys =>
      simp only [pr2] at hg
      split at hg
      · rename_i hz
        cases hg
        obtain ⟨p, vs, rfl, h, z, r⟩ := ha.lst
        obtain ⟨p', vs', rfl, h', z', r'⟩ := hb.lst
        exact .inr (.inr (.inr ⟨p, p', vs, vs', rfl, rfl, h, h', by rw [r.l, r'.l, ← sz_line]; exact hz, fun l nl => q.newL (r.append r') (by rw [List.length_append]; exact hz) l nl⟩))
      · cases hg
    | _ => cases hg
  | _ => cases hg
theorem ok_sub : Ok2 X G (binaryOp .Sub) (pr2 G .sub) := by
  refine ⟨_, op_sub, fun H F v w a b o d' Q hF ha hb hg q => ?_⟩
  cases a with
  | int i => cases b with
    | int j => cases hg; cases ha.int; cases hb.int; exact ⟨i, j, rfl, rfl, q.int⟩
    | _ => cases hg
  | _ => cases hg
theorem natAbs_64 {i : Int} (h : i.natAbs < 18446744073709551616) : -(2 ^ 64) < i ∧ i < 2 ^ 64 := by omega
theorem Reps.rep {K : Gm} {H : Hp} {F : Addr → Prop} {xs : List D} {vs : List V} (r : Reps K H F xs vs) : ∀ n : Nat, Reps K H F (List.replicate n xs).flatten (List.replicate n vs).flatten
  | 0 => .nil
  | n + 1 => by rw [List.replicate_succ, List.replicate_succ, List.flatten_cons, List.flatten_cons]; exact r.append (Reps.rep r n)
theorem ok_mul : Ok2 X G (binaryOp .Mult) (pr2 G .mul) := by
  refine ⟨_, (op_mul.or op_mulW).or op_rep, fun H F v w a b o d' Q hF ha hb hg q => ?_⟩
  cases a with
  | int i => cases b with
    | int j =>
      simp only [pr2] at hg
      split at hg
      · rename_i hm
        cases hg; cases ha.int; cases hb.int
        unfold mulOk at hm
        simp only [Bool.or_eq_true, Bool.and_eq_true, decide_eq_true_eq] at hm
        rcases hm with (hm | hm) | hm
        · exact .inl (.inl ⟨i, j, rfl, rfl, .inl (natAbs_64 hm), q.int⟩)
        · exact .inl (.inl ⟨i, j, rfl, rfl, .inr (natAbs_64 hm), q.int⟩)
        · exact .inl (.inr ⟨i, j, rfl, rfl, wide_mul (a := 4000) (b := 4000) hm.1 hm.2 (by omega) (by omega) (by omega), q.int⟩)
      · cases hg
    | _ => cases hg
  | lst xs => cases b with
    | int j =>
      simp only [pr2] at hg
      split at hg
      · rename_i hz; replace hz : -16777216 ≤ j ∧ j < 16777216 ∧ xs.length * j.toNat ≤ SZ := hz
        cases hg
        obtain ⟨p, vs, rfl, h, z, r⟩ := ha.lst
        cases hb.int
        refine .inr ⟨p, j, vs, rfl, rfl, h, by omega, by omega, by rw [r.l, ← sz_line]; exact hz.2.2, fun l nl => q.newL (r.rep _) ?_ l nl⟩
        rw [List.length_flatten, List.map_replicate, List.sum_replicate_nat, Nat.mul_comm]
        exact hz.2.2
      · cases hg
    | _ => cases hg
  | _ => cases hg
end
end Rx
set_option maxHeartbeats 1000000
/-! RxE: more operations: //, %, items, comparisons, isinstance, truth, slices. -/
namespace Rx
open PySem PySem.Spec PyProof.Rows L2
section
variable {X : Cx} {G : List D}
theorem ok_mod : Ok2 X G (binaryOp .Mod) (pr2 G .mod) := by
  refine ⟨_, op_mod, fun H F v w a b o d' Q hF ha hb hg q => ?_⟩
  cases a with
  | int i => cases b with
    | int j =>
      simp only [pr2] at hg
      split at hg
      · cases hg; cases ha.int; cases hb.int; exact ⟨i, j, rfl, rfl, by assumption, q.int⟩
      · cases hg
    | _ => cases hg
  | _ => cases hg
theorem ok_fdiv : Ok2 X G (binaryOp .FloorDiv) (pr2 G .fdiv) := by
  refine ⟨_, op_fdivW, fun H F v w a b o d' Q hF ha hb hg q => ?_⟩
  cases a with
  | int i => cases b with
    | int j =>
      simp only [pr2] at hg
      split at hg
      · cases hg; cases ha.int; cases hb.int; rename_i hh; exact ⟨i, j, rfl, rfl, wide_div (b := 4000) hh.1 hh.2 (by omega) (by omega), q.int⟩
      · cases hg
    | _ => cases hg
  | _ => cases hg
/-- two arguments of a built-in -/
def OkC2 (X : Cx) (G : List D) (f : Value) (g : D → D → Option (Bool × D)) : Prop := ∃ r, CallR X f r ∧
  ∀ (H : Hp) (F : Addr → Prop) (v w : V) (a b : D) (o : Bool) (d' : D) (Q : VK), (∀ a, F a → H a ≠ none) → OB ⟨X.K, G⟩ H F a v → OB ⟨X.K, G⟩ H F b w → g a b = some (o, d') → PQ ⟨X.K, G⟩ H F o d' Q → r [v, w] H Q
theorem ok_max2 (hc : X.calm = true) : OkC2 X G (.builtin "max") (pr2 G .max2) := by
  refine ⟨_, call_max2 hc, fun H F v w a b o d' Q hF ha hb hg q => ?_⟩
  cases a with
  | int i => cases b with
    | int j => cases hg; cases ha.int; cases hb.int; exact ⟨i, j, rfl, q.int⟩
    | _ => cases hg
  | _ => cases hg
theorem ok_min2 (hc : X.calm = true) : OkC2 X G (.builtin "min") (pr2 G .min2) := by
  refine ⟨_, call_min2 hc, fun H F v w a b o d' Q hF ha hb hg q => ?_⟩
  cases a with
  | int i => cases b with
    | int j => cases hg; cases ha.int; cases hb.int; exact ⟨i, j, rfl, q.int⟩
    | _ => cases hg
  | _ => cases hg

/-! ### items -/
theorem atD_atI {xs : List D} {vs : List V} (l : vs.length = xs.length) {i : Int} {d : D} (h : atD xs i = some d) : ∃ (j : Nat) (v : V), xs[j]? = some d ∧ vs[j]? = some v ∧ atI vs i = some v := by
  unfold atD at h
  unfold atI ixN
  split at h
  · rename_i h0
    obtain ⟨hl, _⟩ := List.getElem?_eq_some_iff.mp h
    have hv : i.toNat < vs.length := by omega
    refine ⟨i.toNat, vs[i.toNat], h, List.getElem?_eq_getElem hv, ?_⟩
    rw [if_pos h0, if_pos (by omega)]
    exact List.getElem?_eq_getElem hv
  · rename_i h0
    split at h
    · rename_i h1
      obtain ⟨hl, _⟩ := List.getElem?_eq_some_iff.mp h
      have hv : (i + xs.length).toNat < vs.length := by omega
      refine ⟨(i + xs.length).toNat, vs[(i + xs.length).toNat], h, List.getElem?_eq_getElem hv, ?_⟩
      rw [if_neg h0, if_pos (by omega), l]
      exact List.getElem?_eq_getElem hv
    · cases h
theorem ix_dict (hu : X.A.units + 1 < cLine) : IxR X (fun x y H Q => ∃ a v, x = .ref a ∧ DGet H a y (some v) ∧ Q v H) := by
  intro value slice pins s σ H x y v u Q I rx ry h hs
  obtain ⟨a, z, rfl, g, q⟩ := h
  cases rx
  exact tail_any (dict_typeIs I g) PySem.F.slot_dict_getitem.lookup (d_getItem hu I g ry fun w' s' I' r' => ⟨z, H, I', r', q⟩) hs
theorem keyOf_kV {K : Gm} {H : Hp} {F : Addr → Prop} {d : D} {v : V} {k : Key} (h : OB K H F d v) (e : keyOf d = some k) : v = kV k := by
  cases d with
  | int i => cases e; exact h.int
  | str x => cases e; exact h.str
  | _ => cases e
theorem keysOf_kV {K : Gm} {H : Hp} {F : Addr → Prop} : ∀ {ds : List D} {vs : List V} {ks : List Key}, Reps K H F ds vs → keysOf ds = some ks → vs = ks.map kV
  | [], vs, ks, r, e => by cases e; exact r.nil_inv
  | d :: ds, vs, ks, r, e => by
    obtain ⟨w, ws, rfl, h, t⟩ := r.cons_inv
    unfold keysOf at e
    cases q : keyOf d with
    | none => rw [q] at e; cases e
    | some k =>
      rw [q] at e
      cases q2 : keysOf ds with
      | none => rw [q2] at e; cases e
      | some l =>
        rw [q2] at e
        cases e
        rw [keysOf_kV t q2, keyOf_kV (.inl h) q]; rfl
theorem dget_val {κ : Type} [DecidableEq κ] {K : Gm} {H : Hp} {F : Addr → Prop} {k : κ} : ∀ {kvs : List (κ × V)} {ds : List D}, Reps K H F ds (kvs.map (·.2)) →
    (∀ d, dget (kvs.map (·.1)) ds k = some d → ∃ v, valV kvs k = some v ∧ Rep K H F d v) ∧ (dget (kvs.map (·.1)) ds k = none → valV kvs k = none)
  | [], ds, r => ⟨fun d h => by simp [dget] at h, fun _ => rfl⟩
  | p :: kvs, [], r => by have := r.l; simp at this
  | p :: kvs, d :: ds, r => by
    obtain ⟨w, ws, e, h, t⟩ := r.cons_inv
    cases e
    obtain ⟨i1, i2⟩ := dget_val (k := k) t
    simp only [List.map_cons, dget]
    by_cases hk : p.1 = k
    · rw [if_pos hk, valV_pos hk]
      exact ⟨fun d' e => by cases e; exact ⟨_, rfl, h⟩, fun e => by cases e⟩
    · rw [if_neg hk, valV_neg hk]
      exact ⟨i1, i2⟩
mutual
theorem eqv_refl_keys : ∀ (d : D) (k : Key), keyOf d = some k → eqv d d = true
  | .int i, _, _ => by simp [eqv]
  | .str x, _, _ => by simp [eqv]
  | .non, _, h => by cases h
  | .bl _, _, h => by cases h
  | .tup _, _, h => by cases h
  | .lst _, _, h => by cases h
  | .frl _, _, h => by cases h
  | .dk _ _, _, h => by cases h
  | .dt _ _, _, h => by cases h
end
theorem eqvs_refl_keys : ∀ (ds : List D) (ks : List Key), keysOf ds = some ks → eqvs ds ds = true
  | [], _, _ => by simp [eqvs]
  | d :: ds, ks, e => by
    unfold keysOf at e
    cases q : keyOf d with
    | none => rw [q] at e; cases e
    | some k =>
      rw [q] at e
      cases q2 : keysOf ds with
      | none => rw [q2] at e; cases e
      | some l => simp [eqvs, eqv_refl_keys d k q, eqvs_refl_keys ds l q2]
/-- a key tuple that is none of the text's is tracked -/
theorem key_tup {K : Gm} {H : Hp} {F : Addr → Prop} {ds : List D} {v : V} {ks : List Key} (h : OB K H F (.tup ds) v) (ok : okKey K.G ds = true) (e : keysOf ds = some ks) : ∃ b, v = .ref b ∧ H b = some (.tup (ks.map kV)) := by
  obtain ⟨p, vs, rfl, g, _, z, r⟩ := h.tup
  rcases g with g | ⟨_, g⟩
  · exact ⟨p, rfl, by rw [← keysOf_kV r e]; exact g⟩
  · unfold okKey at ok
    have : K.G.any (fun g => eqv g (.tup ds)) = true := List.any_eq_true.mpr ⟨_, g, by simp [eqv, eqvs_refl_keys ds ks e]⟩
    rw [this] at ok; cases ok
/-- subscripts -/
theorem ok_item (hu : X.A.units + 1 < cLine) : ∃ r, IxR X r ∧ OkR X G r (pr2 G .item) := by
  refine ⟨_, ix_list.or (ix_tup.or (ix_str.or (ix_dict hu))), fun H F v w a b o d' Q hF ha hb hg q => ?_⟩
  cases a with
  | tup xs => cases b with
    | int i =>
      simp only [pr2] at hg
      split at hg
      · rename_i d hd
        cases hg
        obtain ⟨p, vs, rfl, g, h, z, r⟩ := ha.tup
        cases hb.int
        obtain ⟨j, y, h1, h2, h3⟩ := atD_atI r.l hd
        exact .inr (.inl ⟨p, vs, i, y, rfl, rfl, h, h3, q.rep (r.r j _ y h1 h2)⟩)
      · cases hg
    | _ => cases hg
  | lst xs => cases b with
    | int i =>
      simp only [pr2] at hg
      split at hg
      · rename_i d hd
        cases hg
        obtain ⟨p, vs, rfl, h, z, r⟩ := ha.lst
        cases hb.int
        obtain ⟨j, y, h1, h2, h3⟩ := atD_atI r.l hd
        exact .inl ⟨p, vs, i, y, rfl, rfl, SqL.at h, h3, q.rep (r.r j _ y h1 h2)⟩
      · cases hg
    | _ => cases hg
  | str x => cases b with
    | int i =>
      simp only [pr2] at hg
      split at hg
      · rename_i hz
        split at hg
        · rename_i c hc
          cases hg
          cases ha.str
          cases hb.int
          exact .inr (.inr (.inl ⟨x, i, c, rfl, rfl, by rw [← sz_line]; exact hz, hc, q.str⟩))
        · cases hg
      · cases hg
    | _ => cases hg
  | dk ks ds =>
    obtain ⟨p, kvs, rfl, h, e, l, r⟩ := ha.dk
    subst e
    simp only [pr2] at hg
    split at hg
    · rename_i k hk
      split at hg
      · rename_i d hd
        cases hg
        cases keyOf_kV hb hk
        obtain ⟨y, h1, h2⟩ := (dget_val (k := k) r).1 _ hd
        exact .inr (.inr (.inr ⟨p, y, rfl, .inl ⟨kvs, k, h, rfl, h1.symm⟩, q.rep h2⟩))
      · cases hg
    · cases hg
  | dt ks ds =>
    cases b with
    | tup b =>
      obtain ⟨p, kvs, rfl, h, e, l, r⟩ := ha.dt
      subst e
      simp only [pr2] at hg
      split at hg
      · rename_i ok
        split at hg
        · rename_i k hk
          split at hg
          · rename_i d hd
            cases hg
            obtain ⟨b', rfl, e⟩ := key_tup hb ok hk
            obtain ⟨y, h1, h2⟩ := (dget_val (k := k) r).1 _ hd
            exact .inr (.inr (.inr ⟨p, y, rfl, .inr ⟨kvs, k, b', h, rfl, e, h1.symm⟩, q.rep h2⟩))
          · cases hg
        · cases hg
      · cases hg
    | _ => cases hg
  | _ => cases b <;> cases hg
end
end Rx
set_option maxHeartbeats 1000000
/-! RxF: comparisons, isinstance, truth. -/
namespace Rx
open PySem PySem.Spec PyProof.Rows L2
mutual
/-- as the library's data -/
def pd : D → PyData
  | .non => .none
  | .bl b => .bool b
  | .int i => .int i
  | .str x => .str x
  | .tup xs => .tuple (pds xs)
  | .lst xs => .list (pds xs)
  | .frl _ => .none
  | .dk _ _ => .none
  | .dt _ _ => .none
def pds : List D → List PyData
  | [] => []
  | x :: xs => pd x :: pds xs
end
mutual
theorem plain_lay : ∀ (n : Nat) (d : D), plain n d = true → (pd d).canLay0 = true ∧ (pd d).depth ≤ n
  | n, .non, _ => by simp [pd, PyData.canLay0, PyData.depth]
  | n, .bl b, _ => by simp [pd, PyData.canLay0, PyData.depth]
  | n, .int i, _ => by simp [pd, PyData.canLay0, PyData.depth]
  | n, .str x, h => by
    have h' : PyData.strOk x = true := by cases n <;> exact h
    simp [pd, PyData.canLay0, PyData.depth, h']
  | 0, .tup xs, h => by simp [plain] at h
  | 0, .lst xs, h => by simp [plain] at h
  | n + 1, .tup xs, h => by
    obtain ⟨a, b⟩ := plains_lay n xs (by simpa [plain] using h)
    simp only [pd, PyData.canLay0, PyData.depth]
    exact ⟨a, by omega⟩
  | n + 1, .lst xs, h => by
    obtain ⟨a, b⟩ := plains_lay n xs (by simpa [plain] using h)
    simp only [pd, PyData.canLay0, PyData.depth]
    exact ⟨a, by omega⟩
  | n, .frl _, h => by cases n <;> simp [plain] at h
  | n, .dk _ _, h => by cases n <;> simp [plain] at h
  | n, .dt _ _, h => by cases n <;> simp [plain] at h
theorem plains_lay : ∀ (n : Nat) (xs : List D), plains n xs = true → PyData.canLayAll0 (pds xs) = true ∧ PyData.depthAll (pds xs) ≤ n
  | n, [], _ => by simp [pds, PyData.canLayAll0, PyData.depthAll]
  | n, x :: xs, h => by
    have h' : plain n x = true ∧ plains n xs = true := by simpa [plains] using h
    obtain ⟨a, b⟩ := plain_lay n x h'.1
    obtain ⟨c, e⟩ := plains_lay n xs h'.2
    simp only [pds, PyData.canLayAll0, PyData.depthAll, a, c, Bool.and_self, true_and]
    omega
end
mutual
theorem eqv_pd : ∀ (n m : Nat) (a b : D), plain n a = true → plain m b = true → PyData.eqv (pd a) (pd b) = eqv a b
  | n, m, a, b, ha, hb => by
    cases a with
    | frl _ => cases n <;> simp [plain] at ha
    | dk _ _ => cases n <;> simp [plain] at ha
    | dt _ _ => cases n <;> simp [plain] at ha
    | tup xs =>
      cases n with
      | zero => simp [plain] at ha
      | succ n =>
        cases b with
        | tup ys =>
          cases m with
          | zero => simp [plain] at hb
          | succ m => simp only [pd, PyData.eqv, eqv]; exact eqvs_pd n m xs ys (by simpa [plain] using ha) (by simpa [plain] using hb)
        | frl _ => cases m <;> simp [plain] at hb
        | dk _ _ => cases m <;> simp [plain] at hb
        | dt _ _ => cases m <;> simp [plain] at hb
        | _ => simp [pd, PyData.eqv, eqv]
    | lst xs =>
      cases n with
      | zero => simp [plain] at ha
      | succ n =>
        cases b with
        | lst ys =>
          cases m with
          | zero => simp [plain] at hb
          | succ m => simp only [pd, PyData.eqv, eqv]; exact eqvs_pd n m xs ys (by simpa [plain] using ha) (by simpa [plain] using hb)
        | frl _ => cases m <;> simp [plain] at hb
        | dk _ _ => cases m <;> simp [plain] at hb
        | dt _ _ => cases m <;> simp [plain] at hb
        | _ => simp [pd, PyData.eqv, eqv]
    | _ =>
      cases b with
      | frl _ => cases m <;> simp [plain] at hb
      | dk _ _ => cases m <;> simp [plain] at hb
      | dt _ _ => cases m <;> simp [plain] at hb
      | _ => simp [pd, PyData.eqv, eqv]
theorem eqvs_pd : ∀ (n m : Nat) (a b : List D), plains n a = true → plains m b = true → PyData.eqvAll (pds a) (pds b) = eqvs a b
  | n, m, [], [], _, _ => by simp [pds, PyData.eqvAll, eqvs]
  | n, m, [], y :: ys, _, _ => by simp [pds, PyData.eqvAll, eqvs]
  | n, m, x :: xs, [], _, _ => by simp [pds, PyData.eqvAll, eqvs]
  | n, m, x :: xs, y :: ys, ha, hb => by
    have h1 : plain n x = true ∧ plains n xs = true := by simpa [plains] using ha
    have h2 : plain m y = true ∧ plains m ys = true := by simpa [plains] using hb
    simp only [pds, PyData.eqvAll, eqvs, eqv_pd n m x y h1.1 h2.1, eqvs_pd n m xs ys h1.2 h2.2]
end
section
variable {K : Gm} {H : Hp} {F : Addr → Prop}
mutual
theorem Rep.dp : ∀ (n : Nat) (d : D) (v : V), plain n d = true → Rep K H F d v → Dp K.K H v (pd d)
  | n, .non, v, _, h => by cases h; exact .non
  | n, .bl b, v, _, h => by cases h; exact .bl b
  | n, .int b, v, _, h => by cases h; exact .int b
  | n, .str b, v, _, h => by cases h; exact .str b
  | 0, .tup xs, v, h, _ => by simp [plain] at h
  | 0, .lst xs, v, h, _ => by simp [plain] at h
  | n + 1, .tup xs, v, h, r => by
    obtain ⟨p, vs, rfl, g, q, z, t⟩ := OB.tup (.inl r)
    exact .tup q (Reps.dp n xs vs (by simpa [plain] using h) t)
  | n + 1, .lst xs, v, h, r => by
    obtain ⟨p, vs, rfl, q, z, t⟩ := OB.lst (.inl r)
    exact .lst (SqL.at q) (Reps.dp n xs vs (by simpa [plain] using h) t)
  | n, .frl _, v, h, _ => by cases n <;> simp [plain] at h
  | n, .dk _ _, v, h, _ => by cases n <;> simp [plain] at h
  | n, .dt _ _, v, h, _ => by cases n <;> simp [plain] at h
theorem Reps.dp : ∀ (n : Nat) (ds : List D) (vs : List V), plains n ds = true → Reps K H F ds vs → DpAll K.K H vs (pds ds)
  | n, [], vs, _, r => by rw [r.nil_inv]; exact .nil
  | n, d :: ds, vs, h, r => by
    obtain ⟨w, ws, rfl, a, b⟩ := r.cons_inv
    have h' : plain n d = true ∧ plains n ds = true := by simpa [plains] using h
    exact .cons (Rep.dp n d w h'.1 a) (Reps.dp n ds ws h'.2 b)
end
theorem OB.dp {n : Nat} {d : D} {v : V} (h : plain n d = true) (r : OB K H F d v) : Dp K.K H v (pd d) := by
  rcases r with r | ⟨p, rfl, r⟩
  · exact Rep.dp n d v h r
  · cases d with
    | lst xs =>
      obtain ⟨vs, q, z, t⟩ := r
      cases n with
      | zero => simp [plain] at h
      | succ n => exact .lst (SqL.at q) (Reps.dp n xs vs (by simpa [plain] using h) t)
    | dk _ _ => cases n <;> simp [plain] at h
    | dt _ _ => cases n <;> simp [plain] at h
    | _ => exact r.elim
theorem plain_shaped {d : D} (h : plain DP d = true) : SeqAt.shaped (pd d) = true := by
  obtain ⟨a, b⟩ := plain_lay _ _ h
  unfold SeqAt.shaped
  rw [a, Bool.true_and]
  exact decide_eq_true (Nat.le_trans b (by decide))
theorem flat_v {d : D} {v : V} (h : flatD d = true) (r : Rep K H F d v) : flatV v = true := by
  cases d with
  | non => cases r; rfl
  | bl _ => cases r; rfl
  | int _ => cases r; rfl
  | str _ => cases r; rfl
  | _ => cases h
theorem flat_eqV {d e : D} {v w : V} (h : flatD d = true) (h' : flatD e = true) (r : Rep K H F d v) (r' : Rep K H F e w) : eqV v w = eqv d e := by
  cases d <;> first | (cases h; done) | (cases e <;> first | (cases h'; done) | (cases r; cases r'; simp [eqV, eqv]))
theorem flat_all : ∀ {ds : List D} {vs : List V}, ds.all flatD = true → Reps K H F ds vs → vs.all flatV = true
  | [], vs, _, r => by rw [r.nil_inv]; rfl
  | d :: ds, vs, h, r => by
    obtain ⟨w, ws, rfl, a, b⟩ := r.cons_inv
    have h' : flatD d = true ∧ ds.all flatD = true := by simpa using h
    simp only [List.all_cons, flat_v h'.1 a, flat_all h'.2 b, Bool.and_self]
theorem flat_in {x : D} {v : V} (hx : flatD x = true) (rx : Rep K H F x v) : ∀ {ds : List D} {vs : List V}, ds.all flatD = true → Reps K H F ds vs → inV v vs = ds.any fun d => eqv d x
  | [], vs, _, r => by rw [r.nil_inv]; rfl
  | d :: ds, vs, h, r => by
    obtain ⟨w, ws, rfl, a, b⟩ := r.cons_inv
    have h' : flatD d = true ∧ ds.all flatD = true := by simpa using h
    have := flat_in hx rx h'.2 b
    unfold inV at this ⊢
    simp only [List.any_cons, flat_eqV h'.1 hx a rx, this]
theorem pds_any {a : D} (ha : plain DP a = true) : ∀ (n : Nat) (xs : List D), plains n xs = true → (pds xs).any (fun z => PyData.eqv z (pd a)) = xs.any fun x => eqv x a
  | n, [], _ => rfl
  | n, x :: xs, h => by
    have h' : plain n x = true ∧ plains n xs = true := by simpa [plains] using h
    simp only [pds, List.any_cons, eqv_pd n DP x a h'.1 ha, pds_any ha n xs h'.2]
end
section
variable {X : Cx} {G : List D}
def OkC (X : Cx) (G : List D) (op : CmpOp) (c : Cp) : Prop := Ok2 X G (compareOp op) fun a b => bl? (cmpD G c a b)
theorem bl?_inv {r : Option Bool} {o : Bool} {d : D} (h : bl? r = some (o, d)) : ∃ b, r = some b ∧ o = false ∧ d = .bl b := by
  cases r with
  | none => cases h
  | some b => cases h; exact ⟨b, rfl, rfl, rfl⟩
theorem ok_eq (hu : X.A.units + 64 < cLine) : OkC X G .Eq .eq := by
  refine ⟨_, op_eqD hu, fun H F v w a b o d' Q hF ha hb hg q => ?_⟩
  obtain ⟨k, h, rfl, rfl⟩ := bl?_inv hg
  simp only [cmpD] at h
  split at h
  · rename_i hp
    simp only [Bool.and_eq_true] at hp
    cases h
    refine ⟨pd a, pd b, ha.dp hp.1, hb.dp hp.2, plain_shaped hp.1, plain_shaped hp.2, ?_⟩
    rw [eqv_pd _ _ _ _ hp.1 hp.2]
    exact q.bl
  · cases h
theorem ok_ne (hu : X.A.units + 64 < cLine) : OkC X G .NotEq .ne := by
  refine ⟨_, op_neD hu, fun H F v w a b o d' Q hF ha hb hg q => ?_⟩
  obtain ⟨k, h, rfl, rfl⟩ := bl?_inv hg
  simp only [cmpD] at h
  split at h
  · rename_i hp
    simp only [Bool.and_eq_true] at hp
    cases h
    refine ⟨pd a, pd b, ha.dp hp.1, hb.dp hp.2, plain_shaped hp.1, plain_shaped hp.2, ?_⟩
    rw [eqv_pd _ _ _ _ hp.1 hp.2]
    exact q.bl
  · cases h
theorem ok_lt : OkC X G .Lt .lt := by
  refine ⟨_, op_lt.or op_lt_str, fun H F v w a b o d' Q hF ha hb hg q => ?_⟩
  obtain ⟨k, h, rfl, rfl⟩ := bl?_inv hg
  cases a with
  | int i => cases b with
    | int j => cases h; cases ha.int; cases hb.int; exact .inl ⟨i, j, rfl, rfl, q.bl⟩
    | _ => cases h
  | str i => cases b with
    | str j => cases h; cases ha.str; cases hb.str; exact .inr ⟨i, j, rfl, rfl, q.bl⟩
    | _ => cases h
  | _ => cases h
theorem ok_le : OkC X G .LtE .le := by
  refine ⟨_, op_le.or op_le_str, fun H F v w a b o d' Q hF ha hb hg q => ?_⟩
  obtain ⟨k, h, rfl, rfl⟩ := bl?_inv hg
  cases a with
  | int i => cases b with
    | int j => cases h; cases ha.int; cases hb.int; exact .inl ⟨i, j, rfl, rfl, q.bl⟩
    | _ => cases h
  | str i => cases b with
    | str j => cases h; cases ha.str; cases hb.str; exact .inr ⟨i, j, rfl, rfl, q.bl⟩
    | _ => cases h
  | _ => cases h
theorem ok_gt : OkC X G .Gt .gt := by
  refine ⟨_, op_gt, fun H F v w a b o d' Q hF ha hb hg q => ?_⟩
  obtain ⟨k, h, rfl, rfl⟩ := bl?_inv hg
  cases a with
  | int i => cases b with
    | int j => cases h; cases ha.int; cases hb.int; exact ⟨i, j, rfl, rfl, q.bl⟩
    | _ => cases h
  | _ => cases h
theorem ok_ge : OkC X G .GtE .ge := by
  refine ⟨_, op_ge, fun H F v w a b o d' Q hF ha hb hg q => ?_⟩
  obtain ⟨k, h, rfl, rfl⟩ := bl?_inv hg
  cases a with
  | int i => cases b with
    | int j => cases h; cases ha.int; cases hb.int; exact ⟨i, j, rfl, rfl, q.bl⟩
    | _ => cases h
  | _ => cases h
theorem OB.isNon {K : Gm} {H : Hp} {F : Addr → Prop} {d : D} {v : V} (h : OB K H F d v) : decide (v = .non) = match d with | .non => true | _ => false := by
  cases d with
  | non => cases h.non; rfl
  | bl _ => cases h.bl; rfl
  | int _ => cases h.int; rfl
  | str _ => cases h.str; rfl
  | tup _ => obtain ⟨p, vs, rfl, _⟩ := h.tup; rfl
  | lst _ => obtain ⟨p, vs, rfl, _⟩ := h.lst; rfl
  | frl _ => obtain ⟨p, vs, rfl, _⟩ := h.frl; rfl
  | dk _ _ => obtain ⟨p, vs, rfl, _⟩ := h.dk; rfl
  | dt _ _ => obtain ⟨p, vs, rfl, _⟩ := h.dt; rfl
theorem ok_is : OkC X G .Is .is := by
  refine ⟨_, op_isN, fun H F v w a b o d' Q hF ha hb hg q => ?_⟩
  obtain ⟨k, h, rfl, rfl⟩ := bl?_inv hg
  cases b with
  | non =>
    cases hb.non
    refine ⟨rfl, ?_⟩
    rw [ha.isNon]
    cases a <;> (cases h; exact q.bl)
  | _ => cases a <;> cases h
theorem ok_isnot : OkC X G .IsNot .isnot := by
  refine ⟨_, op_notN, fun H F v w a b o d' Q hF ha hb hg q => ?_⟩
  obtain ⟨k, h, rfl, rfl⟩ := bl?_inv hg
  cases b with
  | non =>
    cases hb.non
    refine ⟨rfl, ?_⟩
    rw [ha.isNon]
    cases a <;> (cases h; exact q.bl)
  | _ => cases a <;> cases h
theorem op_in_dict (hu : X.A.units + 1 < cLine) : OpR X (compareOp .In) (fun y x H Q => ∃ a o, x = .ref a ∧ DGet H a y o ∧ Q (.bl o.isSome) H) := by
  intro pins s σ H x y v u Q I rx ry h
  obtain ⟨a, o, rfl, g, q⟩ := h
  cases ry
  exact d_in hu I g rx fun s' I' => ⟨.bl _, H, I', rfl, q⟩
theorem op_notin_dict (hu : X.A.units + 1 < cLine) : OpR X (compareOp .NotIn) (fun y x H Q => ∃ a o, x = .ref a ∧ DGet H a y o ∧ Q (.bl (!o.isSome)) H) := by
  intro pins s σ H x y v u Q I rx ry h
  obtain ⟨a, o, rfl, g, q⟩ := h
  cases ry
  exact d_notIn hu I g rx fun s' I' => ⟨.bl _, H, I', rfl, q⟩
theorem dget_some {κ : Type} [DecidableEq κ] {K : Gm} {H : Hp} {F : Addr → Prop} {k : κ} {kvs : List (κ × V)} {ds : List D} (r : Reps K H F ds (kvs.map (·.2))) : (valV kvs k).isSome = (dget (kvs.map (·.1)) ds k).isSome := by
  obtain ⟨a, b⟩ := dget_val (k := k) r
  cases e : dget (kvs.map (·.1)) ds k with
  | none => rw [b e]; rfl
  | some d => obtain ⟨v, hv, _⟩ := a d e; rw [hv]; rfl
theorem ok_in (hu : X.A.units + 65 < cLine) : OkC X G .In .isin := by
  refine ⟨_, (op_inD hu).or (op_in_seq.or (op_in_dict (by omega))), fun H F v w a b o d' Q hF ha hb hg q => ?_⟩
  obtain ⟨k, h, rfl, rfl⟩ := bl?_inv hg
  cases b with
  | lst xs =>
    have h : (if plain DP a && plain DP (.lst xs) then some (xs.any fun x => eqv x a) else none) = some k := by cases a <;> exact h
    split at h
    · rename_i hp
      simp only [Bool.and_eq_true] at hp
      cases h
      refine .inl ⟨pd a, pds xs, ha.dp hp.1, hb.dp hp.2, plain_shaped hp.1, plain_shaped hp.2, ?_⟩
      rw [pds_any hp.1 39 xs (by simpa [plain] using hp.2)]
      exact q.bl
    · cases h
  | tup xs =>
    have h : (if flatD a && xs.all flatD then some (xs.any fun x => eqv x a) else none) = some k := by cases a <;> exact h
    split at h
    · rename_i hp
      simp only [Bool.and_eq_true] at hp
      cases h
      obtain ⟨p, vs, rfl, g, h, z, r⟩ := hb.tup
      have ra : Rep ⟨X.K, G⟩ H F a v := by
        rcases ha with ha | ⟨p, e, ha⟩
        · exact ha
        · cases a <;> first | (exact ha.elim) | (cases hp.1)
      refine .inr (.inl ⟨p, vs, rfl, .inr h, flat_v hp.1 ra, flat_all hp.2 r, ?_⟩)
      rw [if_neg (by decide), flat_in hp.1 ra hp.2 r]
      exact q.bl
    · cases h
  | dk ks ds =>
    obtain ⟨p, kvs, rfl, g, e, l, r⟩ := hb.dk
    subst e
    have h : (match keyOf a with | some k => some (dget (kvs.map (·.1)) ds k).isSome | none => none) = some k := by cases a <;> exact h
    split at h
    · rename_i j hj
      cases h
      cases keyOf_kV ha hj
      refine .inr (.inr ⟨p, _, rfl, .inl ⟨kvs, j, g, rfl, rfl⟩, ?_⟩)
      rw [dget_some r]; exact q.bl
    · cases h
  | dt ks ds =>
    cases a with
    | tup a =>
      obtain ⟨p, kvs, rfl, g, e, l, r⟩ := hb.dt
      subst e
      simp only [cmpD] at h
      split at h
      · rename_i ok
        split at h
        · rename_i j hj
          cases h
          obtain ⟨b', rfl, e⟩ := key_tup ha ok hj
          refine .inr (.inr ⟨p, _, rfl, .inr ⟨kvs, j, b', g, rfl, e, rfl⟩, ?_⟩)
          rw [dget_some r]; exact q.bl
        · cases h
      · cases h
    | _ => cases h
  | _ => cases a <;> cases h
theorem ok_notin (hu : X.A.units + 65 < cLine) : OkC X G .NotIn .notin := by
  refine ⟨_, (op_notInD hu).or (op_notIn_seq.or (op_notin_dict (by omega))), fun H F v w a b o d' Q hF ha hb hg q => ?_⟩
  obtain ⟨k, h, rfl, rfl⟩ := bl?_inv hg
  cases b with
  | lst xs =>
    have h : (if plain DP a && plain DP (.lst xs) then some (!(xs.any fun x => eqv x a)) else none) = some k := by cases a <;> exact h
    split at h
    · rename_i hp
      simp only [Bool.and_eq_true] at hp
      cases h
      refine .inl ⟨pd a, pds xs, ha.dp hp.1, hb.dp hp.2, plain_shaped hp.1, plain_shaped hp.2, ?_⟩
      rw [pds_any hp.1 39 xs (by simpa [plain] using hp.2)]
      exact q.bl
    · cases h
  | tup xs =>
    have h : (if flatD a && xs.all flatD then some (!(xs.any fun x => eqv x a)) else none) = some k := by cases a <;> exact h
    split at h
    · rename_i hp
      simp only [Bool.and_eq_true] at hp
      cases h
      obtain ⟨p, vs, rfl, g, h, z, r⟩ := hb.tup
      have ra : Rep ⟨X.K, G⟩ H F a v := by
        rcases ha with ha | ⟨p, e, ha⟩
        · exact ha
        · cases a <;> first | (exact ha.elim) | (cases hp.1)
      refine .inr (.inl ⟨p, vs, rfl, .inr h, flat_v hp.1 ra, flat_all hp.2 r, ?_⟩)
      rw [if_pos rfl, flat_in hp.1 ra hp.2 r]
      exact q.bl
    · cases h
  | dk ks ds =>
    obtain ⟨p, kvs, rfl, g, e, l, r⟩ := hb.dk
    subst e
    have h : (match keyOf a with | some k => some (!(dget (kvs.map (·.1)) ds k).isSome) | none => none) = some k := by cases a <;> exact h
    split at h
    · rename_i j hj
      cases h
      cases keyOf_kV ha hj
      refine .inr (.inr ⟨p, _, rfl, .inl ⟨kvs, j, g, rfl, rfl⟩, ?_⟩)
      rw [dget_some r]; exact q.bl
    · cases h
  | dt ks ds =>
    cases a with
    | tup a =>
      obtain ⟨p, kvs, rfl, g, e, l, r⟩ := hb.dt
      subst e
      simp only [cmpD] at h
      split at h
      · rename_i ok
        split at h
        · rename_i j hj
          cases h
          obtain ⟨b', rfl, e⟩ := key_tup ha ok hj
          refine .inr (.inr ⟨p, _, rfl, .inr ⟨kvs, j, b', g, rfl, e, rfl⟩, ?_⟩)
          rw [dget_some r]; exact q.bl
        · cases h
      · cases h
    | _ => cases h
  | _ => cases a <;> cases h
def Cp.op : Cp → CmpOp
  | .eq => .Eq
  | .ne => .NotEq
  | .lt => .Lt
  | .le => .LtE
  | .gt => .Gt
  | .ge => .GtE
  | .isin => .In
  | .notin => .NotIn
  | .is => .Is
  | .isnot => .IsNot
theorem okC (hu : X.A.units + 65 < cLine) : ∀ c : Cp, OkC X G c.op c
  | .eq => ok_eq (by omega)
  | .ne => ok_ne (by omega)
  | .lt => ok_lt
  | .le => ok_le
  | .gt => ok_gt
  | .ge => ok_ge
  | .isin => ok_in hu
  | .notin => ok_notin hu
  | .is => ok_is
  | .isnot => ok_isnot
end
end Rx
set_option maxHeartbeats 1000000
/-! RxG: isinstance, truth, slices, methods that change a list, stores. -/
namespace Rx
open PySem PySem.Spec PyProof.Rows L2
section
variable {X : Cx} {G : List D}
/-! ### isinstance -/
theorem OB.tyX {K : Gm} {H : Hp} {F : Addr → Prop} {d : D} {v : V} {ty : String} {b : Bool} (h : OB K H F d v) (e : isTy d ty = some b) : ∃ t, TyX K.K H v (.type t) ∧ kitB t ty = some b := by
  unfold isTy at e
  cases d with
  | non =>
    refine ⟨_, .base (by rw [h.non]; exact .non), ?_⟩
    simp only at e
    split at e
    · rename_i q
      cases e
      rcases q with rfl | rfl | rfl | rfl | rfl <;> decide +kernel
    · cases e
  | bl x =>
    refine ⟨_, .base (by rw [h.bl]; exact .bl _), ?_⟩
    simp only at e
    split at e
    · rename_i q
      cases e
      rcases q with rfl | rfl <;> decide +kernel
    · split at e
      · rename_i q
        cases e
        rcases q with rfl | rfl | rfl <;> decide +kernel
      · cases e
  | int x =>
    refine ⟨_, .base (by rw [h.int]; exact .int _), ?_⟩
    simp only at e
    split at e
    · rename_i q
      cases e
      rcases q with rfl
      decide +kernel
    · split at e
      · rename_i q
        cases e
        rcases q with rfl | rfl | rfl | rfl <;> decide +kernel
      · cases e
  | str x =>
    refine ⟨_, .base (by rw [h.str]; exact .str _), ?_⟩
    simp only at e
    split at e
    · rename_i q
      cases e
      rcases q with rfl
      decide +kernel
    · split at e
      · rename_i q
        cases e
        rcases q with rfl | rfl | rfl | rfl <;> decide +kernel
      · cases e
  | tup x =>
    obtain ⟨p, vs, rfl, g, _, _, _⟩ := h.tup
    have ht : TyX K.K H (.ref p) (.type "tuple") := by
      rcases g with g | ⟨⟨o, its, n, hk, hc, _⟩, _⟩
      · exact .base (.tup g)
      · exact .kTuple hk hc
    refine ⟨_, ht, ?_⟩
    simp only at e
    split at e
    · rename_i q
      cases e
      rcases q with rfl
      decide +kernel
    · split at e
      · rename_i q
        cases e
        rcases q with rfl | rfl | rfl | rfl <;> decide +kernel
      · cases e
  | lst x =>
    obtain ⟨p, vs, rfl, g, _, _⟩ := h.lst
    refine ⟨_, .base (.lst g), ?_⟩
    simp only at e
    split at e
    · rename_i q
      cases e
      rcases q with rfl
      decide +kernel
    · split at e
      · rename_i q
        cases e
        rcases q with rfl | rfl | rfl | rfl <;> decide +kernel
      · cases e
  | _ => cases e
theorem ok_isinst (ty : String) : ∃ r, CallR X (.builtin "isinstance") r ∧ ∀ (G : List D) (H : Hp) (F : Addr → Prop) (v : V) (d : D) (o : Bool) (d' : D) (Q : VK), OB ⟨X.K, G⟩ H F d v → bl? (isTy d ty) = some (o, d') → PQ ⟨X.K, G⟩ H F o d' Q → r [v, .ty ty] H Q := by
  refine ⟨_, call_isi, fun G H F v d o d' Q hb hg q => ?_⟩
  obtain ⟨b, h, rfl, rfl⟩ := bl?_inv hg
  obtain ⟨t, h1, h2⟩ := hb.tyX h
  exact ⟨v, .ty ty, .type t, .type ty, b, rfl, .ty ty, h1, kit_ty h2, q.bl⟩

/-! ### truth -/
theorem tru_dictR : TruR X (fun x H Q => ∃ a kvs, x = .ref a ∧ Rd H a (.dK kvs) ∧ Q (!kvs.isEmpty) H) := by
  intro pins s σ H x v Q I rx h
  obtain ⟨a, kvs, rfl, e, q⟩ := h
  cases rx
  exact d_truth I e fun s' I' => ⟨H, I', q⟩
theorem TruR.or {r r' : V → Hp → (Bool → Hp → Prop) → Prop} (h : TruR X r) (h' : TruR X r') : TruR X (fun x H Q => r x H Q ∨ r' x H Q) := by
  intro pins s σ H x v Q I rx q
  rcases q with q | q
  · exact h pins s σ H x v Q I rx q
  · exact h' pins s σ H x v Q I rx q
theorem ok_truth : ∃ r, TruR X r ∧ ∀ (G : List D) (H : Hp) (F : Addr → Prop) (v : V) (d : D) (b : Bool) (Q : Bool → Hp → Prop), OB ⟨X.K, G⟩ H F d v → truth d = some b → Q b H → r v H Q := by
  refine ⟨_, TruR.or tru_ok tru_dictR, fun G H F v d b Q hb hg q => ?_⟩
  have em : ∀ {ds : List D} {vs : List V}, vs.length = ds.length → (!vs.isEmpty) = !ds.isEmpty := fun {ds vs} l => by
    cases ds <;> cases vs <;> simp_all
  cases d with
  | non => cases hg; cases hb.non; exact .inl ⟨false, rfl, q⟩
  | bl _ => cases hg; cases hb.bl; exact .inl ⟨_, rfl, q⟩
  | int _ => cases hg; cases hb.int; exact .inl ⟨_, rfl, q⟩
  | str x =>
    simp only [truth] at hg
    split at hg
    · rename_i hz
      cases hg
      cases hb.str
      refine .inl ⟨_, ⟨by rw [← sz_line]; exact hz, ?_⟩, q⟩
      cases hx : x.length with
      | zero => rfl
      | succ n => simp; omega
    · cases hg
  | tup xs =>
    cases hg
    obtain ⟨p, vs, rfl, g, h, z, r⟩ := hb.tup
    exact .inl ⟨_, .inr (.inl ⟨vs, h, (em r.l).symm⟩), q⟩
  | lst xs =>
    cases hg
    obtain ⟨p, vs, rfl, h, z, r⟩ := hb.lst
    exact .inl ⟨_, .inl ⟨vs, SqL.at h, (em r.l).symm⟩, q⟩
  | dk ks ds =>
    cases hg
    obtain ⟨p, kvs, rfl, h, e, l, r⟩ := hb.dk
    refine .inr ⟨p, kvs, rfl, h, ?_⟩
    have : (!kvs.isEmpty) = !ks.isEmpty := by subst e; cases kvs <;> rfl
    rw [this]; exact q
  | _ => cases hg

/-! ### slices -/
theorem clip_sIx (n d : Nat) (o : Option Int) : clip n d o = HT.sIx n d o := by cases o <;> rfl
theorem Reps.cut {K : Gm} {H : Hp} {F : Addr → Prop} {ds : List D} {vs : List V} (r : Reps K H F ds vs) (lo hi : Option Int) : Reps K H F (cutD ds lo hi) (cutV vs lo hi) := by
  unfold cutD cutV
  rw [clip_sIx, clip_sIx, r.l]
  exact (r.drop _).take _
theorem cutD_len (ds : List D) (lo hi : Option Int) : (cutD ds lo hi).length ≤ ds.length := by
  unfold cutD
  rw [List.length_take, List.length_drop]; omega
theorem ok_slice : ∃ r, L2.SlR X r ∧ ∀ (G : List D) (H : Hp) (F : Addr → Prop) (v : V) (d : D) (lo hi : Option Int) (o : Bool) (d' : D) (Q : VK), (∀ a, F a → H a ≠ none) → OB ⟨X.K, G⟩ H F d v → slD d lo hi = some (o, d') → PQ ⟨X.K, G⟩ H F o d' Q → r v lo hi H Q := by
  refine ⟨_, sl_list.or sl_tupA, fun G H F v d lo hi o d' Q hF hb hg q => ?_⟩
  cases d with
  | lst xs =>
    cases hg
    obtain ⟨p, vs, rfl, h, z, r⟩ := hb.lst
    exact .inl ⟨p, vs, rfl, SqL.at h, fun l nl => q.newL (r.cut lo hi) (Nat.le_trans (cutD_len xs lo hi) z) l nl⟩
  | tup xs =>
    cases hg
    obtain ⟨p, vs, rfl, g, h, z, r⟩ := hb.tup
    refine .inr ⟨p, vs, rfl, h, fun e => ?_, fun _ l nl => q.newT (r.cut lo hi) (Nat.le_trans (cutD_len xs lo hi) z) hF l nl⟩
    have e2 : cutD xs lo hi = xs := by
      unfold cutD
      rw [clip_sIx, clip_sIx, ← r.l, e.1, e.2, List.drop_zero, r.l, Nat.sub_zero, List.take_length]
    rw [e2] at q
    exact q.rep (.tup g z r.l r.r)
  | _ => cases hg

/-! ### methods that change a list -/
def M1.id : M1 → String
  | .append => "append"
  | .pop0 => "pop"
  | .popAt => "pop"
  | .extend => "extend"
  | .insert => "insert"
/-- the rule for a change of the list at p -/
def OkM (X : Cx) (G : List D) (id : String) (g : List D → List D → Option (D × List D)) : Prop := ∃ r, MtR X id r ∧
  ∀ (H : Hp) (F : Addr → Prop) (p : Addr) (xs as : List D) (vs : List V) (d : D) (ys : List D) (Q : VK), F p → Cn true ⟨X.K, G⟩ H F (.lst xs) p → Reps ⟨X.K, G⟩ H F as vs → g xs as = some (d, ys) →
    (∀ v H', (∀ a o, a ≠ p → H a = some o → H' a = some o) → H' p ≠ none → Cn true ⟨X.K, G⟩ H' F (.lst ys) p → Rep ⟨X.K, G⟩ H' F d v → Q v H') → r (.ref p) vs H Q
/-- data when the object at an owned p is changed -/
theorem stay_at {H : Hp} {F : Addr → Prop} {p : Addr} {o : HO} (hp : F p) (m : MutK H p) : Stay H (upd H p o) F F (fun a => a = p) :=
  ⟨fun a u n e => by rw [upd_ne n]; exact e, fun a e => by rw [e]; exact hp, fun a e => by rw [e]; exact m, fun a z => .inl z⟩
theorem chg {K : Gm} {H : Hp} {F : Addr → Prop} {p : Addr} {ys : List D} {ws : List V} {d : D} {v : V} {Q : VK} (hp : F p) (m : MutK H p) (z : ys.length ≤ SZ) (r : Reps K H F ys ws) (hd : Rep K H F d v)
    (q : ∀ v H', (∀ a o, a ≠ p → H a = some o → H' a = some o) → H' p ≠ none → Cn true K H' F (.lst ys) p → Rep K H' F d v → Q v H') : Q v (upd H p (.lst ws)) := by
  have st := stay_at (o := .lst ws) hp m
  exact q v _ (fun a o n e => by rw [upd_ne n]; exact e) (by rw [upd_same]; exact nofun) ⟨ws, upd_same, z, r.stay st⟩ (hd.stay st)
theorem ok_append : OkM X G "list.append" (mth .append) := by
  refine ⟨_, mt_append, fun H F p xs as vs d ys Q hp hc ha hg q => ?_⟩
  obtain ⟨ws, h, z, r⟩ := id hc
  cases as with
  | nil => cases hg
  | cons a t =>
    cases t with
    | cons _ _ => cases hg
    | nil =>
      obtain ⟨w, us, rfl, ra, rn⟩ := ha.cons_inv
      cases rn.nil_inv
      simp only [mth] at hg
      split at hg
      · rename_i hz
        cases hg
        exact ⟨p, ws, w, rfl, rfl, h, by rw [r.l, ← sz_line]; exact hz, chg hp hc.mutk (by rw [List.length_append, List.length_singleton]; omega) (r.append (.cons ra .nil)) .non q⟩
      · cases hg
theorem ok_pop0 : OkM X G "list.pop" (mth .pop0) := by
  refine ⟨_, mt_pop, fun H F p xs as vs d ys Q hp hc ha hg q => ?_⟩
  obtain ⟨ws, h, z, r⟩ := id hc
  cases as with
  | cons _ _ => cases hg
  | nil =>
    cases ha.nil_inv
    simp only [mth] at hg
    split at hg
    · rename_i e he
      cases hg
      obtain ⟨v, hv, rv⟩ := r.get he
      refine ⟨p, ws, v, rfl, rfl, h, by rw [r.l]; exact hv, chg hp hc.mutk (by rw [List.length_dropLast]; omega) ?_ rv q⟩
      rw [List.dropLast_eq_take, List.dropLast_eq_take, r.l]
      exact r.take _
    · cases hg
theorem ixD_seq {n : Nat} {i : Int} {k : Nat} (h : ixD n i = some k) (hz : n ≤ SZ) : seqIndex? i n = some k ∨ n ≤ k := by
  unfold ixD at h
  by_cases h0 : 0 ≤ i
  · rw [if_pos h0] at h
    split at h
    · cases h
      rename_i hl
      exact .inl (seqIndex_of h0 hl)
    · cases h
  · rw [if_neg h0] at h
    split at h
    · cases h
      exact .inl (seqIndex_neg (by omega) (by omega))
    · cases h
theorem Reps.erase {K : Gm} {H : Hp} {F : Addr → Prop} {ds : List D} {vs : List V} (r : Reps K H F ds vs) (k : Nat) : Reps K H F (ds.eraseIdx k) (vs.eraseIdx k) := by
  rw [List.eraseIdx_eq_take_drop_succ, List.eraseIdx_eq_take_drop_succ]
  exact (r.take k).append (r.drop (k + 1))
theorem ok_popAt : OkM X G "list.pop" (mth .popAt) := by
  refine ⟨_, mt_popAt, fun H F p xs as vs d ys Q hp hc ha hg q => ?_⟩
  obtain ⟨ws, h, z, r⟩ := id hc
  cases as with
  | nil => cases hg
  | cons a t =>
    cases t with
    | cons _ _ => cases a <;> cases hg
    | nil =>
      obtain ⟨w, us, rfl, ra, rn⟩ := ha.cons_inv
      cases rn.nil_inv
      cases a with
      | int i =>
        cases ra
        simp only [mth] at hg
        split at hg
        · rename_i k hk
          split at hg
          · rename_i e he
            cases hg
            obtain ⟨v, hv, rv⟩ := r.get he
            obtain ⟨hl, _⟩ := List.getElem?_eq_some_iff.mp he
            have hs : seqIndex? i xs.length = some k := by
              rcases ixD_seq hk z with s | s
              · exact s
              · omega
            have hi : -(2 ^ 63) ≤ i ∧ i < 2 ^ 63 := by
              have hsz : SZ = 16777216 := rfl
              unfold ixD at hk
              split at hk <;> split at hk <;> first | (cases hk; done) | (constructor <;> omega)
            exact ⟨p, ws, i, k, v, rfl, rfl, h, hi.1, hi.2, by rw [r.l]; exact hs, hv, chg hp hc.mutk (Nat.le_trans (len_erase _ _) z) (r.erase k) rv q⟩
          · cases hg
        · cases hg
      | _ => cases hg
theorem ok_insert : OkM X G "list.insert" (mth .insert) := by
  refine ⟨_, mt_insert, fun H F p xs as vs d ys Q hp hc ha hg q => ?_⟩
  obtain ⟨ws, h, z, r⟩ := id hc
  cases as with
  | nil => cases hg
  | cons a t =>
    cases t with
    | nil => cases a <;> cases hg
    | cons b t =>
      cases t with
      | cons _ _ => cases a <;> cases hg
      | nil =>
        obtain ⟨w, us, rfl, ra, rn⟩ := ha.cons_inv
        obtain ⟨w', us', rfl, rb, rn⟩ := rn.cons_inv
        cases rn.nil_inv
        cases a with
        | int i =>
          cases ra
          simp only [mth] at hg
          split at hg
          · rename_i hz; unfold InsOk at hz
            cases hg
            refine ⟨p, ws, i, w', rfl, rfl, h, by rw [r.l, ← sz_line]; exact hz.2.2, hz.1, by omega, chg hp hc.mutk ?_ (((r.take _).append (.cons rb .nil)).append (r.drop _)) .non q⟩
            simp only [List.length_append, List.length_take, List.length_drop, List.length_singleton]
            have := hz.2.2
            omega
          · cases hg
        | _ => cases hg
theorem ok_extend : OkM X G "list.extend" (mth .extend) := by
  refine ⟨_, mt_extend, fun H F p xs as vs d ys Q hp hc ha hg q => ?_⟩
  obtain ⟨ws, h, z, r⟩ := id hc
  cases as with
  | nil => cases hg
  | cons a t =>
    cases t with
    | cons _ _ => cases a <;> cases hg
    | nil =>
      obtain ⟨w, us, rfl, ra, rn⟩ := ha.cons_inv
      cases rn.nil_inv
      cases a with
      | lst zs =>
        obtain ⟨b, bs, rfl, hb, zb, rb⟩ := OB.lst (.inl ra)
        simp only [mth] at hg
        split at hg
        · rename_i hz
          cases hg
          exact ⟨p, b, ws, bs, rfl, rfl, h, hb, by rw [r.l, rb.l, ← sz_line]; exact hz, chg hp hc.mutk (by rw [List.length_append]; exact hz) (r.append rb) .non q⟩
        · cases hg
      | _ => cases hg
/-! ### stores -/
theorem PSet.or {t t' : TSet} (h : PSet X t) (h' : PSet X t') : PSet X (fun o i v H Q => t o i v H Q ∨ t' o i v H Q) := by
  intro pins s σ H o i v ov iv u Q I ro ri rv q
  rcases q with q | q
  · exact h pins s σ H o i v ov iv u Q I ro ri rv q
  · exact h' pins s σ H o i v ov iv u Q I ro ri rv q
theorem set_dict (hu : X.A.units + 1 < cLine) : PSet X (fun o i v H Q => ∃ a H', o = .ref a ∧ DPut H a i v H' ∧ Q H') := by
  intro pins s σ H o i v ov iv u Q I ro ri rv q
  obtain ⟨a, H', rfl, g, q⟩ := q
  cases ro
  exact d_setItem hu I g ri rv fun s' I' => ⟨H', I', q⟩
theorem dput_eq {κ : Type} [DecidableEq κ] {k : κ} : ∀ (kvs : List (κ × V)), (kvs.any fun kv => decide (kv.1 = k)) = decide (k ∈ kvs.map (·.1))
  | [] => rfl
  | p :: r => by
    rw [List.any_cons, dput_eq r, List.map_cons]
    by_cases h : p.1 = k
    · simp [h]
    · have h' : ¬ k = p.1 := fun e => h e.symm
      simp [h, h']
theorem Reps.repl {κ : Type} [DecidableEq κ] {K : Gm} {H : Hp} {F : Addr → Prop} {k : κ} {d : D} {v : V} (h : Rep K H F d v) : ∀ {kvs : List (κ × V)} {ds : List D}, Reps K H F ds (kvs.map (·.2)) →
    Reps K H F (drepl (kvs.map (·.1)) ds k d) ((kvs.map fun kv => if kv.1 = k then (kv.1, v) else kv).map (·.2))
  | [], ds, r => by
    cases ds with
    | nil => exact .nil
    | cons _ _ => have := r.l; simp at this
  | p :: kvs, [], r => by have := r.l; simp at this
  | p :: kvs, e :: ds, r => by
    obtain ⟨a, b⟩ := Reps.head (w := p.2) r
    simp only [List.map_cons, drepl]
    by_cases hk : p.1 = k
    · rw [if_pos hk, if_pos hk]; exact .cons h (Reps.repl h b)
    · rw [if_neg hk, if_neg hk]; exact .cons a (Reps.repl h b)
theorem drepl_len {κ : Type} [DecidableEq κ] {k : κ} {d : D} : ∀ {ks : List κ} {ds : List D}, ks.length = ds.length → (drepl ks ds k d).length = ks.length
  | [], [], _ => rfl
  | [], _ :: _, h => by simp at h
  | _ :: _, [], h => by simp at h
  | _ :: ks, _ :: ds, h => by simp only [drepl, List.length_cons]; rw [drepl_len (by simpa using h)]
theorem putK_cn {κ : Type} [DecidableEq κ] {K : Gm} {H : Hp} {F : Addr → Prop} {k : κ} {d : D} {v : V} {kvs : List (κ × V)} {ds : List D} (l : (kvs.map (·.1)).length = ds.length) (r : Reps K H F ds (kvs.map (·.2))) (h : Rep K H F d v) :
    (putK kvs k v).map (·.1) = dputK (kvs.map (·.1)) k ∧ (dputK (kvs.map (·.1)) k).length = (dputV (kvs.map (·.1)) ds k d).length ∧ Reps K H F (dputV (kvs.map (·.1)) ds k d) ((putK kvs k v).map (·.2)) := by
  unfold putK dputK dputV
  rw [dput_eq]
  by_cases hm : k ∈ kvs.map (·.1)
  · rw [if_pos (decide_eq_true hm), if_pos hm, if_pos hm]
    refine ⟨?_, (drepl_len l).symm, r.repl h⟩
    rw [List.map_map]
    refine List.map_congr_left fun p _ => ?_
    show (if p.1 = k then (p.1, v) else p).1 = p.1
    split <;> rfl
  · rw [if_neg (by simpa using hm), if_neg hm, if_neg hm]
    refine ⟨by simp, by simp only [List.length_append, l, List.length_singleton], ?_⟩
    rw [List.map_append]
    exact r.append (.cons h .nil)
theorem ok_set (hu : X.A.units + 1 < cLine) : ∃ t, PSet X t ∧ ∀ (H : Hp) (F : Addr → Prop) (p : Addr) (d k x d' : D) (kv v : V) (Q : Hp → Prop), F p → Cn true ⟨X.K, G⟩ H F d p → OB ⟨X.K, G⟩ H F k kv → Rep ⟨X.K, G⟩ H F x v → setD G d k x = some d' →
    (∀ H', (∀ a o, a ≠ p → H a = some o → H' a = some o) → H' p ≠ none → Cn true ⟨X.K, G⟩ H' F d' p → Q H') → t (.ref p) kv v H Q := by
  refine ⟨_, PSet.or set_list (set_dict hu), fun H F p d k x d' kv v Q hp hc hk hx hg q => ?_⟩
  cases d with
  | lst xs =>
    obtain ⟨ws, h, z, r⟩ := id hc
    cases k with
    | int i =>
      cases hk.int
      simp only [setD] at hg
      split at hg
      · rename_i j hj
        cases hg
        refine .inl ⟨p, ws, i, j, rfl, rfl, h, ?_, ?_⟩
        · rw [r.l]
          unfold ixD at hj
          unfold ixN
          split at hj
          · rename_i h0; rw [if_pos h0]; exact hj
          · rename_i h0; rw [if_neg h0]; split at hj
            · rename_i h1; rw [if_pos (by omega)]; exact hj
            · cases hj
        · have st := stay_at (o := .lst (ws.set j v)) hp hc.mutk
          exact q _ (fun a o n e => by rw [upd_ne n]; exact e) (by rw [upd_same]; exact nofun) ⟨_, upd_same, by rw [List.length_set]; exact z, (r.set j hx).stay st⟩
      · cases hg
    | _ => cases hg
  | dk ks ds =>
    obtain ⟨kvs, h, e, l, r⟩ := id hc
    subst e
    have h : H p = some (.dK kvs) := h
    simp only [setD] at hg
    split at hg
    · rename_i j hj
      split at hg
      · rename_i hz
        cases hg
        cases keyOf_kV hk hj
        obtain ⟨a1, a2, a3⟩ := putK_cn (k := j) l r hx
        refine .inr ⟨p, _, rfl, .inl ⟨kvs, j, h, rfl, by rw [← sz_line]; simpa using hz, rfl⟩, ?_⟩
        have st := stay_at (o := .dK (putK kvs j v)) hp hc.mutk
        exact q _ (fun a o n e => by rw [upd_ne n]; exact e) (by rw [upd_same]; exact nofun) ⟨_, upd_same, a1, a2, a3.stay st⟩
      · cases hg
    · cases hg
  | dt ks ds =>
    obtain ⟨kvs, h, e, l, r⟩ := id hc
    subst e
    have h : H p = some (.dT kvs) := h
    cases k with
    | tup kk =>
      simp only [setD] at hg
      split at hg
      · rename_i ok
        split at hg
        · rename_i j hj
          split at hg
          · rename_i hz
            cases hg
            obtain ⟨b', rfl, e⟩ := key_tup hk ok hj
            obtain ⟨a1, a2, a3⟩ := putK_cn (k := j) l r hx
            refine .inr ⟨p, _, rfl, .inr ⟨kvs, j, b', h, rfl, e, by rw [← sz_line]; simpa using hz, rfl⟩, ?_⟩
            have st := stay_at (o := .dT (putK kvs j v)) hp hc.mutk
            exact q _ (fun a o n e => by rw [upd_ne n]; exact e) (by rw [upd_same]; exact nofun) ⟨_, upd_same, a1, a2, a3.stay st⟩
          · cases hg
        · cases hg
      · cases hg
    | _ => cases hg
  | _ => exact hc.elim
end
end Rx
set_option maxHeartbeats 1000000
/-! RxH: expressions, construct by construct. -/
namespace Rx
open PySem PySem.Spec PyProof.Rows L2

/-- an exception's wish by its class's name -/
abbrev Cl := Str → Value
section
variable (Γ : Gm) (W : WX) (cl : Cl)
/-- what is wanted of a result that the evaluator tells -/
def Post (σ : L2.St) (H : Hp) (C : Addr → Prop) (E : En) (Q : VK) : ER → Prop
  | .ok o d E' => ∀ v H', Tr E σ H E' σ H' → VR Γ H H' C o d v E' σ → Q v H'
  | .ex c E' => ∀ H', Tr E σ H E' σ H' → RE Γ H' C E' σ → W (cl c) none σ H'
  | .bad => False
def PostT (σ : L2.St) (H : Hp) (C : Addr → Prop) (E : En) (Q : Bool → Hp → Prop) : ER → Prop
  | .ok _ (.bl b) E' => ∀ H', Tr E σ H E' σ H' → RE Γ H' C E' σ → Q b H'
  | .ok _ _ _ => False
  | .ex c E' => ∀ H', Tr E σ H E' σ H' → RE Γ H' C E' σ → W (cl c) none σ H'
  | .bad => False
/-- a reading by the evaluator -/
def tI (f : En → ER) : TE := fun σ H Q => ∃ E C, RE Γ H C E σ ∧ Post Γ W cl σ H C E Q (f E)
def tIT (f : En → ER) : TT := fun σ H Q => ∃ E C, RE Γ H C E σ ∧ PostT Γ W cl σ H C E Q (f E)
/-- an operand: a name is looked up, nothing more -/
def tO (v : Option Nat) (f : En → ER) : TE := match v with
  | some i => tVar i
  | none => tI Γ W cl f
end
section
variable {Γ : Gm} {W : WX} {cl : Cl} {σ : L2.St} {H H1 H' : Hp} {C : Addr → Prop} {E E1 E' : En} {Q : VK} {X : Cx}
theorem Post.step {r : ER} (p : Post Γ W cl σ H C E Q r) (t : Tr E σ H E1 σ H1) : Post Γ W cl σ H1 C E1 Q r := by
  cases r with
  | ok o d E' =>
    intro v H' t' r
    refine p v H' (t.trans t') ?_
    cases o with
    | false => exact r
    | true =>
      obtain ⟨p, e, n, q⟩ := r
      refine ⟨p, e, ?_, q⟩
      cases h : H p with
      | none => rfl
      | some o => exact absurd n (t.there p (by rw [h]; exact nofun))
  | ex c E' => exact fun H' t' r => p H' (t.trans t') r
  | bad => exact p
theorem PostT.step {r : ER} {Q : Bool → Hp → Prop} (p : PostT Γ W cl σ H C E Q r) (t : Tr E σ H E1 σ H1) : PostT Γ W cl σ H1 C E1 Q r := by
  cases r with
  | ok o d E' =>
    cases d with
    | bl b => exact fun H' t' r => p H' (t.trans t') r
    | _ => exact p
  | ex c E' => exact fun H' t' r => p H' (t.trans t') r
  | bad => exact p
theorem _root_.L2.PE.conseq {e : Expr} {t t' : TE} (h : PE X e t) (i : ∀ σ H Q, t' σ H Q → t σ H Q) : PE X e t' := ⟨fun pins s σ H Q I q => h.run pins s σ H Q I (i σ H Q q)⟩
theorem _root_.L2.PT.conseq {e : Expr} {t t' : TT} (h : PT X e t) (i : ∀ σ H Q, t' σ H Q → t σ H Q) : PT X e t' := ⟨fun pins s σ H Q I q => h.run pins s σ H Q I (i σ H Q q)⟩
theorem _root_.L2.PW.conseq {e : Expr} {t t' : TT} (h : PW X e t) (i : ∀ σ H Q, t' σ H Q → t σ H Q) : PW X e t' := ⟨fun w pins s σ H Q I q => h.run w pins s σ H Q I (i σ H Q q)⟩

/-! ### operands -/
/-- an operand at a value -/
def OpdR (Γ : Gm) (H : Hp) (C : Addr → Prop) (E : En) (σ : L2.St) (x : Opd) (v : V) : Prop := match x with
  | .sl i => σ[i]? = some (some v)
  | .dt d => Rep Γ H (Fz C E σ) d v
theorem Tr.fz (t : Tr E σ H E' σ H') (r : RE Γ H C E σ) (r' : RE Γ H' C E' σ) {a : Addr} (z : Fz C E' σ a) : Fz C E σ a ∨ H a = none := by
  rcases z with z | ⟨i, s, g, ow, e⟩
  · exact .inl (.inl z)
  · cases s with
    | val d => cases ow
    | rfz d => cases ow
    | own d =>
      rcases t.own i a d g e with ⟨j, d', g', e'⟩ | n
      · exact .inl (.inr ⟨j, _, g', rfl, e'⟩)
      · exact .inr n
    | ref d =>
      obtain ⟨⟨d', g'⟩, _⟩ := t.ref i d g
      exact .inl (.inr ⟨i, _, g', rfl, e⟩)
    | lck b d => exact .inl (.inr ⟨i, _, t.lckB i b d g, rfl, e⟩)
theorem OpdR.step {x : Opd} {v : V} (h : OpdR Γ H C E σ x v) (r : RE Γ H C E σ) (t : Tr E σ H E' σ H') (r' : RE Γ H' C E' σ) : OpdR Γ H' C E' σ x v := by
  cases x with
  | sl i => exact h
  | dt d => exact Rep.stay h (r.stay t fun a z => t.fz r r' z)
theorem gt_val {i : Nat} {s : Sl} (h : gt E i = some s) : E[i]? = some (some s) := by
  unfold gt at h
  split at h
  · rename_i q; cases h; exact q
  · cases h
theorem SlR.ob {F : Addr → Prop} {s : Sl} {v : V} (h : SlR Γ H F s v) : OB Γ H F s.d v := by
  cases s with
  | val d => exact .inl h
  | rfz d => exact .inl h
  | own d => obtain ⟨p, e, c⟩ := h; exact .inr ⟨p, e, c.weakX⟩
  | ref d => obtain ⟨p, e, c⟩ := h; exact .inr ⟨p, e, c.weakX⟩
  | lck b d => exact .inr h
theorem OpdR.fetch {x : Opd} {v : V} {d : D} (h : OpdR Γ H C E σ x v) (r : RE Γ H C E σ) (e : fetch E x = some d) : OB Γ H (Fz C E σ) d v := by
  cases x with
  | sl i =>
    simp only [Rx.fetch] at e
    obtain ⟨s, g, rfl⟩ := Option.map_eq_some_iff.mp e
    obtain ⟨w, hw, q⟩ := r.slot i s g
    have h : σ[i]? = some (some v) := h
    rw [h] at hw; cases hw
    exact q.ob
  | dt d' =>
    cases e
    exact .inl h
/-- an operand is walked -/
theorem tO_of {a : Tm} {f : En → ER} {k : Opd → En → ER} (r : RE Γ H C E σ) (p : Post Γ W cl σ H C E Q (opB (asVar a) f E k)) {R : VK}
    (h : ∀ x v E1 H1, OpdR Γ H1 C E1 σ x v → RE Γ H1 C E1 σ → Tr E σ H E1 σ H1 → Post Γ W cl σ H1 C E1 Q (k x E1) → R v H1) : tO Γ W cl (asVar a) f σ H R := by
  cases q : asVar a with
  | some i =>
    rw [q] at p
    unfold opB at p
    simp only at p
    split at p
    · rename_i s g
      obtain ⟨v, hv, _⟩ := r.slot i s g
      exact ⟨v, hv, h (.sl i) v E H hv r .refl p⟩
    · exact p.elim
  | none =>
    rw [q] at p
    have p : Post Γ W cl σ H C E Q ((f E).bind fun _ d E' => k (.dt d) E') := p
    refine ⟨E, C, r, ?_⟩
    cases e : f E with
    | ok o d E1 =>
      rw [e] at p
      intro v H1 t vr
      obtain ⟨r1, rp⟩ := vr.share
      exact h (.dt d) v E1 H1 rp r1 t (p.step t)
    | ex c E1 => rw [e] at p; exact p
    | bad => rw [e] at p; exact p
/-- a result from a rule's promise -/
theorem PQ.post {o : Bool} {d : D} (r : RE Γ H C E σ) (p : Post Γ W cl σ H C E Q (.ok o d E)) : PQ Γ H (Fz C E σ) o d Q := by
  intro v H' same h
  have t : Tr E σ H E σ H' := .grow same
  refine p v H' t ?_
  have there : ∀ a, C a → H' a ≠ none := fun a z => t.there a (r.cH a z)
  cases o with
  | false =>
    rw [if_neg Bool.false_ne_true] at h
    exact ⟨r.grow same (fun a z => .inl z) there, h⟩
  | true =>
    rw [if_pos rfl] at h
    obtain ⟨p, e, n, c⟩ := h
    refine ⟨p, e, n, fun z => r.cH p z n, r.grow same (fun a z => ?_) (fun a z => ?_), ?_⟩
    · rcases z with z | z
      · exact .inl z
      · exact .inr (by rw [z]; exact n)
    · rcases z with z | z
      · exact there a z
      · rw [z]; exact c.there
    · refine c.stay (F' := Fz (fun a => C a ∨ a = p) E σ) (.weak fun a z => ?_) id
      rcases z with (z | z) | z
      · exact .inl (.inl z)
      · exact .inr z
      · exact .inl (.inr z)
/-- the last of one operand -/
theorem fin1_of {g : D → Option (Bool × D)} {x : Opd} {v : V} {R : Prop} (r : RE Γ H C E σ) (hx : OpdR Γ H C E σ x v) (p : Post Γ W cl σ H C E Q (fin1 g x E))
    (h : ∀ F d o d', (∀ a, F a → H a ≠ none) → OB Γ H F d v → g d = some (o, d') → PQ Γ H F o d' Q → R) : R := by
  unfold fin1 at p
  split at p
  · rename_i d hd
    split at p
    · rename_i z hz
      exact h _ d z.1 z.2 (fun a => r.fzThere) (hx.fetch r hd) hz (PQ.post r p)
    · exact p.elim
  · exact p.elim
theorem fin2_of {g : D → D → Option (Bool × D)} {x y : Opd} {v w : V} {R : Prop} (r : RE Γ H C E σ) (hx : OpdR Γ H C E σ x v) (hy : OpdR Γ H C E σ y w) (p : Post Γ W cl σ H C E Q (fin2 g x y E))
    (h : ∀ F d e o d', (∀ a, F a → H a ≠ none) → OB Γ H F d v → OB Γ H F e w → g d e = some (o, d') → PQ Γ H F o d' Q → R) : R := by
  unfold fin2 at p
  split at p
  · rename_i d e hd he
    split at p
    · rename_i z hz
      exact h _ d e z.1 z.2 (fun a => r.fzThere) (hx.fetch r hd) (hy.fetch r he) hz (PQ.post r p)
    · exact p.elim
  · exact p.elim
variable {a b c : Expr} {A B : Tm} {fa fb : En → ER} {pos : Pos}
/-! ### the constructs -/
theorem pe_p1 {n : String} {f : Value} {r : List V → Hp → VK → Prop} {g : D → Option (Bool × D)} (hK : X.K = Γ.K)
    (hr : ∀ (G : List D) (H : Hp) (F : Addr → Prop) (v : V) (d : D) (o : Bool) (d' : D) (Q : VK), (∀ a, F a → H a ≠ none) → OB ⟨X.K, G⟩ H F d v → g d = some (o, d') → PQ ⟨X.K, G⟩ H F o d' Q → r [v] H Q)
    {e : Expr} (h : PE X e (tCB r (tCons (tO Γ W cl (asVar A) fa) tNil))) : PE X e (tI Γ W cl fun E => opB (asVar A) fa E (fin1 g)) := by
  refine h.conseq fun σ H Q ⟨E, C, re, p⟩ => ?_
  refine tO_of re p fun x v E1 H1 hx r1 t p1 => ?_
  have hΓ : Γ = ⟨X.K, Γ.G⟩ := by rw [hK]
  exact fin1_of r1 hx p1 fun F d o d' hF ob hg q => hr Γ.G H1 F v d o d' Q hF (hΓ ▸ ob) hg (hΓ ▸ q)
theorem tOp_of {r : R2} {g : D → D → Option (Bool × D)} (hK : X.K = Γ.K) (hr : OkR X Γ.G r g) :
    ∀ σ H Q, tI Γ W cl (fun E => opB (asVar A) fa E fun x E1 => opB (asVar B) fb E1 fun y E2 => fin2 g x y E2) σ H Q → tOp r (tO Γ W cl (asVar A) fa) (tO Γ W cl (asVar B) fb) σ H Q := by
  intro σ H Q ⟨E, C, re, p⟩
  refine tO_of re p fun x v E1 H1 hx r1 t1 p1 => ?_
  refine tO_of r1 p1 fun y w E2 H2 hy r2 t2 p2 => ?_
  have hΓ : Γ = ⟨X.K, Γ.G⟩ := by rw [hK]
  exact fin2_of r2 (hx.step r1 t2 r2) hy p2 fun F d e o d' hF oa ob hg q => hr H2 F v w d e o d' Q hF (hΓ ▸ oa) (hΓ ▸ ob) hg (hΓ ▸ q)
theorem PostT.of_test {r : ER} {k : Bool → En → ER} {Q : Bool → Hp → Prop} (p : PostT Γ W cl σ H C E Q (r.test k)) {R : Bool → Hp → Prop}
    (h : ∀ b E1 H1, RE Γ H1 C E1 σ → Tr E σ H E1 σ H1 → PostT Γ W cl σ H1 C E1 Q (k b E1) → R b H1) : PostT Γ W cl σ H C E R r := by
  cases r with
  | ok o d E1 => cases d with
    | bl b => exact fun H1 t r1 => h b E1 H1 r1 t (PostT.step p t)
    | _ => exact p
  | ex c E1 => exact p
  | bad => exact p
theorem Post.of_test {r : ER} {k : Bool → En → ER} (p : Post Γ W cl σ H C E Q (r.test k)) {R : Bool → Hp → Prop}
    (h : ∀ b E1 H1, RE Γ H1 C E1 σ → Tr E σ H E1 σ H1 → Post Γ W cl σ H1 C E1 Q (k b E1) → R b H1) : PostT Γ W cl σ H C E R r := by
  cases r with
  | ok o d E1 => cases d with
    | bl b => exact fun H1 t r1 => h b E1 H1 r1 t (Post.step p t)
    | _ => exact p
  | ex c E1 => exact p
  | bad => exact p
/-- .. as a value that is a bool -/
theorem PostT.val {r : ER} {R : Bool → Hp → Prop} (p : PostT Γ W cl σ H C E R r) : Post Γ W cl σ H C E (fun x H1 => ∃ c, x = .bl c ∧ R c H1) r := by
  cases r with
  | ok o d E1 => cases d with
    | bl b =>
      intro v H1 t vr
      obtain ⟨r1, rp⟩ := vr.share
      cases rp
      exact ⟨b, rfl, p H1 t r1⟩
    | _ => exact p.elim
  | ex c E1 => exact p
  | bad => exact p
/-- a bool as the answer -/
theorem Post.bl {b : Bool} (r : RE Γ H C E σ) (p : Post Γ W cl σ H C E Q (.ok false (.bl b) E)) : Q (.bl b) H := p _ _ .refl ⟨r, .bl b⟩
theorem PostT.bl {b : Bool} {Q : Bool → Hp → Prop} (r : RE Γ H C E σ) (p : PostT Γ W cl σ H C E Q (.ok false (.bl b) E)) : Q b H := p _ .refl r
end
end Rx
set_option maxHeartbeats 1000000
/-! RxI: expressions, construct by construct (2). -/
namespace Rx
open PySem PySem.Spec PyProof.Rows L2
section
variable {Γ : Gm} {W : WX} {cl : Cl} {σ : L2.St} {H H1 H' : Hp} {C : Addr → Prop} {E E1 E' : En} {Q : VK} {X : Cx} {a b c e : Expr} {A B D' : Tm} {fa fb fc : En → ER} {pos : Pos}
/-! ### comparisons -/
theorem pe_cmpE {op : CmpOp} {cp : Cp} (hK : X.K = Γ.K) (hu : X.A.units + 65 < cLine) (ho : cp.op = op) (ha : PE X a (tO Γ W cl (asVar A) fa)) (hb : PE X b (tO Γ W cl (asVar B) fb)) (hm : behindInMarks op b = false) :
    PE X (.Compare a [op] [b] pos) (tI Γ W cl fun E => opB (asVar A) fa E fun x E1 => opB (asVar B) fb E1 fun y E2 => fin2 (fun d e => bl? (cmpD Γ.G cp d e)) x y E2) := by
  subst ho
  obtain ⟨r, h1, h2⟩ := okC (X := X) (G := Γ.G) hu cp
  exact (pe_cmpR h1 ha hb hm).conseq (tOp_of hK h2)
theorem pt_cmpE {op : CmpOp} {cp : Cp} (hK : X.K = Γ.K) (hu : X.A.units + 65 < cLine) (ho : cp.op = op) (ha : PE X a (tO Γ W cl (asVar A) fa)) (hb : PE X b (tO Γ W cl (asVar B) fb)) (hm : behindInMarks op b = false) :
    PT X (.Compare a [op] [b] pos) (tIT Γ W cl fun E => opB (asVar A) fa E fun x E1 => opB (asVar B) fb E1 fun y E2 => fin2 (fun d e => bl? (cmpD Γ.G cp d e)) x y E2) := by
  subst ho
  obtain ⟨r, h1, h2⟩ := okC (X := X) (G := Γ.G) hu cp
  refine (pt_cmpR h1 ha hb hm).conseq fun σ H Q ⟨E, C, re, p⟩ => ?_
  exact tOp_of hK h2 σ H _ ⟨E, C, re, p.val⟩
/-- the first link of a chain -/
theorem chain_of {r r' : R2} {g g' : D → D → Option (Bool × D)} (hK : X.K = Γ.K) (hr : OkR X Γ.G r fun d e => g d e) (hr' : OkR X Γ.G r' fun d e => g' d e) (hg : ∀ d e o d', g d e = some (o, d') → ∃ b, o = false ∧ d' = .bl b) :
    ∀ σ H Q, tI Γ W cl (fun E => opB (asVar A) fa E fun x E1 => opB (asVar B) fb E1 fun y E2 => (fin2 g x y E2).test fun k E3 => if k then opB (asVar D') fc E3 fun z E4 => fin2 g' y z E4 else .ok false (.bl false) E3) σ H Q →
      tChain r r' (tO Γ W cl (asVar A) fa) (tO Γ W cl (asVar B) fb) (tO Γ W cl (asVar D') fc) σ H Q := by
  intro σ H Q ⟨E, C, re, p⟩
  refine tO_of re p fun x v E1 H1 hx r1 t1 p1 => ?_
  refine tO_of r1 p1 fun y w E2 H2 hy r2 t2 p2 => ?_
  have hΓ : Γ = ⟨X.K, Γ.G⟩ := by rw [hK]
  have hx2 := hx.step r1 t2 r2
  unfold fin2 at p2
  split at p2
  · rename_i d e hd he
    split at p2
    · rename_i z hz
      obtain ⟨k, h1, h2⟩ := hg d e z.1 z.2 hz
      obtain ⟨z1, z2⟩ := z
      simp only at h1 h2
      subst h1 h2
      have p3 : Post Γ W cl σ H2 C E2 Q (if k then opB (asVar D') fc E2 fun z E4 => fin2 g' y z E4 else .ok false (.bl false) E2) := p2
      refine hr H2 _ v w d e false (.bl k) _ (fun a => r2.fzThere) (hΓ ▸ hx2.fetch r2 hd) (hΓ ▸ hy.fetch r2 he) hz ?_
      rw [← hΓ]
      intro v' H' same h
      rw [if_neg Bool.false_ne_true] at h
      cases h
      have t3 : Tr E2 σ H2 E2 σ H' := .grow same
      have r3 : RE Γ H' C E2 σ := r2.grow same (fun a z => .inl z) fun a z => t3.there a (r2.cH a z)
      refine ⟨k, rfl, ?_⟩
      cases k with
      | false =>
        rw [if_neg Bool.false_ne_true] at p3 ⊢
        exact Post.bl r3 (p3.step t3)
      | true =>
        rw [if_pos rfl] at p3 ⊢
        refine tO_of r3 (p3.step t3) fun z w' E4 H4 hz4 r4 t4 p4 => ?_
        exact fin2_of r4 ((hy.step r2 t3 r3).step r3 t4 r4) hz4 p4 fun F d e o d' hF oa ob hg q => hr' H4 F w w' d e o d' Q hF (hΓ ▸ oa) (hΓ ▸ ob) hg (hΓ ▸ q)
    · exact p2.elim
  · exact p2.elim
theorem bl?_val {r : Option Bool} {o : Bool} {d : D} (h : bl? r = some (o, d)) : ∃ b, o = false ∧ d = .bl b := by
  obtain ⟨b, _, h1, h2⟩ := bl?_inv h
  exact ⟨b, h1, h2⟩
theorem pe_chainE {op op' : CmpOp} {cp cp' : Cp} (hK : X.K = Γ.K) (hu : X.A.units + 65 < cLine) (ho : cp.op = op) (ho' : cp'.op = op') (ha : PE X a (tO Γ W cl (asVar A) fa)) (hb : PE X b (tO Γ W cl (asVar B) fb)) (hc : PE X c (tO Γ W cl (asVar D') fc))
    (hm : lastMarks [op, op'] [b, c] = false) : PE X (.Compare a [op, op'] [b, c] pos) (tI Γ W cl fun E => opB (asVar A) fa E fun x E1 => opB (asVar B) fb E1 fun y E2 => (fin2 (fun d e => bl? (cmpD Γ.G cp d e)) x y E2).test fun k E3 =>
      if k then opB (asVar D') fc E3 fun z E4 => fin2 (fun d e => bl? (cmpD Γ.G cp' d e)) y z E4 else .ok false (.bl false) E3) := by
  subst ho ho'
  obtain ⟨r, h1, h2⟩ := okC (X := X) (G := Γ.G) hu cp
  obtain ⟨r', h1', h2'⟩ := okC (X := X) (G := Γ.G) hu cp'
  exact (pe_chain h1 h1' ha hb hc hm).conseq (chain_of hK h2 h2' fun _ _ _ _ h => bl?_val h)
theorem pt_chainE {op op' : CmpOp} {cp cp' : Cp} (hK : X.K = Γ.K) (hu : X.A.units + 65 < cLine) (ho : cp.op = op) (ho' : cp'.op = op') (ha : PE X a (tO Γ W cl (asVar A) fa)) (hb : PE X b (tO Γ W cl (asVar B) fb)) (hc : PE X c (tO Γ W cl (asVar D') fc))
    (hm : lastMarks [op, op'] [b, c] = false) : PT X (.Compare a [op, op'] [b, c] pos) (tIT Γ W cl fun E => opB (asVar A) fa E fun x E1 => opB (asVar B) fb E1 fun y E2 => (fin2 (fun d e => bl? (cmpD Γ.G cp d e)) x y E2).test fun k E3 =>
      if k then opB (asVar D') fc E3 fun z E4 => fin2 (fun d e => bl? (cmpD Γ.G cp' d e)) y z E4 else .ok false (.bl false) E3) := by
  subst ho ho'
  obtain ⟨r, h1, h2⟩ := okC (X := X) (G := Γ.G) hu cp
  obtain ⟨r', h1', h2'⟩ := okC (X := X) (G := Γ.G) hu cp'
  refine (pt_chain h1 h1' ha hb hc hm).conseq fun σ H Q ⟨E, C, re, p⟩ => ?_
  exact chain_of hK h2 h2' (fun _ _ _ _ h => bl?_val h) σ H _ ⟨E, C, re, p.val⟩

/-! ### and, or, not, a if t else b -/
theorem and_of {ga : En → ER} {gb : En → ER} : ∀ σ H Q, tIT Γ W cl (fun E => (ga E).test fun k E1 => if k then gb E1 else .ok false (.bl false) E1) σ H Q → tAnd (tIT Γ W cl ga) (tIT Γ W cl gb) σ H Q := by
  intro σ H Q ⟨E, C, re, p⟩
  refine ⟨E, C, re, PostT.of_test p fun k E1 H1 r1 t1 p1 => ?_⟩
  cases k with
  | true => rw [if_pos rfl] at p1 ⊢; exact ⟨E1, C, r1, p1⟩
  | false => rw [if_neg Bool.false_ne_true] at p1 ⊢; exact PostT.bl r1 p1
theorem or_of {ga : En → ER} {gb : En → ER} : ∀ σ H Q, tIT Γ W cl (fun E => (ga E).test fun k E1 => if k then .ok false (.bl true) E1 else gb E1) σ H Q → tOr (tIT Γ W cl ga) (tIT Γ W cl gb) σ H Q := by
  intro σ H Q ⟨E, C, re, p⟩
  refine ⟨E, C, re, PostT.of_test p fun k E1 H1 r1 t1 p1 => ?_⟩
  cases k with
  | false => rw [if_neg Bool.false_ne_true] at p1 ⊢; exact ⟨E1, C, r1, p1⟩
  | true => rw [if_pos rfl] at p1 ⊢; exact PostT.bl r1 p1
theorem not_of {ga : En → ER} : ∀ σ H Q, tIT Γ W cl (fun E => (ga E).test fun k E1 => .ok false (.bl (!k)) E1) σ H Q → tNot (tIT Γ W cl ga) σ H Q := by
  intro σ H Q ⟨E, C, re, p⟩
  exact ⟨E, C, re, PostT.of_test p fun k E1 H1 r1 t1 p1 => PostT.bl r1 p1⟩
/-- the value of a first part that is a bool -/
theorem Post.of_testV {r : ER} {k : Bool → En → ER} (p : Post Γ W cl σ H C E Q (r.test k)) {R : VK}
    (h : ∀ b E1 H1, RE Γ H1 C E1 σ → Tr E σ H E1 σ H1 → Post Γ W cl σ H1 C E1 Q (k b E1) → R (.bl b) H1) : Post Γ W cl σ H C E R r := by
  cases r with
  | ok o d E1 => cases d with
    | bl b =>
      intro v H1 t vr
      obtain ⟨r1, rp⟩ := vr.share
      cases rp
      exact h b E1 H1 r1 t (Post.step p t)
    | _ => exact p.elim
  | ex c E1 => exact p
  | bad => exact p
theorem andV_of {ga : En → ER} {gb : En → ER} : ∀ σ H Q, tI Γ W cl (fun E => (ga E).test fun k E1 => if k then gb E1 else .ok false (.bl false) E1) σ H Q → tAndV (tI Γ W cl ga) (tI Γ W cl gb) σ H Q := by
  intro σ H Q ⟨E, C, re, p⟩
  refine ⟨E, C, re, Post.of_testV p fun k E1 H1 r1 t1 p1 => ⟨k, rfl, ?_⟩⟩
  cases k with
  | true => rw [if_pos rfl] at p1 ⊢; exact ⟨E1, C, r1, p1⟩
  | false => rw [if_neg Bool.false_ne_true] at p1 ⊢; exact Post.bl r1 p1
theorem orV_of {ga : En → ER} {gb : En → ER} : ∀ σ H Q, tI Γ W cl (fun E => (ga E).test fun k E1 => if k then .ok false (.bl true) E1 else gb E1) σ H Q → tOrV (tI Γ W cl ga) (tI Γ W cl gb) σ H Q := by
  intro σ H Q ⟨E, C, re, p⟩
  refine ⟨E, C, re, Post.of_testV p fun k E1 H1 r1 t1 p1 => ⟨k, rfl, ?_⟩⟩
  cases k with
  | false => rw [if_neg Bool.false_ne_true] at p1 ⊢; exact ⟨E1, C, r1, p1⟩
  | true => rw [if_pos rfl] at p1 ⊢; exact Post.bl r1 p1
theorem notV_of {ga : En → ER} : ∀ σ H Q, tI Γ W cl (fun E => (ga E).test fun k E1 => .ok false (.bl (!k)) E1) σ H Q → tNotV (tI Γ W cl ga) σ H Q := by
  intro σ H Q ⟨E, C, re, p⟩
  exact ⟨E, C, re, Post.of_testV p fun k E1 H1 r1 t1 p1 => ⟨k, rfl, Post.bl r1 p1⟩⟩
theorem ifx_of {gc ga gb : En → ER} : ∀ σ H Q, tI Γ W cl (fun E => (gc E).test fun k E1 => if k then ga E1 else gb E1) σ H Q → tIf (tIT Γ W cl gc) (tI Γ W cl ga) (tI Γ W cl gb) σ H Q := by
  intro σ H Q ⟨E, C, re, p⟩
  refine ⟨E, C, re, Post.of_test p fun k E1 H1 r1 t1 p1 => ?_⟩
  cases k with
  | true => rw [if_pos rfl] at p1 ⊢; exact ⟨E1, C, r1, p1⟩
  | false => rw [if_neg Bool.false_ne_true] at p1 ⊢; exact ⟨E1, C, r1, p1⟩
/-- .. as a test -/
def tIfT (t ta tb : TT) : TT := fun σ H Q => t σ H fun c H1 => if c = true then ta σ H1 Q else tb σ H1 Q
theorem pt_ifExp {tc ta tb : TT} (hc : PT X c tc) (ha : PT X a ta) (hb : PT X b tb) : PT X (.IfExp c a b pos) (tIfT tc ta tb) := by
  refine ⟨fun pins s σ H Q I h => ?_⟩
  refine wpAny_bind (thn (hc.run pins s σ H _ I h) fun d s1 ⟨H1, I1, q1⟩ => ?_)
  cases d with
  | true => exact ha.run pins s1 σ H1 Q I1 q1
  | false => exact hb.run pins s1 σ H1 Q I1 q1
theorem ifT_of {gc ga gb : En → ER} : ∀ σ H Q, tIT Γ W cl (fun E => (gc E).test fun k E1 => if k then ga E1 else gb E1) σ H Q → tIfT (tIT Γ W cl gc) (tIT Γ W cl ga) (tIT Γ W cl gb) σ H Q := by
  intro σ H Q ⟨E, C, re, p⟩
  refine ⟨E, C, re, PostT.of_test p fun k E1 H1 r1 t1 p1 => ?_⟩
  cases k with
  | true => rw [if_pos rfl] at p1 ⊢; exact ⟨E1, C, r1, p1⟩
  | false => rw [if_neg Bool.false_ne_true] at p1 ⊢; exact ⟨E1, C, r1, p1⟩
/-- a value's truth -/
theorem pt_tru (hK : X.K = Γ.K) (ha : PE X a (tO Γ W cl (asVar A) fa)) (he : ∀ whole, isTrue a X.env whole = (do let v ← whole; standAt a.pos; holding [v] (truthy v))) :
    PT X a (tIT Γ W cl (truthOf (asVar A) fa)) := by
  obtain ⟨r, h1, h2⟩ := ok_truth (X := X)
  have base : PT X a (fun σ H Q => tO Γ W cl (asVar A) fa σ H fun x H' => r x H' Q) := ⟨fun pins s σ H Q I h =>
    isTrue_plain (thn (ha.run pins s σ H _ I h) fun v s1 ⟨x, H1, I1, r1, q1⟩ => h1 pins s1 σ H1 x v Q I1 r1 q1) (he _)⟩
  refine base.conseq fun σ H Q ⟨E, C, re, p⟩ => ?_
  have p' : Post Γ W cl σ H C E (fun x H1 => ∃ c, x = .bl c ∧ Q c H1) (opB (asVar A) fa E (fin1 fun d => bl? (truth d))) := PostT.val p
  refine tO_of re p' fun x v E1 H1 hx r1 t p1 => ?_
  have hΓ : Γ = ⟨X.K, Γ.G⟩ := by rw [hK]
  refine fin1_of r1 hx p1 fun F d o d' hF ob hg q => ?_
  obtain ⟨k, h, rfl, rfl⟩ := bl?_inv hg
  obtain ⟨k', e, z⟩ := q.bl
  cases e
  exact h2 Γ.G H1 F v d k Q (hΓ ▸ ob) h z

/-- not, of any value -/
theorem pe_notE (hK : X.K = Γ.K) (ha : PE X a (tO Γ W cl (asVar A) fa)) :
    PE X (.UnaryOp .Not a pos) (tI Γ W cl fun E => opB (asVar A) fa E (fin1 fun d => bl? ((truth d).map fun k => !k))) := by
  obtain ⟨r, h1, h2⟩ := ok_truth (X := X)
  have base : PE X (.UnaryOp .Not a pos) (fun σ H Q => tO Γ W cl (asVar A) fa σ H fun x H' => r x H' fun c H2 => Q (.bl (!c)) H2) := ⟨fun pins s σ H Q I h =>
    UnaryOp_ (thn (ha.run pins s σ H _ I h) fun v s1 ⟨x, H1, I1, r1, q1⟩ => PyProof.Rows.not_of (thn (h1 pins s1 σ H1 x v (fun c H2 => Q (.bl (!c)) H2) I1 r1 q1) fun c s2 ⟨H2, I2, q2⟩ => ⟨.bl (!c), H2, I2, rfl, q2⟩))⟩
  refine base.conseq fun σ H Q ⟨E, C, re, p⟩ => ?_
  refine tO_of re p fun x v E1 H1 hx r1 t p1 => ?_
  have hΓ : Γ = ⟨X.K, Γ.G⟩ := by rw [hK]
  refine fin1_of r1 hx p1 fun F d o d' hF ob hg q => ?_
  obtain ⟨k, h, rfl, rfl⟩ := bl?_inv hg
  cases hk : truth d with
  | none => rw [hk] at h; cases h
  | some k0 =>
    rw [hk] at h
    cases h
    exact h2 Γ.G H1 F v d k0 _ (hΓ ▸ ob) hk q.bl

/-! ### names, constants -/
theorem gt_set_ne {i j : Nat} {s : Option Sl} (h : j ≠ i) : gt (E.set i s) j = gt E j := by
  unfold gt
  rw [List.getElem?_set_ne (Ne.symm h)]
theorem gt_set_at {i : Nat} {s : Option Sl} (h : i < E.length) : gt (E.set i s) i = s := by
  unfold gt
  rw [List.getElem?_set_self h]
  cases s <;> rfl
theorem gt_lt {i : Nat} {s : Sl} (h : gt E i = some s) : i < E.length := by
  obtain ⟨q, _⟩ := List.getElem?_eq_some_iff.mp (gt_val h)
  exact q
theorem gt_set_self {i : Nat} {s : Option Sl} {s0 : Sl} (h : gt E i = some s0) : gt (E.set i s) i = s := gt_set_at (gt_lt h)
theorem gt_set {i j : Nat} {s : Option Sl} {s' : Sl} (h : gt (E.set i s) j = some s') : (j = i ∧ s = some s') ∨ (j ≠ i ∧ gt E j = some s') := by
  by_cases e : j = i
  · subst e
    refine .inl ⟨rfl, ?_⟩
    have := gt_lt h
    rw [List.length_set] at this
    rw [gt_set_at this] at h
    exact h
  · rw [gt_set_ne e] at h
    exact .inr ⟨e, h⟩
/-- slots' states are changed, no value -/
theorem RE.alter (r : RE Γ H C E σ) (hl : E'.length = E.length) (ow : ∀ j s, gt E' j = some s → s.ow = true → ∃ s0, gt E j = some s0 ∧ s0.ow = true)
    (sl : ∀ j s, gt E' j = some s → gt E j = some s ∨ ∃ v, σ[j]? = some (some v) ∧ SlR Γ H (Fz C E' σ) s v) : RE Γ H C E' σ := by
  have oa : ∀ j p, OA E' σ j p → OA E σ j p := fun j p ⟨s, g, o, e⟩ => by
    obtain ⟨s0, g0, o0⟩ := ow j s g o
    exact ⟨s0, g0, o0, e⟩
  have st : Stay H H (Fz C E σ) (Fz C E' σ) fun _ => False := .weak fun a z => by
    rcases z with z | ⟨i, z⟩
    · exact .inl z
    · exact .inr ⟨i, oa i a z⟩
  refine ⟨hl.trans r.len, fun j s g => ?_, fun i j p h1 h2 => r.inj i j p (oa i p h1) (oa j p h2), fun i p h => r.dis i p (oa i p h), r.cH⟩
  rcases sl j s g with q | q
  · obtain ⟨v, e, q⟩ := r.slot j s q
    refine ⟨v, e, ?_⟩
    cases s with
    | val d => exact Rep.stay q st
    | rfz d => exact Rep.stay q st
    | own d => obtain ⟨p, e, c⟩ := q; exact ⟨p, e, c.stay st id⟩
    | ref d => obtain ⟨p, e, c⟩ := q; exact ⟨p, e, c.stay st id⟩
    | lck b d => obtain ⟨p, e, c⟩ := q; exact ⟨p, e, c.stay st id⟩
  · exact q
/-- a slot's object is shared from now on -/
theorem RE.share {i : Nat} {s0 s1 : Sl} (r : RE Γ H C E σ) (g : gt E i = some s0) (o : s0.ow = true) (h1 : s1 = .val s0.d ∨ s1 = .rfz s0.d) : RE Γ H C (E.set i (some s1)) σ ∧ ∃ v, σ[i]? = some (some v) ∧ Rep Γ H (Fz C (E.set i (some s1)) σ) s0.d v := by
  obtain ⟨v, e, q⟩ := r.slot i s0 g
  have no : s1.ow = false := by rcases h1 with rfl | rfl <;> rfl
  have oa : ∀ j p, OA (E.set i (some s1)) σ j p → j ≠ i ∧ OA E σ j p := fun j p ⟨s, g', o', e'⟩ => by
    rcases gt_set g' with ⟨rfl, z⟩ | ⟨n, z⟩
    · cases z; rw [no] at o'; cases o'
    · exact ⟨n, s, z, o', e'⟩
  have cn : ∃ p, v = .ref p ∧ Cn false Γ H (Fz C E σ) s0.d p := by
    cases s0 with
    | own d => obtain ⟨p, e, c⟩ := q; exact ⟨p, e, c.weakX⟩
    | ref d => obtain ⟨p, e, c⟩ := q; exact ⟨p, e, c.weakX⟩
    | lck b d => obtain ⟨p, e, c⟩ := q; exact ⟨p, e, c⟩
    | _ => cases o
  obtain ⟨p, rfl, c⟩ := cn
  have op : OA E σ i p := ⟨s0, g, o, e⟩
  have rp : Rep Γ H (Fz C (E.set i (some s1)) σ) s0.d (.ref p) := by
    refine (c.stay (F' := Fz C (E.set i (some s1)) σ) (.weak fun a z => ?_) id).rep fun z => ?_
    · rcases z with z | ⟨j, z⟩
      · exact .inl z
      · exact .inr ⟨j, (oa j a z).2⟩
    · rcases z with z | ⟨j, z⟩
      · exact r.dis i p op z
      · exact (oa j p z).1 (r.inj j i p (oa j p z).2 op)
  refine ⟨r.alter (by simp) (fun j s g' o' => ?_) (fun j s g' => ?_), _, e, rp⟩
  · rcases gt_set g' with ⟨rfl, z⟩ | ⟨n, z⟩
    · exact ⟨s0, g, o⟩
    · exact ⟨s, z, o'⟩
  · rcases gt_set g' with ⟨rfl, z⟩ | ⟨n, z⟩
    · cases z
      refine .inr ⟨_, e, ?_⟩
      rcases h1 with rfl | rfl <;> exact rp
    · exact .inl z
theorem tr_share {i : Nat} {s0 s1 : Sl} (g : gt E i = some s0) (h : (∃ d, s0 = .own d ∧ s1 = .val d) ∨ ∃ d, s0 = .ref d ∧ s1 = .rfz d) : Tr E σ H (E.set i (some s1)) σ H where
  keep := fun _ _ _ e => e
  there := fun _ e => e
  own := fun j p d g' e => by
    rcases gt_set g' with ⟨rfl, z⟩ | ⟨n, z⟩
    · cases z; rcases h with ⟨_, _, z⟩ | ⟨_, _, z⟩ <;> cases z
    · exact .inl ⟨j, d, z, e⟩
  lck := fun j b d g' => by
    have n : j ≠ i := fun e => by
      subst e; rw [g] at g'; cases g'
      rcases h with ⟨_, z, _⟩ | ⟨_, z, _⟩ <;> cases z
    exact ⟨by rw [gt_set_ne n]; exact g', rfl⟩
  lckB := fun j b d g' => by
    rcases gt_set g' with ⟨rfl, z⟩ | ⟨n, z⟩
    · cases z; rcases h with ⟨_, _, z⟩ | ⟨_, _, z⟩ <;> cases z
    · exact z
  ref := fun j d g' => by
    rcases gt_set g' with ⟨rfl, z⟩ | ⟨n, z⟩
    · cases z; rcases h with ⟨_, _, z⟩ | ⟨_, _, z⟩ <;> cases z
    · exact ⟨⟨d, z⟩, rfl⟩
  rfz := fun j d g' => by
    rcases gt_set g' with ⟨rfl, z⟩ | ⟨n, z⟩
    · cases z
      rcases h with ⟨_, _, z⟩ | ⟨d', z1, z2⟩
      · cases z
      · exact ⟨⟨d', .inl (by rw [g, z1])⟩, rfl⟩
    · exact ⟨⟨d, .inr z⟩, rfl⟩
theorem take_of {i : Nat} (re : RE Γ H C E σ) (p : Post Γ W cl σ H C E Q (take E i)) : tVar i σ H Q := by
  unfold take at p
  cases g : gt E i with
  | none => rw [g] at p; exact p.elim
  | some s =>
    rw [g] at p
    obtain ⟨v, e, q⟩ := re.slot i s g
    refine ⟨v, e, ?_⟩
    cases s with
    | val d => exact p v H .refl ⟨re, q⟩
    | rfz d => exact p v H .refl ⟨re, q⟩
    | lck b d => exact p.elim
    | own d =>
      obtain ⟨r', w, e', rp⟩ := re.share (s1 := .val d) g rfl (.inl rfl)
      rw [e] at e'; cases e'
      exact p v H (tr_share g (.inl ⟨d, rfl, rfl⟩)) ⟨r', rp⟩
    | ref d =>
      obtain ⟨r', w, e', rp⟩ := re.share (s1 := .rfz d) g rfl (.inr rfl)
      rw [e] at e'; cases e'
      exact p v H (tr_share g (.inr ⟨d, rfl, rfl⟩)) ⟨r', rp⟩
theorem pe_take {i : Nat} {x : Str} (hN : X.N[i]? = some x) (hv : Vis X.env.scope x) (hd : (x == ("__debug__" : Str)) = false) (hcd : (x == ("__classdict__" : Str)) = false) : PE X (.Name x pos) (tI Γ W cl fun E => take E i) :=
  (pe_var hN hv hd hcd).conseq fun σ H Q ⟨E, C, re, p⟩ => take_of re p
def cstOk : D → Const → Bool
  | .non, .none => true
  | .bl b, .bool c => b == c
  | .int i, .int j => i == j
  | .str x, .str y => decide (x = y)
  | _, _ => false
theorem pe_cst {d : D} {k : Const} {j : Nat} (h : cstOk d k = true) : PE X (.Constant k j pos) (tI Γ W cl fun E => .ok false d E) := by
  cases d with
  | non => cases k with
    | none => exact pe_non.conseq fun σ H Q ⟨E, C, re, p⟩ => p _ _ .refl ⟨re, .non⟩
    | _ => cases h
  | bl b => cases k with
    | bool c => exact pe_bl.conseq fun σ H Q ⟨E, C, re, p⟩ => p _ _ .refl ⟨re, by rw [eq_of_beq h]; exact .bl c⟩
    | _ => cases h
  | int b => cases k with
    | int c => exact pe_int.conseq fun σ H Q ⟨E, C, re, p⟩ => p _ _ .refl ⟨re, by rw [eq_of_beq h]; exact .int c⟩
    | _ => cases h
  | str b => cases k with
    | str c => exact pe_str.conseq fun σ H Q ⟨E, C, re, p⟩ => p _ _ .refl ⟨re, by rw [of_decide_eq_true h]; exact .str c⟩
    | _ => cases h
  | _ => cases k <;> cases h
/-- a constant of the module -/
def GlobOk (Γ : Gm) (d : D) (v : V) : Prop := ∀ (H : Hp) (F : Addr → Prop), Rep Γ H F d v
theorem pe_globE {j : Nat} {x : Str} {d : D} {v : V} {u : Value} (hg : Gl X x) (hm : X.mg x = some u) (r : RelV v u) (hd : (x == ("__debug__" : Str)) = false) (hj : Γ.G[j]? = some d) (ok : GlobOk Γ d v) : PE X (.Name x pos) (tI Γ W cl fun E => constOf Γ.G j E) := by
  refine (pe_glob hg hm r hd).conseq fun σ H Q ⟨E, C, re, p⟩ => ?_
  unfold constOf at p
  rw [hj] at p
  exact p v H .refl ⟨re, ok H _⟩
end
end Rx
set_option maxHeartbeats 1000000
/-! RxJ: expressions, construct by construct (3): operations, displays, slices, methods. -/
namespace Rx
open PySem PySem.Spec PyProof.Rows L2
section
variable {Γ : Gm} {W : WX} {cl : Cl} {σ : L2.St} {H H1 H' : Hp} {C : Addr → Prop} {E E1 E' : En} {Q : VK} {X : Cx} {a b c e : Expr} {A B D' : Tm} {fa fb fc : En → ER} {pos : Pos}

def P2.op : P2 → Option Operator
  | .add => some .Add
  | .sub => some .Sub
  | .mul => some .Mult
  | .mod => some .Mod
  | .fdiv => some .FloorDiv
  | _ => none
theorem ok2 {G : List D} : ∀ (p : P2) (op : Operator), p.op = some op → Ok2 X G (binaryOp op) (pr2 G p)
  | .add, _, rfl => ok_add
  | .sub, _, rfl => ok_sub
  | .mul, _, rfl => ok_mul
  | .mod, _, rfl => ok_mod
  | .fdiv, _, rfl => ok_fdiv
theorem pe_opE {p : P2} {op : Operator} (hK : X.K = Γ.K) (ho : p.op = some op) (ha : PE X a (tO Γ W cl (asVar A) fa)) (hb : PE X b (tO Γ W cl (asVar B) fb)) :
    PE X (.BinOp a op b pos) (tI Γ W cl fun E => opB (asVar A) fa E fun x E1 => opB (asVar B) fb E1 fun y E2 => fin2 (pr2 Γ.G p) x y E2) := by
  obtain ⟨r, h1, h2⟩ := ok2 (X := X) (G := Γ.G) p op ho
  exact (pe_op h1 ha hb).conseq (tOp_of hK h2)
theorem pe_itemE (hK : X.K = Γ.K) (hu : X.A.units + 1 < cLine) (hs : PlainIx b) (ha : PE X a (tO Γ W cl (asVar A) fa)) (hb : PE X b (tO Γ W cl (asVar B) fb)) :
    PE X (.Subscript a b pos) (tI Γ W cl fun E => opB (asVar A) fa E fun x E1 => opB (asVar B) fb E1 fun y E2 => fin2 (pr2 Γ.G .item) x y E2) := by
  obtain ⟨r, h1, h2⟩ := ok_item (X := X) (G := Γ.G) hu
  exact (pe_ix h1 ha hb hs).conseq (tOp_of hK h2)
def P2.fn : P2 → Option (String × String)
  | .max2 => some ("max", "max")
  | .min2 => some ("min", "min")
  | _ => none
theorem okC2 {G : List D} (hc : X.calm = true) : ∀ (p : P2) (n id : String), p.fn = some (n, id) → OkC2 X G (.builtin id) (pr2 G p)
  | .max2, _, _, rfl => ok_max2 hc
  | .min2, _, _, rfl => ok_min2 hc
theorem pe_callE2 {p : P2} {n id : String} {x : Str} {p0 : Pos} (hK : X.K = Γ.K) (hc : X.calm = true) (hf : p.fn = some (n, id)) (hg : Gl X x) (hm : X.mg x = none) (hv : bootBuiltins x = some (.builtin id)) (hn : x ≠ "__name__") (hdb : (x == ("__debug__" : Str)) = false)
    (ha : PE X a (tO Γ W cl (asVar A) fa)) (hb : PE X b (tO Γ W cl (asVar B) fb)) (s1 : starEach [a, b] X.env = [(false, eval a X.env), (false, eval b X.env)]) (s2 : starEach [b] X.env = [(false, eval b X.env)]) :
    PE X (.Call (.Name x p0) [a, b] [] pos) (tI Γ W cl fun E => opB (asVar A) fa E fun x E1 => opB (asVar B) fb E1 fun y E2 => fin2 (pr2 Γ.G p) x y E2) := by
  obtain ⟨r, h1, h2⟩ := okC2 (X := X) (G := Γ.G) hc p n id hf
  have hp : (backTo pos (starEach [b] X.env)).any (·.1) = false := by rw [s2]; rfl
  refine (pe_callB h1 hg hm hv (pa_cons ha (pa_cons hb pa_nil (by rw [s2]; rfl)) (by rw [s1, s2])) hn hdb (by rw [s1, s2]) hp).conseq fun σ H Q h => ?_
  exact tOp_of (r := fun x y H Q => r [x, y] H Q) hK h2 σ H Q h
theorem pe_callE1 {p : P1} {n : String} {f : Value} {x : Str} {p0 : Pos} (hK : X.K = Γ.K) (hu : X.A.units + 65 < cLine) (hc : X.calm = true) (hf : p.fv = some (n, f)) (hg : Gl X x) (hm : X.mg x = none) (hv : bootBuiltins x = some f) (hn : x ≠ "__name__") (hdb : (x == ("__debug__" : Str)) = false)
    (ha : PE X a (tO Γ W cl (asVar A) fa)) (s1 : starEach [a] X.env = [(false, eval a X.env)]) :
    PE X (.Call (.Name x p0) [a] [] pos) (tI Γ W cl fun E => opB (asVar A) fa E (fin1 (pr1 p))) := by
  obtain ⟨r, h1, h2⟩ := ok1 (X := X) hc hu p n f hf
  have hp : (backTo pos (starEach [] X.env)).any (·.1) = false := rfl
  have hs : starEach [a] X.env = (false, eval a X.env) :: starEach [] X.env := s1
  cases f with
  | builtin id => exact pe_p1 (n := n) (f := .none) hK h2 (pe_callB h1 hg hm hv (pa_cons ha pa_nil hs) hn hdb hs hp)
  | type id => exact pe_p1 (n := n) (f := .none) hK h2 (pe_callTy h1 hg hm hv (pa_cons ha pa_nil hs) hn hdb hs hp)
  | _ => cases p <;> cases hf
theorem pe_negE (hK : X.K = Γ.K) (ha : PE X a (tO Γ W cl (asVar A) fa)) : PE X (.UnaryOp .USub a pos) (tI Γ W cl fun E => opB (asVar A) fa E (fin1 (pr1 .neg))) := by
  refine (pe_un un_neg ha).conseq fun σ H Q ⟨E, C, re, p⟩ => ?_
  refine tO_of re p fun x v E1 H1 hx r1 t p1 => ?_
  refine fin1_of r1 hx p1 fun F d o d' hF ob hg q => ?_
  cases d with
  | int i => cases hg; cases ob.int; exact ⟨i, rfl, q.int⟩
  | _ => cases hg
theorem pe_isinstE {ty : String} {x y : Str} {p0 p1 : Pos} (hK : X.K = Γ.K) (hgx : Gl X x) (hmx : X.mg x = none) (hvx : bootBuiltins x = some (.builtin "isinstance")) (hnx : x ≠ "__name__") (hdx : (x == ("__debug__" : Str)) = false)
    (hgy : Gl X y) (hmy : X.mg y = none) (hvy : bootBuiltins y = some (.type ty)) (hny : y ≠ "__name__") (hdy : (y == ("__debug__" : Str)) = false) (ha : PE X a (tO Γ W cl (asVar A) fa))
    (s1 : starEach [a, .Name y p1] X.env = [(false, eval a X.env), (false, eval (.Name y p1) X.env)]) :
    PE X (.Call (.Name x p0) [a, .Name y p1] [] pos) (tI Γ W cl fun E => opB (asVar A) fa E (fin1 fun d => bl? (isTy d ty))) := by
  obtain ⟨r, h1, h2⟩ := ok_isinst (X := X) ty
  have hy : PE X (.Name y p1) (tC (.ty ty)) := pe_bltn hgy hmy hvy rfl hny hdy
  refine (pe_callB h1 hgx hmx hvx (pa_cons ha (pa_cons hy pa_nil rfl) s1) hnx hdx s1 rfl).conseq fun σ H Q ⟨E, C, re, p⟩ => ?_
  refine tO_of re p fun x v E1 H1 hx r1 t p1 => ?_
  have hΓ : Γ = ⟨X.K, Γ.G⟩ := by rw [hK]
  exact fin1_of r1 hx p1 fun F d o d' hF ob hg q => h2 Γ.G H1 F v d o d' Q (hΓ ▸ ob) hg (hΓ ▸ q)

/-! ### slices -/
def tBd (Γ : Gm) (W : WX) (cl : Cl) (v : Option (Option Nat × (En → ER))) : TO := match v with
  | none => tNoPart
  | some (v, f) => tPart (tO Γ W cl v f)
def bordE (v : Option (Option Nat × (En → ER))) (E : En) (k : Option Int → En → ER) : ER := match v with
  | none => k none E
  | some (v, f) => partE v f E k
theorem tBd_of {v : Option (Option Nat × (En → ER))} {k : Option Int → En → ER} (hv : ∀ u f, v = some (u, f) → ∃ A : Tm, u = asVar A) (r : RE Γ H C E σ) (p : Post Γ W cl σ H C E Q (bordE v E k)) {R : Option Int → Hp → Prop}
    (h : ∀ o E1 H1, RE Γ H1 C E1 σ → Tr E σ H E1 σ H1 → Post Γ W cl σ H1 C E1 Q (k o E1) → R o H1) : tBd Γ W cl v σ H R := by
  cases v with
  | none => exact h none E H r .refl p
  | some w =>
    obtain ⟨u, f⟩ := w
    obtain ⟨A, rfl⟩ := hv u f rfl
    have p : Post Γ W cl σ H C E Q (opB (asVar A) f E fun y E2 => match fetch E2 y with
      | some (.int i) => k (some i) E2
      | _ => .bad) := p
    refine tO_of r p fun x v E1 H1 hx r1 t p1 => ?_
    cases hd : fetch E1 x with
    | none => rw [hd] at p1; exact p1.elim
    | some d =>
      rw [hd] at p1
      cases d with
      | int i =>
        have ob := hx.fetch r1 hd
        cases ob.int
        exact ⟨i, rfl, h (some i) E1 H1 r1 t p1⟩
      | _ => exact p1.elim
theorem pe_sliceE {lo hi : Option Expr} {vl vh : Option (Option Nat × (En → ER))} {p2 : Pos} (hK : X.K = Γ.K) (hvl : ∀ u f, vl = some (u, f) → ∃ A : Tm, u = asVar A) (hvh : ∀ u f, vh = some (u, f) → ∃ A : Tm, u = asVar A)
    (ha : PE X a (tO Γ W cl (asVar A) fa)) (hl : PO X lo (tBd Γ W cl vl)) (hh : PO X hi (tBd Γ W cl vh)) :
    PE X (.Subscript a (.Slice lo hi none p2) pos) (tI Γ W cl fun E => opB (asVar A) fa E fun x E1 => bordE vl E1 fun l E2 => bordE vh E2 fun h E3 => fin1 (fun d => slD d l h) x E3) := by
  obtain ⟨r, h1, h2⟩ := ok_slice (X := X)
  refine (pe_slice h1 ha hl hh).conseq fun σ H Q ⟨E, C, re, p⟩ => ?_
  refine tO_of re p fun x v E1 H1 hx r1 t1 p1 => ?_
  refine tBd_of hvl r1 p1 fun l E2 H2 r2 t2 p2 => ?_
  refine tBd_of hvh r2 p2 fun h E3 H3 r3 t3 p3 => ?_
  have hΓ : Γ = ⟨X.K, Γ.G⟩ := by rw [hK]
  exact fin1_of r3 ((hx.step r1 t2 r2).step r2 t3 r3) p3 fun F d o d' hF ob hg q => h2 Γ.G H3 F v d l h o d' Q hF (hΓ ▸ ob) hg (hΓ ▸ q)

/-! ### displays -/
/-- what is wanted of items -/
def PostV (Γ : Gm) (W : WX) (cl : Cl) (σ : L2.St) (H : Hp) (C : Addr → Prop) (E : En) (R : List V → Hp → Prop) : AR → Prop
  | .ok as _ E' => ∀ vs H', Tr E σ H E' σ H' → RE Γ H' C E' σ → Reps Γ H' (Fz C E' σ) (as.map Sl.d) vs → R vs H'
  | .ex c E' => ∀ H', Tr E σ H E' σ H' → RE Γ H' C E' σ → W (cl c) none σ H'
  | .bad => False
def tV (Γ : Gm) (W : WX) (cl : Cl) (f : En → AR) : TA := fun σ H R => ∃ E C, RE Γ H C E σ ∧ PostV Γ W cl σ H C E R (f E)
theorem PostV.step {r : AR} {R : List V → Hp → Prop} (p : PostV Γ W cl σ H C E R r) (t : Tr E σ H E1 σ H1) : PostV Γ W cl σ H1 C E1 R r := by
  cases r with
  | ok as bk E' => exact fun vs H' t' r reps => p vs H' (t.trans t') r reps
  | ex c E' => exact fun H' t' r => p H' (t.trans t') r
  | bad => exact p
theorem pa_nilV : PA X [] (tV Γ W cl fun E => .ok [] [] E) := ⟨fun pos pins s σ H Q I ⟨E, C, re, p⟩ => pa_nil.run pos pins s σ H Q I (p [] H .refl re .nil)⟩
theorem pa_consV {es : List Expr} {ft : En → ER} {fr : En → AR} (ht : PE X e (tI Γ W cl ft)) (hr : PA X es (tV Γ W cl fr)) (hs : starEach (e :: es) X.env = (false, eval e X.env) :: starEach es X.env) : PA X (e :: es) (tV Γ W cl fun E => argD (ft E) fr) := by
  refine ⟨fun pos pins s σ H R I ⟨E, C, re, p⟩ => (pa_cons ht hr hs).run pos pins s σ H R I ⟨E, C, re, ?_⟩⟩
  have p : PostV Γ W cl σ H C E R (argD (ft E) fr) := p
  cases h : ft E with
  | bad => rw [h] at p; exact p
  | ex c E1 => rw [h] at p; exact p
  | ok o d E1 =>
    rw [h] at p
    intro v H1 t1 vr
    obtain ⟨r1, rp⟩ := vr.share
    refine ⟨E1, C, r1, ?_⟩
    have p : PostV Γ W cl σ H C E R ((fr E1).bind fun as bk E' => .ok (.val d :: as) (none :: bk) E') := p
    cases h2 : fr E1 with
    | bad => rw [h2] at p; exact p
    | ex c E2 => rw [h2] at p; exact fun H' t' r' => p H' (t1.trans t') r'
    | ok as bk E2 =>
      rw [h2] at p
      intro vs H' t' r' reps
      exact p (v :: vs) H' (t1.trans t') r' (.cons (rp.stay (r1.stay t' fun a z => t'.fz r1 r' z)) reps)
theorem back_nil {bk : List (Option (Nat × Bool))} : back bk [] E = E := by
  cases bk with
  | nil => rfl
  | cons x r => cases x with
    | none => rfl
    | some y => rfl
/-- a display behind its items -/
theorem Post.disp {r : AR} {g : List Sl → Bool × D} (p : Post Γ W cl σ H C E Q (r.call fun as => .ok (g as).1 (g as).2 [])) {R : List V → Hp → Prop}
    (h : ∀ as E1 H1 vs, Tr E σ H E1 σ H1 → RE Γ H1 C E1 σ → Reps Γ H1 (Fz C E1 σ) (as.map Sl.d) vs → (∃ bk, r = .ok as bk E1) → Post Γ W cl σ H1 C E1 Q (.ok (g as).1 (g as).2 E1) → R vs H1) : PostV Γ W cl σ H C E R r := by
  cases r with
  | bad => exact p
  | ex c E1 => exact p
  | ok as bk E1 =>
    have p : Post Γ W cl σ H C E Q (.ok (g as).1 (g as).2 (back bk [] E1)) := p
    rw [back_nil] at p
    exact fun vs H' t r reps => h as E1 H' vs t r reps ⟨bk, rfl⟩ (p.step t)
theorem sz_le {n : Nat} (h : n ≤ SZ) : n ≤ sizeLine := by rw [← sz_line]; exact h
theorem pe_tupE {es : List Expr} {f : En → AR} {x1} (hz : ∀ E as bk E', f E = .ok as bk E' → as.length ≤ SZ) (h : PA X es (tV Γ W cl f)) : PE X (.Tuple es x1 pos) (tI Γ W cl fun E => (f E).call fun as => .ok false (.tup (as.map Sl.d)) []) := by
  refine (pe_tup h).conseq fun σ H Q ⟨E, C, re, p⟩ => ⟨E, C, re, ?_⟩
  refine Post.disp (g := fun as => (false, .tup (as.map Sl.d))) p fun as E1 H1 vs t r reps ⟨bk, eq⟩ p1 => ?_
  have z : (as.map Sl.d).length ≤ SZ := by rw [List.length_map]; exact hz _ _ _ _ eq
  exact ⟨by rw [reps.l]; exact sz_le z, fun q nq => (PQ.post r p1).newT reps z (fun a => r.fzThere) q nq⟩
theorem pe_lstE {es : List Expr} {f : En → AR} (hz : ∀ E as bk E', f E = .ok as bk E' → as.length ≤ SZ) (h : PA X es (tV Γ W cl f)) : PE X (.List es pos) (tI Γ W cl fun E => (f E).call fun as => .ok true (.lst (as.map Sl.d)) []) := by
  refine (pe_lst h).conseq fun σ H Q ⟨E, C, re, p⟩ => ⟨E, C, re, ?_⟩
  refine Post.disp (g := fun as => (true, .lst (as.map Sl.d))) p fun as E1 H1 vs t r reps ⟨bk, eq⟩ p1 => ?_
  have z : (as.map Sl.d).length ≤ SZ := by rw [List.length_map]; exact hz _ _ _ _ eq
  exact ⟨by rw [reps.l]; exact sz_le z, fun q nq => (PQ.post r p1).newL reps z q nq⟩
theorem pe_dictE {t : Bool} : PE X (.Dict [] [] pos) (tI Γ W cl fun E => .ok true (if t then .dt [] [] else .dk [] []) E) := by
  cases t with
  | false =>
    refine pe_dnewK.conseq fun σ H Q ⟨E, C, re, p⟩ q nq => ?_
    have p : Post Γ W cl σ H C E Q (.ok true (.dk [] []) E) := p
    refine PQ.post re p (.ref q) (upd H q (.dK [])) (same_upd' nq) ?_
    rw [if_pos rfl]
    exact ⟨q, rfl, nq, [], (by rw [if_pos rfl]; exact upd_same), rfl, rfl, .nil⟩
  | true =>
    refine pe_dnewT.conseq fun σ H Q ⟨E, C, re, p⟩ q nq => ?_
    have p : Post Γ W cl σ H C E Q (.ok true (.dt [] []) E) := p
    refine PQ.post re p (.ref q) (upd H q (.dT [])) (same_upd' nq) ?_
    rw [if_pos rfl]
    exact ⟨q, rfl, nq, [], (by rw [if_pos rfl]; exact upd_same), rfl, rfl, .nil⟩
/-- list(range(a, b)) -/
theorem rgV_reps {H : Hp} {F : Addr → Prop} {a b : Int} : Reps Γ H F (rangeD a b) (rgV a b) := by
  refine ⟨by simp [rangeD, rgV], fun i d v h1 h2 => ?_⟩
  unfold rangeD at h1
  unfold rgV at h2
  rw [List.getElem?_map] at h1 h2
  obtain ⟨m, hm, rfl⟩ := Option.map_eq_some_iff.mp h1
  rw [hm] at h2
  cases h2
  exact .int _
theorem rng_post {o : Bool} {m n : Int} {R : VK} (r : RE Γ H C E σ) (p : Post Γ W cl σ H C E R (if rgOk m n then .ok true (.lst (rangeD m n)) E else .bad)) : RgOk m n ∧ ∀ q, H q = none → R (.ref q) (upd H q (.lst (rgV m n))) := by
  cases hr : rgOk m n with
  | false => rw [hr] at p; exact p.elim
  | true =>
    rw [hr, if_pos rfl] at p
    unfold rgOk at hr
    simp only [Bool.and_eq_true, decide_eq_true_eq] at hr
    refine ⟨⟨by omega, by omega, by omega, by omega, by omega⟩, fun q nq => ?_⟩
    have q' := PQ.post r p
    have hz : (rangeD m n).length ≤ SZ := by
      simp only [rangeD, List.length_map, List.length_range]
      show _ ≤ 16777216
      omega
    exact q'.newL (rgV_reps) hz q nq
theorem rng2_of : ∀ σ H Q, tI Γ W cl (fun E => (fa E).bind fun _ d E1 => (fb E1).bind fun _ e E2 => match d, e with
    | .int m, .int n => if rgOk m n then .ok true (.lst (rangeD m n)) E2 else .bad
    | _, _ => .bad) σ H Q → tLstRg (tRg2 (tI Γ W cl fa) (tI Γ W cl fb)) σ H Q := by
  intro σ H Q ⟨E, C, re, p⟩
  refine ⟨E, C, re, ?_⟩
  dsimp only at p
  cases h : fa E with
  | bad => rw [h] at p; exact p
  | ex c E1 => rw [h] at p; exact p
  | ok o d E1 =>
    rw [h] at p
    intro v H1 t vr
    obtain ⟨r1, rp⟩ := vr.share
    refine ⟨E1, C, r1, ?_⟩
    dsimp only [ER.bind] at p
    cases h2 : fb E1 with
    | bad => rw [h2] at p; exact p
    | ex c E2 => rw [h2] at p; exact fun H' t' r' => p H' (t.trans t') r'
    | ok o2 d2 E2 =>
      rw [h2] at p
      intro w H2 t2 vr2
      obtain ⟨r2, rp2⟩ := vr2.share
      cases rp with
      | int m =>
        cases rp2 with
        | int n => exact ⟨m, n, rfl, rfl, rng_post (o := false) r2 (Post.step p (t.trans t2))⟩
        | _ => exact p.elim
      | _ => cases d2 <;> exact p.elim
theorem rng1_of : ∀ σ H Q, tI Γ W cl (fun E => (ER.ok false (.int 0) E).bind fun _ d E1 => (fb E1).bind fun _ e E2 => match d, e with
    | .int m, .int n => if rgOk m n then .ok true (.lst (rangeD m n)) E2 else .bad
    | _, _ => .bad) σ H Q → tLstRg (tRg1 (tI Γ W cl fb)) σ H Q := by
  intro σ H Q ⟨E, C, re, p⟩
  refine ⟨E, C, re, ?_⟩
  dsimp only [ER.bind] at p
  cases h2 : fb E with
  | bad => rw [h2] at p; exact p
  | ex c E2 => rw [h2] at p; exact p
  | ok o2 d2 E2 =>
    rw [h2] at p
    intro w H2 t2 vr2
    obtain ⟨r2, rp2⟩ := vr2.share
    cases rp2 with
    | int n => exact ⟨n, rfl, rng_post (o := false) r2 (Post.step p t2)⟩
    | _ => exact p.elim
end
end Rx
set_option maxHeartbeats 1000000
/-! RxK: what is changed in place; calls of the program's own defs. -/
namespace Rx
open PySem PySem.Spec PyProof.Rows L2
section
variable {Γ : Gm} {W : WX} {cl : Cl} {σ σ' : L2.St} {H H1 H' : Hp} {C C' : Addr → Prop} {E E1 E' : En} {Q : VK} {X : Cx} {a b c e : Expr} {A B D' : Tm} {fa fb fc : En → ER} {pos : Pos}

/-- a slot's object is changed in place -/
theorem RE.put {i : Nat} {s0 s1 : Sl} {p : Addr} {d' : D} (r : RE Γ H C E σ) (g : gt E i = some s0) (h : (∃ d, s0 = .own d ∧ s1 = .own d') ∨ ∃ d, s0 = .ref d ∧ s1 = .ref d') (hv : σ[i]? = some (some (.ref p)))
    (keep : ∀ a o, a ≠ p → H a = some o → H' a = some o) (np : H' p ≠ none) (c : Cn true Γ H' (Fz C E σ) d' p) : RE Γ H' C (E.set i (some s1)) σ ∧ Tr E σ H (E.set i (some s1)) σ H' := by
  have ow0 : s0.ow = true := by rcases h with ⟨d, rfl, _⟩ | ⟨d, rfl, _⟩ <;> rfl
  have ow1 : s1.ow = true := by rcases h with ⟨d, _, rfl⟩ | ⟨d, _, rfl⟩ <;> rfl
  have op : OA E σ i p := ⟨s0, g, ow0, hv⟩
  have mp : Mu E σ p := ⟨i, s0, g, by rcases h with ⟨d, rfl, _⟩ | ⟨d, rfl, _⟩; exact .inl ⟨d, rfl⟩; exact .inr ⟨d, rfl⟩, hv⟩
  have oa : ∀ j q, OA (E.set i (some s1)) σ j q → OA E σ j q := fun j q ⟨s, g', o, e⟩ => by
    rcases gt_set g' with ⟨rfl, z⟩ | ⟨n, z⟩
    · exact ⟨s0, g, ow0, e⟩
    · exact ⟨s, z, o, e⟩
  have fz : ∀ q, Fz C (E.set i (some s1)) σ q → Fz C E σ q := fun q z => by
    rcases z with z | ⟨j, z⟩
    · exact .inl z
    · exact .inr ⟨j, oa j q z⟩
  have st : Stay H H' (Fz C E σ) (Fz C (E.set i (some s1)) σ) (fun a => a = p) :=
    ⟨fun a o n e => keep a o n e, fun a e => by rw [e]; exact .inr ⟨i, op⟩, fun a e => by rw [e]; exact r.muK mp, fun a z => .inl (fz a z)⟩
  refine ⟨⟨by rw [List.length_set]; exact r.len, fun j s g' => ?_, fun j k q h1 h2 => r.inj j k q (oa j q h1) (oa k q h2), fun j q o => r.dis j q (oa j q o), fun a z => ?_⟩, ?_⟩
  · rcases gt_set g' with ⟨rfl, z⟩ | ⟨n, z⟩
    · cases z
      refine ⟨_, hv, ?_⟩
      have c' : Cn true Γ H' (Fz C (E.set j (some s1)) σ) d' p := c.stay (.weak fz) id
      rcases h with ⟨d, _, rfl⟩ | ⟨d, _, rfl⟩ <;> exact ⟨p, rfl, c'⟩
    · obtain ⟨v, e, q⟩ := r.slot j s z
      refine ⟨v, e, ?_⟩
      have ne : ∀ p', v = .ref p' → s.ow = true → p' ≠ p := fun p' ev ho ep => by
        subst ev
        rw [ep] at e
        exact n (r.inj j i p ⟨s, z, ho, e⟩ op)
      cases s with
      | val d => exact Rep.stay q st
      | rfz d => exact Rep.stay q st
      | own d => obtain ⟨p', e', c⟩ := q; exact ⟨p', e', c.stay st (ne p' e' rfl)⟩
      | ref d => obtain ⟨p', e', c⟩ := q; exact ⟨p', e', c.stay st (ne p' e' rfl)⟩
      | lck b d => obtain ⟨p', e', c⟩ := q; exact ⟨p', e', c.stay st (ne p' e' rfl)⟩
  · by_cases e : a = p
    · rw [e]; exact np
    · intro z
      cases q : H a with
      | none => exact r.cH a ‹C a› q
      | some o => rw [keep a o e q] at z; cases z
  · refine ⟨fun a o n e => keep a o (fun z => n (z ▸ mp)) e, fun a n z => ?_, fun j q d g' e => ?_, fun j b d g' => ?_, fun j b d g' => ?_, fun j d g' => ?_, fun j d g' => ?_⟩
    · by_cases e : a = p
      · exact np (e ▸ z)
      · cases q : H a with
        | none => exact n q
        | some o => rw [keep a o e q] at z; cases z
    · rcases gt_set g' with ⟨rfl, z⟩ | ⟨n, z⟩
      · cases z
        rcases h with ⟨d0, rfl, _⟩ | ⟨d0, _, z⟩
        · exact .inl ⟨j, d0, g, e⟩
        · cases z
      · exact .inl ⟨j, d, z, e⟩
    · have n : j ≠ i := fun e => by
        subst e; rw [g] at g'; cases g'
        rcases h with ⟨_, z, _⟩ | ⟨_, z, _⟩ <;> cases z
      exact ⟨by rw [gt_set_ne n]; exact g', rfl⟩
    · rcases gt_set g' with ⟨rfl, z⟩ | ⟨n, z⟩
      · cases z; rcases h with ⟨_, _, z⟩ | ⟨_, _, z⟩ <;> cases z
      · exact z
    · rcases gt_set g' with ⟨rfl, z⟩ | ⟨n, z⟩
      · cases z
        rcases h with ⟨d0, _, z⟩ | ⟨d0, rfl, z⟩
        · cases z
        · exact ⟨⟨d0, g⟩, rfl⟩
      · exact ⟨⟨d, z⟩, rfl⟩
    · rcases gt_set g' with ⟨rfl, z⟩ | ⟨n, z⟩
      · cases z; rcases h with ⟨_, _, z⟩ | ⟨_, _, z⟩ <;> cases z
      · exact ⟨⟨d, .inr z⟩, rfl⟩
theorem putS_inv {i : Nat} {d : D} (h : putS E i d = some E1) : ∃ s0 s1, gt E i = some s0 ∧ ((∃ d0, s0 = .own d0 ∧ s1 = .own d) ∨ ∃ d0, s0 = .ref d0 ∧ s1 = .ref d) ∧ E1 = E.set i (some s1) := by
  unfold putS at h
  split at h
  · rename_i d0 g; cases h; exact ⟨_, _, g, .inl ⟨d0, rfl, rfl⟩, rfl⟩
  · rename_i d0 g; cases h; exact ⟨_, _, g, .inr ⟨d0, rfl, rfl⟩, rfl⟩
  · cases h

/-! ### methods of a list -/
def M1.bt : M1 → String
  | .append => "list.append"
  | .pop0 => "list.pop"
  | .popAt => "list.pop"
  | .insert => "list.insert"
  | .extend => "list.extend"
theorem okM {G : List D} : ∀ m : M1, OkM X G m.bt (mth m)
  | .append => ok_append
  | .pop0 => ok_pop0
  | .popAt => ok_popAt
  | .insert => ok_insert
  | .extend => ok_extend
theorem meth_of {m : M1} {i : Nat} {f : En → AR} (hK : X.K = Γ.K) : ∃ r, MtR X m.bt r ∧ ∀ σ H Q, tI Γ W cl (fun E => if isLst (gt E i) then finM m i (f E) else .bad) σ H Q → tBM X.K "list" r (tVar i) (tV Γ W cl f) σ H Q := by
  obtain ⟨r, h1, h2⟩ := okM (X := X) (G := Γ.G) m
  refine ⟨r, h1, fun σ H Q ⟨E, C, re, p⟩ => ?_⟩
  have hΓ : Γ = ⟨X.K, Γ.G⟩ := by rw [hK]
  have p : Post Γ W cl σ H C E Q (if isLst (gt E i) then finM m i (f E) else .bad) := p
  cases hl : isLst (gt E i) with
  | false => rw [hl] at p; exact p.elim
  | true =>
    rw [hl, if_pos rfl] at p
    cases hg : gt E i with
    | none => rw [hg] at hl; cases hl
    | some s =>
      rw [hg] at hl
      obtain ⟨v, hv, q⟩ := re.slot i s hg
      have ob := q.ob
      have : ∃ ds, s.d = .lst ds := by
        unfold isLst at hl
        simp only at hl
        split at hl
        · rename_i ds e; exact ⟨ds, e⟩
        · cases hl
      obtain ⟨ds, es⟩ := this
      rw [es] at ob
      obtain ⟨pp, ws, rfl, hp, _, _⟩ := ob.lst
      refine ⟨_, hv, .inl ⟨rfl, ws, .inl (.inl hp)⟩, E, C, re, ?_⟩
      cases h : f E with
      | bad => rw [h] at p; exact p
      | ex c E1 => rw [h] at p; exact p
      | ok as bk E1 =>
        rw [h] at p
        intro vs H1 t1 r1 reps
        unfold finM at p
        simp only at p
        split at p
        · rename_i s' g'
          split at p
          · rename_i xs es'
            split at p
            · rename_i d ys em
              split at p
              · rename_i E2 ep
                obtain ⟨s0, s1, g0, hs, rfl⟩ := putS_inv ep
                rw [g'] at g0; cases g0
                obtain ⟨w, hw, qs⟩ := r1.slot i s' g'
                rw [hv] at hw; cases hw
                have cn : Cn true Γ H1 (Fz C E1 σ) (.lst xs) pp := by
                  rcases hs with ⟨d0, rfl, _⟩ | ⟨d0, rfl, _⟩ <;>
                    (obtain ⟨p', e', c'⟩ := qs; cases e'; have es'' : d0 = .lst xs := es'; rw [es''] at c'; exact c')
                have fp : Fz C E1 σ pp := .inr ⟨i, s', g', by rcases hs with ⟨d0, rfl, _⟩ | ⟨d0, rfl, _⟩ <;> rfl, hv⟩
                refine h2 H1 (Fz C E1 σ) pp xs (as.map Sl.d) vs d ys Q fp (hΓ ▸ cn) (hΓ ▸ reps) em fun v H2 kp nn c2 rd => ?_
                obtain ⟨r2, t2⟩ := r1.put (H' := H2) (d' := .lst ys) g' hs hv kp nn (hΓ ▸ c2)
                have st : Stay H2 H2 (Fz C E1 σ) (Fz C (E1.set i (some s1)) σ) fun _ => False := .weak fun a z => by
                  rcases z with z | ⟨j, s, gj, oj, ej⟩
                  · exact .inl z
                  · rcases gt_set gj with ⟨rfl, z⟩ | ⟨n, z⟩
                    · exact .inr ⟨j, s', g', by rcases hs with ⟨d0, rfl, _⟩ | ⟨d0, rfl, _⟩ <;> rfl, ej⟩
                    · exact .inr ⟨j, s, z, oj, ej⟩
                exact p v H2 (t1.trans t2) ⟨r2, Rep.stay (hΓ ▸ rd) st⟩
              · exact p.elim
            · exact p.elim
          · exact p.elim
        · exact p.elim
theorem slot_m : ∀ m : M1, Slot "list" m.id m.bt
  | .append => PySem.F.slot_list_append
  | .pop0 => PySem.F.slot_list_pop
  | .popAt => PySem.F.slot_list_pop
  | .insert => PySem.F.slot_list_insert
  | .extend => PySem.F.slot_list_extend
theorem ty_m : ∀ m : M1, typeOf (.builtin m.bt) = pure (.type "method_descriptor")
  | .append => PySem.F.type_list_append
  | .pop0 => PySem.F.type_list_pop
  | .popAt => PySem.F.type_list_pop
  | .insert => PySem.F.type_list_insert
  | .extend => PySem.F.type_list_extend
theorem pe_methE {m : M1} {i : Nat} {x nm : Str} {es : List Expr} {f : En → AR} {p0 apos cpos : Pos} (hK : X.K = Γ.K) (hnm : nm = (m.id : Str)) (hN : X.N[i]? = some x) (hv : Vis X.env.scope x) (hd : (x == ("__debug__" : Str)) = false) (hcd : (x == ("__classdict__" : Str)) = false)
    (hbase : attributeBase (.Name x p0) nm X.env (eval (.Name x p0) X.env) = eval (.Name x p0) X.env) (hline : (apos.endLine == cpos.line) = true) (ha : PA X es (tV Γ W cl f)) (hnil : es = [] → f = fun E => .ok [] [] E)
    (hs : ∀ e r, es = e :: r → starEach (e :: r) X.env = (false, eval e X.env) :: starEach r X.env ∧ (backTo cpos (starEach r X.env)).any (·.1) = false ∧
      ((backTo cpos (starEach (e :: r) X.env)).all (fun x => !x.1) && (backToKw cpos (keywordEach [] X.env)).all (fun x => x.1.isSome) && decide ((e :: r).length + ([] : List Keyword).length + (if ([] : List Keyword).isEmpty then 0 else 1) < 30)) = true) :
    PE X (.Call (.Attribute (.Name x p0) nm apos) es [] cpos) (tI Γ W cl fun E => if isLst (gt E i) then finM m i (f E) else .bad) := by
  subst hnm
  obtain ⟨r, h1, h2⟩ := meth_of (X := X) (W := W) (cl := cl) (m := m) (i := i) (f := f) hK
  cases es with
  | nil =>
    refine (pe_bm0 PySem.F.plainAttrs_list (slot_m m) (ty_m m) h1 (pe_var hN hv hd hcd) hbase hline).conseq fun σ H Q h => ?_
    obtain ⟨v, hv, ty, E, C, re, p⟩ := h2 σ H Q h
    refine ⟨v, hv, ty, ?_⟩
    rw [hnil rfl] at p
    exact p [] H .refl re .nil
  | cons e r =>
    obtain ⟨s1, s2, s3⟩ := hs e r rfl
    exact (pe_bm PySem.F.plainAttrs_list (slot_m m) (ty_m m) h1 (pe_var hN hv hd hcd) ha hbase s3 hline s1 s2).conseq h2
/-- xs.index(e) -/
theorem ok_idx : OkR X Γ.G (fun x y H Q => rIndex X.K x [y] H Q) ixF := by
  intro H F v w a b o d' Q hF ha hb hg q
  cases a with
  | lst xs =>
    simp only [ixF] at hg
    split at hg
    · rename_i hf
      simp only [Bool.and_eq_true] at hf
      split at hg
      · rename_i j hj
        cases hg
        obtain ⟨p, vs, rfl, hp, z, r⟩ := ha.lst
        have rb : Rep ⟨X.K, Γ.G⟩ H F b w := by
          rcases hb with hb | ⟨p', _, c⟩
          · exact hb
          · have := hf.1
            cases b with
            | non => cases c
            | bl _ => cases c
            | int _ => cases c
            | str _ => cases c
            | _ => cases this
        obtain ⟨hlt, h1, h2⟩ := List.findIdx?_eq_some_iff_getElem.mp hj
        have hlv : j < vs.length := by rw [r.l]; exact hlt
        refine ⟨p, vs, w, j, vs[j], rfl, rfl, SqL.at hp, flat_v hf.1 rb, flat_all hf.2 r, List.getElem?_eq_getElem hlv, ?_, fun m z' hm hz' => ?_, q.int⟩
        · have rj := r.r j _ _ (List.getElem?_eq_getElem hlt) (List.getElem?_eq_getElem hlv)
          rw [flat_eqV (List.all_eq_true.mp hf.2 _ (List.getElem_mem hlt)) hf.1 rj rb]
          exact h1
        · have hmx : m < xs.length := by omega
          have rm := r.r m _ _ (List.getElem?_eq_getElem hmx) hz'
          rw [flat_eqV (List.all_eq_true.mp hf.2 _ (List.getElem_mem hmx)) hf.1 rm rb]
          have := h2 m hm
          simpa using this
      · cases hg
    · cases hg
  | _ => simp [ixF] at hg
theorem pe_idxE {i : Nat} {x : Str} {p0 apos cpos : Pos} (hK : X.K = Γ.K) (hN : X.N[i]? = some x) (hv : Vis X.env.scope x) (hd : (x == ("__debug__" : Str)) = false) (hcd : (x == ("__classdict__" : Str)) = false)
    (hbase : attributeBase (.Name x p0) "index" X.env (eval (.Name x p0) X.env) = eval (.Name x p0) X.env) (hline : (apos.endLine == cpos.line) = true) (ha : PE X a (tO Γ W cl (asVar A) fa))
    (s1 : starEach [a] X.env = [(false, eval a X.env)])
    (s3 : ((backTo cpos (starEach [a] X.env)).all (fun x => !x.1) && (backToKw cpos (keywordEach [] X.env)).all (fun x => x.1.isSome) && decide (([a] : List Expr).length + ([] : List Keyword).length + (if ([] : List Keyword).isEmpty then 0 else 1) < 30)) = true) :
    PE X (.Call (.Attribute (.Name x p0) "index" apos) [a] [] cpos) (tI Γ W cl fun E => if isLst (gt E i) then opB (asVar A) fa E fun y E1 => fin2 ixF (.sl i) y E1 else .bad) := by
  have hs : starEach [a] X.env = (false, eval a X.env) :: starEach [] X.env := s1
  refine (pe_bm PySem.F.plainAttrs_list PySem.F.slot_list_index PySem.F.type_list_index mt_index (pe_var hN hv hd hcd) (pa_cons ha pa_nil hs) hbase s3 hline hs rfl).conseq fun σ H Q ⟨E, C, re, p⟩ => ?_
  have p : Post Γ W cl σ H C E Q (if isLst (gt E i) then opB (asVar A) fa E fun y E1 => fin2 ixF (.sl i) y E1 else .bad) := p
  cases hl : isLst (gt E i) with
  | false => rw [hl] at p; exact p.elim
  | true =>
    rw [hl, if_pos rfl] at p
    cases hg : gt E i with
    | none => rw [hg] at hl; cases hl
    | some s =>
      rw [hg] at hl
      obtain ⟨v, hv, q⟩ := re.slot i s hg
      have ob := q.ob
      have : ∃ ds, s.d = .lst ds := by
        unfold isLst at hl
        simp only at hl
        split at hl
        · rename_i ds e; exact ⟨ds, e⟩
        · cases hl
      obtain ⟨ds, es⟩ := this
      rw [es] at ob
      obtain ⟨pp, ws, rfl, hp, _, _⟩ := ob.lst
      refine ⟨_, hv, .inl ⟨rfl, ws, .inl (.inl hp)⟩, ?_⟩
      refine tO_of re p fun y w E1 H1 hy r1 t p1 => ?_
      have hΓ : Γ = ⟨X.K, Γ.G⟩ := by rw [hK]
      exact fin2_of r1 (x := .sl i) hv hy p1 fun F d e o d' hF oa ob hg q => ok_idx H1 F _ w d e o d' Q hF (hΓ ▸ oa) (hΓ ▸ ob) hg (hΓ ▸ q)
end
end Rx
set_option maxHeartbeats 1000000
/-! RxL: calls of the program's own defs: arguments are handed over, mutable ones lent. -/
namespace Rx
open PySem PySem.Spec PyProof.Rows L2

/-- values handed over; true: an object that is lent -/
def HV (Γ : Gm) (H : Hp) (F : Addr → Prop) : (Addr → Prop) → List (Bool × D) → List V → Prop
  | _, [], [] => True
  | C, (false, d) :: xs, v :: vs => Rep Γ H F d v ∧ HV Γ H F C xs vs
  | C, (true, d) :: xs, v :: vs => ∃ p, v = .ref p ∧ ¬ C p ∧ Cn true Γ H F d p ∧ HV Γ H F (fun a => C a ∨ a = p) xs vs
  | _, _, _ => False
def HO : List (Bool × D) → List V → Addr → Prop
  | (true, _) :: xs, v :: vs, a => v = .ref a ∨ HO xs vs a
  | (false, _) :: xs, _ :: vs, a => HO xs vs a
  | _, _, _ => False
def sl2 : Sl → Bool × D
  | .ref d => (true, d)
  | s => (false, s.d)
/-- where the lent ones came from -/
def LF (E : En) (σ : L2.St) (H : Hp) : List Sl → List (Option (Nat × Bool)) → List V → Prop
  | [], [], [] => True
  | .val _ :: as, none :: bk, _ :: vs => LF E σ H as bk vs
  | .ref _ :: as, some (i, o) :: bk, v :: vs => (σ[i]? = some (some v) ∧ (∀ b d, gt E i ≠ some (.lck b d)) ∧
      (if o then ∀ p, v = .ref p → ((∃ j d', gt E j = some (.own d') ∧ σ[j]? = some (some (.ref p))) ∨ H p = none) else ∃ d', gt E i = some (.ref d'))) ∧ LF E σ H as bk vs
  | _, _, _ => False
section
variable {Γ : Gm} {W : WX} {cl : Cl} {σ σ' : L2.St} {H H1 H' : Hp} {C C' F : Addr → Prop} {E E1 E' : En} {Q : VK} {X : Cx} {a b c e : Expr} {A B D' : Tm} {fa fb fc : En → ER} {pos : Pos}
theorem HO_iff : ∀ {xs : List (Bool × D)} {vs : List V} {p : Addr}, HO xs vs p ↔ ∃ (k : Nat) (d : D), xs[k]? = some (true, d) ∧ vs[k]? = some (V.ref p)
  | [], vs, p => ⟨fun h => by cases vs <;> exact h.elim, fun ⟨k, d, h, _⟩ => by simp at h⟩
  | (o, d) :: xs, [], p => ⟨fun h => by cases o <;> exact h.elim, fun ⟨k, d, _, h⟩ => by simp at h⟩
  | (true, d) :: xs, v :: vs, p => by
    refine ⟨fun h => ?_, fun ⟨k, d', h1, h2⟩ => ?_⟩
    · rcases h with h | h
      · exact ⟨0, d, rfl, by rw [h]; rfl⟩
      · obtain ⟨k, d', h1, h2⟩ := HO_iff.mp h
        exact ⟨k + 1, d', h1, h2⟩
    · cases k with
      | zero => exact .inl (by simpa using h2)
      | succ k => exact .inr ((HO_iff (xs := xs) (vs := vs)).mpr ⟨k, d', h1, h2⟩)
  | (false, d) :: xs, v :: vs, p => by
    refine ⟨fun h => ?_, fun ⟨k, d', h1, h2⟩ => ?_⟩
    · obtain ⟨k, d', h1, h2⟩ := HO_iff.mp (show HO xs vs p from h)
      exact ⟨k + 1, d', h1, h2⟩
    · cases k with
      | zero => simp at h1
      | succ k => exact (HO_iff (xs := xs) (vs := vs) (p := p)).mpr ⟨k, d', h1, h2⟩
theorem HV.len : ∀ {xs : List (Bool × D)} {vs : List V} {C : Addr → Prop}, HV Γ H F C xs vs → xs.length = vs.length
  | [], [], _, _ => rfl
  | [], _ :: _, _, h => h.elim
  | (true, _) :: _, [], _, h => h.elim
  | (false, _) :: _, [], _, h => h.elim
  | (false, d) :: xs, v :: vs, _, h => by have := HV.len h.2; simp [this]
  | (true, d) :: xs, v :: vs, _, h => by
    obtain ⟨p, _, _, _, h⟩ := h
    have := HV.len h; simp [this]
theorem HV.get : ∀ {xs : List (Bool × D)} {vs : List V} {C : Addr → Prop} {k : Nat} {o : Bool} {d : D}, HV Γ H F C xs vs → xs[k]? = some (o, d) →
    ∃ v, vs[k]? = some v ∧ if o then ∃ p, v = .ref p ∧ ¬ C p ∧ Cn true Γ H F d p else Rep Γ H F d v
  | [], vs, _, k, o, d, _, e => by simp at e
  | (true, _) :: _, [], _, _, _, _, h, _ => h.elim
  | (false, _) :: _, [], _, _, _, _, h, _ => h.elim
  | (false, d) :: xs, v :: vs, C, k, o, d', h, e => by
    cases k with
    | zero => cases e; exact ⟨v, rfl, by rw [if_neg Bool.false_ne_true]; exact h.1⟩
    | succ k => exact HV.get (xs := xs) (vs := vs) h.2 e
  | (true, d) :: xs, v :: vs, C, k, o, d', h, e => by
    obtain ⟨p, h1, h2, h3, h4⟩ := h
    cases k with
    | zero => cases e; exact ⟨v, rfl, by rw [if_pos rfl]; exact ⟨p, h1, h2, h3⟩⟩
    | succ k =>
      obtain ⟨w, e1, q⟩ := HV.get (xs := xs) (vs := vs) h4 e
      refine ⟨w, e1, ?_⟩
      cases o with
      | false => exact q
      | true => obtain ⟨p', e2, n, c⟩ := q; exact ⟨p', e2, fun z => n (.inl z), c⟩
theorem HV.inj : ∀ {xs : List (Bool × D)} {vs : List V} {C : Addr → Prop} {k l : Nat} {d d' : D} {p : Addr}, HV Γ H F C xs vs → xs[k]? = some (true, d) → xs[l]? = some (true, d') → vs[k]? = some (V.ref p) → vs[l]? = some (V.ref p) → k = l
  | [], vs, _, k, l, d, d', p, _, e, _, _, _ => by simp at e
  | (true, _) :: _, [], _, _, _, _, _, _, h, _, _, _, _ => h.elim
  | (false, _) :: _, [], _, _, _, _, _, _, h, _, _, _, _ => h.elim
  | (false, d) :: xs, v :: vs, C, k, l, d1, d2, p, h, e1, e2, e3, e4 => by
    cases k with
    | zero => simp at e1
    | succ k =>
      cases l with
      | zero => simp at e2
      | succ l => rw [HV.inj (xs := xs) (vs := vs) (k := k) (l := l) h.2 e1 e2 e3 e4]
  | (true, d) :: xs, v :: vs, C, k, l, d1, d2, p, h, e1, e2, e3, e4 => by
    obtain ⟨q, h1, h2, h3, h4⟩ := h
    cases k with
    | zero =>
      cases l with
      | zero => rfl
      | succ l =>
        obtain ⟨w, f1, f2⟩ := HV.get (xs := xs) (k := l) h4 e2
        rw [if_pos rfl] at f2
        obtain ⟨p', f3, f4, _⟩ := f2
        simp at e3 e4
        rw [e4] at f1; cases f1; cases f3
        rw [h1] at e3; cases e3
        exact absurd (.inr rfl) f4
    | succ k =>
      cases l with
      | zero =>
        obtain ⟨w, f1, f2⟩ := HV.get (xs := xs) (k := k) h4 e1
        rw [if_pos rfl] at f2
        obtain ⟨p', f3, f4, _⟩ := f2
        simp at e3 e4
        rw [e3] at f1; cases f1; cases f3
        rw [h1] at e4; cases e4
        exact absurd (.inr rfl) f4
      | succ l => rw [HV.inj (xs := xs) (vs := vs) (k := k) (l := l) h4 e1 e2 e3 e4]
theorem LF.get : ∀ {as : List Sl} {bk : List (Option (Nat × Bool))} {vs : List V} {k i : Nat} {o : Bool}, LF E σ H as bk vs → bk[k]? = some (some (i, o)) →
    ∃ d v, as[k]? = some (.ref d) ∧ vs[k]? = some v ∧ σ[i]? = some (some v) ∧ (∀ b d, gt E i ≠ some (.lck b d)) ∧
      (if o then ∀ p, v = .ref p → ((∃ j d', gt E j = some (.own d') ∧ σ[j]? = some (some (.ref p))) ∨ H p = none) else ∃ d', gt E i = some (.ref d'))
  | [], [], [], k, i, o, _, e => by simp at e
  | .val _ :: as, none :: bk, _ :: vs, k, i, o, h, e => by
    cases k with
    | zero => simp at e
    | succ k => exact LF.get (as := as) (bk := bk) h e
  | .ref d :: as, some (i', o') :: bk, v :: vs, k, i, o, h, e => by
    cases k with
    | zero => cases e; exact ⟨d, v, rfl, rfl, h.1⟩
    | succ k => exact LF.get (as := as) (bk := bk) h.2 e
theorem LF.of : ∀ {as : List Sl} {bk : List (Option (Nat × Bool))} {vs : List V} {k : Nat} {d : D}, LF E σ H as bk vs → as[k]? = some (.ref d) → ∃ i o, bk[k]? = some (some (i, o))
  | [], [], [], k, d, _, e => by simp at e
  | .val _ :: as, none :: bk, _ :: vs, k, d, h, e => by
    cases k with
    | zero => simp at e
    | succ k => exact LF.of (as := as) (bk := bk) (k := k) h e
  | .ref _ :: as, some (i', o') :: bk, v :: vs, k, d, h, e => by
    cases k with
    | zero => exact ⟨i', o', rfl⟩
    | succ k => exact LF.of (as := as) (bk := bk) (k := k) h.2 e
theorem LF.step : ∀ {as : List Sl} {bk : List (Option (Nat × Bool))} {vs : List V}, LF E1 σ H1 as bk vs → Tr E σ H E1 σ H1 → LF E σ H as bk vs
  | [], [], [], _, _ => trivial
  | .val _ :: as, none :: bk, _ :: vs, h, t => LF.step (as := as) h t
  | .ref d :: as, some (i, o) :: bk, v :: vs, h, t => by
    obtain ⟨⟨h1, h2, h3⟩, h4⟩ := h
    refine ⟨⟨h1, fun b d e => h2 b d (t.lck i b d e).1, ?_⟩, LF.step h4 t⟩
    cases o with
    | true =>
      rw [if_pos rfl] at h3 ⊢
      intro p e
      rcases h3 p e with ⟨j, d', g, q⟩ | n
      · exact t.own j p d' g q
      · refine .inr ?_
        cases z : H p with
        | none => rfl
        | some o => exact absurd n (t.there p (by rw [z]; exact nofun))
    | false =>
      rw [if_neg Bool.false_ne_true] at h3 ⊢
      obtain ⟨d', g⟩ := h3
      exact (t.ref i d' g).1
/-- the lent ones, from where they came -/
theorem LF.ho {as : List Sl} {bk : List (Option (Nat × Bool))} {vs : List V} {p : Addr} (h : LF E σ H as bk vs) (o : HO (as.map sl2) vs p) : Mu E σ p ∨ H p = none := by
  obtain ⟨k, d, e1, e2⟩ := HO_iff.mp o
  rw [List.getElem?_map] at e1
  obtain ⟨s, e3, e4⟩ := Option.map_eq_some_iff.mp e1
  have : s = .ref d := by cases s <;> cases e4; rfl
  subst this
  obtain ⟨i, o, e5⟩ := h.of e3
  obtain ⟨d', v, f1, f2, f3, f4, f5⟩ := h.get e5
  rw [e2] at f2; cases f2
  cases o with
  | true =>
    rw [if_pos rfl] at f5
    rcases f5 p rfl with ⟨j, d', g, q⟩ | n
    · exact .inl ⟨j, _, g, .inl ⟨d', rfl⟩, q⟩
    · exact .inr n
  | false =>
    rw [if_neg Bool.false_ne_true] at f5
    obtain ⟨d', g⟩ := f5
    exact .inl ⟨i, _, g, .inr ⟨d', rfl⟩, f3⟩

/-! ### argument lists -/
def PostL (Γ : Gm) (W : WX) (cl : Cl) (σ : L2.St) (H : Hp) (C : Addr → Prop) (E : En) (R : List V → Hp → Prop) : AR → Prop
  | .ok as bk E' => ∀ vs H', Tr E σ H E' σ H' → RE Γ H' (fun a => C a ∨ HO (as.map sl2) vs a) E' σ → HV Γ H' (Fz (fun a => C a ∨ HO (as.map sl2) vs a) E' σ) C (as.map sl2) vs → LF E σ H as bk vs → R vs H'
  | .ex c E' => ∀ H', Tr E σ H E' σ H' → RE Γ H' C E' σ → W (cl c) none σ H'
  | .bad => False
def tL (Γ : Gm) (W : WX) (cl : Cl) (f : En → AR) : TA := fun σ H R => ∃ E C, RE Γ H C E σ ∧ PostL Γ W cl σ H C E R (f E)
theorem pa_nilL : PA X [] (tL Γ W cl fun E => .ok [] [] E) := ⟨fun pos pins s σ H Q I ⟨E, C, re, p⟩ => by
  refine pa_nil.run pos pins s σ H Q I (p [] H .refl ?_ trivial trivial)
  exact re.fewer fun a z => z.elim id fun z => z.elim⟩
/-- a shared value is handed over -/
theorem PostL.val {r : AR} {R : List V → Hp → Prop} {d : D} {v : V} (p : PostL Γ W cl σ H C E R (r.bind fun as bk E' => .ok (.val d :: as) (none :: bk) E')) (r1 : RE Γ H1 C E1 σ) (t1 : Tr E σ H E1 σ H1) (rp : Rep Γ H1 (Fz C E1 σ) d v) :
    PostL Γ W cl σ H1 C E1 (fun vs H2 => R (v :: vs) H2) r := by
  cases r with
  | bad => exact p
  | ex c E2 => exact fun H' t' r' => p H' (t1.trans t') r'
  | ok as bk E2 =>
    intro vs H' t' r' hv lf
    refine p (v :: vs) H' (t1.trans t') r' ⟨?_, hv⟩ (show LF E σ H as bk vs from lf.step t1)
    refine rp.stay (r1.stay t' fun a z => ?_)
    rcases z with (z | z) | z
    · exact .inl (.inl z)
    · exact (lf.ho z).imp Mu.fz id
    · exact t'.fz r1 (r'.fewer fun a z => .inl z) (.inr z)
/-- a slot's object is lent -/
theorem RE.lend {i : Nat} {s : Sl} {p : Addr} (r : RE Γ H C E σ) (g : gt E i = some s) (o : s.ow = true) (hv : σ[i]? = some (some (.ref p))) : RE Γ H (fun a => C a ∨ a = p) (E.set i none) σ ∧ (∀ a, Fz (fun a => C a ∨ a = p) (E.set i none) σ a → Fz C E σ a) := by
  have op : OA E σ i p := ⟨s, g, o, hv⟩
  have oa : ∀ j q, OA (E.set i none) σ j q → j ≠ i ∧ OA E σ j q := fun j q ⟨s', g', o', e'⟩ => by
    rcases gt_set g' with ⟨rfl, z⟩ | ⟨n, z⟩
    · cases z
    · exact ⟨n, s', z, o', e'⟩
  have fz : ∀ a, Fz (fun a => C a ∨ a = p) (E.set i none) σ a → Fz C E σ a := fun a z => by
    rcases z with (z | z) | ⟨j, z⟩
    · exact .inl z
    · rw [z]; exact .inr ⟨i, op⟩
    · exact .inr ⟨j, (oa j a z).2⟩
  have st : Stay H H (Fz C E σ) (Fz (fun a => C a ∨ a = p) (E.set i none) σ) fun _ => False := .weak fz
  refine ⟨⟨by rw [List.length_set]; exact r.len, fun j s' g' => ?_, fun j k q h1 h2 => r.inj j k q (oa j q h1).2 (oa k q h2).2, fun j q h z => ?_, fun a z => ?_⟩, fz⟩
  · rcases gt_set g' with ⟨rfl, z⟩ | ⟨n, z⟩
    · cases z
    · obtain ⟨v, e, q⟩ := r.slot j s' z
      refine ⟨v, e, ?_⟩
      cases s' with
      | val d => exact Rep.stay q st
      | rfz d => exact Rep.stay q st
      | own d => obtain ⟨p', e', c⟩ := q; exact ⟨p', e', c.stay st id⟩
      | ref d => obtain ⟨p', e', c⟩ := q; exact ⟨p', e', c.stay st id⟩
      | lck b d => obtain ⟨p', e', c⟩ := q; exact ⟨p', e', c.stay st id⟩
  · obtain ⟨n, h⟩ := oa j q h
    rcases z with z | z
    · exact r.dis j q h z
    · subst z; exact n (r.inj j i q h op)
  · rcases z with z | z
    · exact r.cH a z
    · rw [z]; exact r.oaThere op
theorem tr_lend {i : Nat} (h : ∀ b d, gt E i ≠ some (.lck b d)) : Tr E σ H (E.set i none) σ H where
  keep := fun _ _ _ e => e
  there := fun _ e => e
  own := fun j p d g' e => by
    rcases gt_set g' with ⟨rfl, z⟩ | ⟨n, z⟩
    · cases z
    · exact .inl ⟨j, d, z, e⟩
  lck := fun j b d g' => by
    have n : j ≠ i := fun e => by subst e; exact h b d g'
    exact ⟨by rw [gt_set_ne n]; exact g', rfl⟩
  lckB := fun j b d g' => by
    rcases gt_set g' with ⟨rfl, z⟩ | ⟨n, z⟩
    · cases z
    · exact z
  ref := fun j d g' => by
    rcases gt_set g' with ⟨rfl, z⟩ | ⟨n, z⟩
    · cases z
    · exact ⟨⟨d, z⟩, rfl⟩
  rfz := fun j d g' => by
    rcases gt_set g' with ⟨rfl, z⟩ | ⟨n, z⟩
    · cases z
    · exact ⟨⟨d, .inr z⟩, rfl⟩
theorem PostL.lend {i : Nat} {s : Sl} {o : Bool} {d : D} {v : V} {r : AR} {R : List V → Hp → Prop} (p : PostL Γ W cl σ H C E R (r.bind fun as bk E' => .ok (.ref d :: as) (some (i, o) :: bk) E'))
    (re : RE Γ H C E σ) (g : gt E i = some s) (hs : s = if o then .own d else .ref d) (hv : σ[i]? = some (some v)) : ∃ C1, RE Γ H C1 (E.set i none) σ ∧ PostL Γ W cl σ H C1 (E.set i none) (fun vs H2 => R (v :: vs) H2) r := by
  have ow : s.ow = true := by cases o <;> (subst hs; rfl)
  have nl : ∀ b d', gt E i ≠ some (.lck b d') := fun b d' e => by
    rw [g] at e; cases e
    cases o <;> cases hs
  obtain ⟨w, hw, q⟩ := re.slot i s g
  rw [hv] at hw; cases hw
  have q : ∃ p, v = .ref p ∧ Cn true Γ H (Fz C E σ) d p := by cases o <;> (subst hs; exact q)
  obtain ⟨pp, rfl, c⟩ := q
  obtain ⟨r1, fz⟩ := re.lend g ow hv
  have t1 : Tr E σ H (E.set i none) σ H := tr_lend nl
  refine ⟨_, r1, ?_⟩
  cases r with
  | bad => exact p
  | ex c E2 => exact fun H' t' r' => p H' (t1.trans t') (r'.fewer fun a z => .inl z)
  | ok as bk E2 =>
    intro vs H' t' r' hv' lf
    have ec : (fun a => C a ∨ HO ((Sl.ref d :: as).map sl2) (V.ref pp :: vs) a) = fun a => (C a ∨ a = pp) ∨ HO (as.map sl2) vs a := by
      funext a
      refine propext ⟨fun z => ?_, fun z => ?_⟩
      · rcases z with z | z | z
        · exact .inl (.inl z)
        · cases z; exact .inl (.inr rfl)
        · exact .inr z
      · rcases z with (z | z) | z
        · exact .inl z
        · rw [z]; exact .inr (.inl rfl)
        · exact .inr (.inr z)
    refine p (.ref pp :: vs) H' (t1.trans t') (by rw [ec]; exact r') ?_ ?_
    · rw [ec]
      refine ⟨pp, rfl, fun z => re.dis i pp ⟨s, g, ow, hv⟩ z, ?_, hv'⟩
      refine (c.stay (F' := Fz (fun a => C a ∨ a = pp) (E.set i none) σ) (.weak fz) id).stay (r1.stay t' fun a z => ?_) fun m => ?_
      · rcases z with (z | z) | z
        · exact .inl (.inl z)
        · exact (lf.ho z).imp Mu.fz id
        · exact t'.fz r1 (r'.fewer fun a z => .inl z) (.inr z)
      · obtain ⟨j, s', g', h2, e'⟩ := m
        exact r1.dis j pp ⟨s', g', by rcases h2 with ⟨_, rfl⟩ | ⟨_, rfl⟩ <;> rfl, e'⟩ (.inr rfl)
    · refine ⟨⟨hv, nl, ?_⟩, lf.step t1⟩
      cases o with
      | true =>
        rw [if_pos rfl] at hs ⊢
        subst hs
        intro p e; cases e
        exact .inl ⟨i, d, g, hv⟩
      | false =>
        rw [if_neg Bool.false_ne_true] at hs ⊢
        subst hs
        exact ⟨d, g⟩
theorem pa_consL {es : List Expr} {ft : En → ER} {fr : En → AR} (ht : PE X e (tI Γ W cl ft)) (hr : PA X es (tL Γ W cl fr)) (hs : starEach (e :: es) X.env = (false, eval e X.env) :: starEach es X.env) : PA X (e :: es) (tL Γ W cl fun E => argD (ft E) fr) := by
  refine ⟨fun pos pins s σ H R I ⟨E, C, re, p⟩ => (pa_cons ht hr hs).run pos pins s σ H R I ⟨E, C, re, ?_⟩⟩
  have p : PostL Γ W cl σ H C E R (argD (ft E) fr) := p
  cases h : ft E with
  | bad => rw [h] at p; exact p
  | ex c E1 => rw [h] at p; exact p
  | ok o d E1 =>
    rw [h] at p
    intro v H1 t1 vr
    obtain ⟨r1, rp⟩ := vr.share
    exact ⟨E1, C, r1, PostL.val p r1 t1 rp⟩
theorem pa_varL {es : List Expr} {i : Nat} {fr : En → AR} (ht : PE X e (tVar i)) (hr : PA X es (tL Γ W cl fr)) (hs : starEach (e :: es) X.env = (false, eval e X.env) :: starEach es X.env) : PA X (e :: es) (tL Γ W cl fun E => argV E i fr) := by
  refine ⟨fun pos pins s σ H R I ⟨E, C, re, p⟩ => (pa_cons ht hr hs).run pos pins s σ H R I ?_⟩
  have p : PostL Γ W cl σ H C E R (argV E i fr) := p
  unfold argV at p
  cases g : gt E i with
  | none => rw [g] at p; exact p.elim
  | some s =>
    rw [g] at p
    obtain ⟨v, hv, q⟩ := re.slot i s g
    cases s with
    | lck b d => exact p.elim
    | val d => exact ⟨v, hv, E, C, re, PostL.val p re .refl q⟩
    | rfz d => exact ⟨v, hv, E, C, re, PostL.val p re .refl q⟩
    | own d =>
      obtain ⟨C1, r1, p1⟩ := PostL.lend (o := true) p re g rfl hv
      exact ⟨v, hv, _, C1, r1, p1⟩
    | ref d =>
      obtain ⟨C1, r1, p1⟩ := PostL.lend (o := false) p re g rfl hv
      exact ⟨v, hv, _, C1, r1, p1⟩
end
end Rx
set_option maxHeartbeats 1000000
/-! RxM: behind a call. -/
namespace Rx
open PySem PySem.Spec PyProof.Rows L2
section
variable {Γ : Gm} {W : WX} {cl : Cl} {σ σ' : L2.St} {H H1 H' : Hp} {C C' F : Addr → Prop} {E E1 E' : En} {Q : VK} {X : Cx} {a b c e : Expr} {A B D' : Tm} {fa fb fc : En → ER} {pos : Pos}
def bkS (o : Bool) (p : Option Sl) : Option Sl := match p with
  | some (.ref d) => some (if o then .own d else .ref d)
  | some (.rfz d) => some (if o then .val d else .rfz d)
  | _ => none
theorem back_cons {bk : List (Option (Nat × Bool))} {ps E : En} {i : Nat} {o : Bool} {p : Option Sl} : back (some (i, o) :: bk) (p :: ps) E = back bk ps (E.set i (bkS o p)) := rfl
theorem bkS_inv {o : Bool} {p : Option Sl} {s : Sl} (h : bkS o p = some s) : ∃ q, p = some q ∧ ((∃ d, q = .ref d ∧ s = if o then .own d else .ref d) ∨ ∃ d, q = .rfz d ∧ s = if o then .val d else .rfz d) := by
  unfold bkS at h
  split at h
  · rename_i d; exact ⟨_, rfl, .inl ⟨d, rfl, (Option.some.inj h).symm⟩⟩
  · rename_i d; exact ⟨_, rfl, .inr ⟨d, rfl, (Option.some.inj h).symm⟩⟩
  · cases h
theorem back_gt : ∀ {bk : List (Option (Nat × Bool))} {ps E : En} {j : Nat} {s : Sl}, gt (back bk ps E) j = some s →
    (∃ (k : Nat) (o : Bool) (q : Sl), bk[k]? = some (some (j, o)) ∧ ps[k]? = some (some q) ∧ ((∃ d, q = .ref d ∧ s = if o then .own d else .ref d) ∨ ∃ d, q = .rfz d ∧ s = if o then .val d else .rfz d)) ∨
      ((∀ k o, bk[k]? = some (some (j, o)) → ps.length ≤ k) ∧ gt E j = some s)
  | [], ps, E, j, s, h => .inr ⟨fun k o e => by simp at e, h⟩
  | none :: bk, [], E, j, s, h => .inr ⟨fun k o e => Nat.zero_le _, h⟩
  | none :: bk, p :: ps, E, j, s, h => by
    rcases back_gt (bk := bk) (ps := ps) h with ⟨k, o, q, h1, h2, h3⟩ | ⟨h1, h2⟩
    · exact .inl ⟨k + 1, o, q, h1, h2, h3⟩
    · refine .inr ⟨fun k o e => ?_, h2⟩
      cases k with
      | zero => simp at e
      | succ k => exact Nat.succ_le_succ (h1 k o (by simpa using e))
  | some (i, o) :: bk, [], E, j, s, h => .inr ⟨fun k o e => Nat.zero_le _, h⟩
  | some (i, o) :: bk, p :: ps, E, j, s, h => by
    rw [back_cons] at h
    rcases back_gt h with ⟨k, o', q, h1, h2, h3⟩ | ⟨h1, h2⟩
    · exact .inl ⟨k + 1, o', q, h1, h2, h3⟩
    · rcases gt_set h2 with ⟨rfl, z⟩ | ⟨n, z⟩
      · obtain ⟨q, rfl, hq⟩ := bkS_inv z
        exact .inl ⟨0, o, q, rfl, rfl, hq⟩
      · refine .inr ⟨fun k o' e => ?_, z⟩
        cases k with
        | zero =>
          simp at e
          exact absurd e.1.symm n
        | succ k => exact Nat.succ_le_succ (h1 k o' (by simpa using e))
theorem back_keep : ∀ {bk : List (Option (Nat × Bool))} {ps E : En} {j : Nat}, (∀ (k : Nat) (o : Bool), bk[k]? ≠ some (some (j, o))) → gt (back bk ps E) j = gt E j
  | [], ps, E, j, h => rfl
  | none :: bk, [], E, j, h => rfl
  | none :: bk, p :: ps, E, j, h => back_keep (bk := bk) (ps := ps) fun k o e => h (k + 1) o (by simpa using e)
  | some (i, o) :: bk, [], E, j, h => rfl
  | some (i, o) :: bk, p :: ps, E, j, h => by
    have n : j ≠ i := fun e => h 0 o (by subst e; rfl)
    exact (back_keep (bk := bk) (ps := ps) (fun k o' e => h (k + 1) o' (by simpa using e))).trans (gt_set_ne n)
theorem back_len : ∀ {bk : List (Option (Nat × Bool))} {ps E : En}, (back bk ps E).length = E.length
  | [], ps, E => rfl
  | none :: bk, [], E => rfl
  | none :: bk, p :: ps, E => back_len (bk := bk) (ps := ps)
  | some (i, o) :: bk, [], E => rfl
  | some (i, o) :: bk, p :: ps, E => (back_len (bk := bk) (ps := ps)).trans (List.length_set ..)
/-- the callee's arguments as its slots -/
abbrev asE (as : List Sl) : En := as.map some
abbrev vsS (vs : List V) : L2.St := vs.map some
theorem gt_asE {as : List Sl} {k : Nat} {s : Sl} : gt (asE as) k = some s ↔ as[k]? = some s := by
  unfold gt asE
  rw [List.getElem?_map]
  cases as[k]? with
  | none => simp
  | some q => simp
theorem at_vsS {vs : List V} {k : Nat} {v : V} : (vsS vs)[k]? = some (some v) ↔ vs[k]? = some v := by
  unfold vsS
  rw [List.getElem?_map]
  cases vs[k]? with
  | none => simp
  | some q => simp
theorem gt_ps {ps : En} {k : Nat} {q : Sl} (h : ps[k]? = some (some q)) : gt ps k = some q := by
  unfold gt; rw [h]
theorem at_map {as : List Sl} {k : Nat} {s : Sl} (h : as[k]? = some s) : (as.map sl2)[k]? = some (sl2 s) := by rw [List.getElem?_map, h]; rfl
theorem LF.kind : ∀ {as : List Sl} {bk : List (Option (Nat × Bool))} {vs : List V} {k : Nat} {s : Sl}, LF E σ H as bk vs → as[k]? = some s → (∃ d, s = .val d) ∨ ∃ d, s = .ref d
  | [], [], [], k, s, _, e => by simp at e
  | .val d :: as, none :: bk, _ :: vs, k, s, h, e => by
    cases k with
    | zero => cases e; exact .inl ⟨d, rfl⟩
    | succ k => exact LF.kind (as := as) (bk := bk) (k := k) h e
  | .ref d :: as, some (i', o') :: bk, v :: vs, k, s, h, e => by
    cases k with
    | zero => cases e; exact .inr ⟨d, rfl⟩
    | succ k => exact LF.kind (as := as) (bk := bk) (k := k) h.2 e
section
variable {as : List Sl} {bk : List (Option (Nat × Bool))} {vs : List V}
/-- the callers' objects, as the callee sees them -/
def Cc (C : Addr → Prop) (E : En) (σ : L2.St) : Addr → Prop := fun a => C a ∨ ∃ i, OA E σ i a
theorem oa_as (lf : LF E σ H as bk vs) {k : Nat} {p : Addr} (h : OA (asE as) (vsS vs) k p) : ∃ d, as[k]? = some (.ref d) ∧ vs[k]? = some (.ref p) := by
  obtain ⟨s, g, o, e⟩ := h
  have g := gt_asE.mp g
  rcases lf.kind g with ⟨d, rfl⟩ | ⟨d, rfl⟩
  · cases o
  · exact ⟨d, g, at_vsS.mp e⟩
theorem oa_ho (lf : LF E σ H as bk vs) {k : Nat} {p : Addr} (h : OA (asE as) (vsS vs) k p) : HO (as.map sl2) vs p := by
  obtain ⟨d, h1, h2⟩ := oa_as lf h
  exact HO_iff.mpr ⟨k, d, at_map h1, h2⟩
theorem ho_oa {p : Addr} (h : HO (as.map sl2) vs p) : ∃ k, OA (asE as) (vsS vs) k p := by
  obtain ⟨k, d, e1, e2⟩ := HO_iff.mp h
  rw [List.getElem?_map] at e1
  obtain ⟨s, e3, e4⟩ := Option.map_eq_some_iff.mp e1
  have : s = .ref d := by cases s <;> cases e4; rfl
  subst this
  exact ⟨k, _, gt_asE.mpr e3, rfl, at_vsS.mpr e2⟩
/-- what the callee gets -/
theorem callee (r : RE Γ H1 (fun a => C a ∨ HO (as.map sl2) vs a) E' σ) (hv : HV Γ H1 (Fz (fun a => C a ∨ HO (as.map sl2) vs a) E' σ) C (as.map sl2) vs) (lf : LF E σ H as bk vs) : RE Γ H1 (Cc C E' σ) (asE as) (vsS vs) := by
  have fz : ∀ a, Fz (Cc C E' σ) (asE as) (vsS vs) a → Fz (fun a => C a ∨ HO (as.map sl2) vs a) E' σ a := fun a z => by
    rcases z with (z | z) | ⟨k, z⟩
    · exact .inl (.inl z)
    · exact .inr z
    · exact .inl (.inr (oa_ho lf z))
  have len : as.length = vs.length := by have := hv.len; rwa [List.length_map] at this
  refine ⟨by simp [len], fun k s g => ?_, fun k l p h1 h2 => ?_, fun k p h z => ?_, fun a z => ?_⟩
  · have g := gt_asE.mp g
    obtain ⟨v, e, q⟩ := hv.get (o := (sl2 s).1) (d := (sl2 s).2) (at_map g)
    refine ⟨v, at_vsS.mpr e, ?_⟩
    rcases lf.kind g with ⟨d, rfl⟩ | ⟨d, rfl⟩
    · exact Rep.stay q (.weak fz)
    · have q : ∃ p, v = .ref p ∧ ¬ C p ∧ Cn true Γ H1 (Fz (fun a => C a ∨ HO (as.map sl2) vs a) E' σ) d p := q
      obtain ⟨p, e, _, c⟩ := q
      exact ⟨p, e, c.stay (.weak fz) id⟩
  · obtain ⟨d1, g1, e1⟩ := oa_as lf h1
    obtain ⟨d2, g2, e2⟩ := oa_as lf h2
    exact hv.inj (at_map g1) (at_map g2) e1 e2
  · obtain ⟨d1, g1, e1⟩ := oa_as lf h
    rcases z with z | ⟨i, z⟩
    · obtain ⟨v, e, q⟩ := hv.get (at_map g1)
      have q : ∃ p, v = .ref p ∧ ¬ C p ∧ Cn true Γ H1 (Fz (fun a => C a ∨ HO (as.map sl2) vs a) E' σ) d1 p := q
      obtain ⟨p', e', n, _⟩ := q
      rw [e1] at e; cases e; cases e'
      exact n z
    · exact r.dis i p z (.inr (oa_ho lf h))
  · rcases z with z | ⟨i, z⟩
    · exact r.cH a (.inl z)
    · exact r.oaThere z
/-- behind the call; P: the result's own object -/
theorem back_ok {P : Addr → Prop} {ps : En} (r : RE Γ H1 (fun a => C a ∨ HO (as.map sl2) vs a) E' σ) (hv : HV Γ H1 (Fz (fun a => C a ∨ HO (as.map sl2) vs a) E' σ) C (as.map sl2) vs) (lf : LF E σ H as bk vs) (t : Tr E σ H E' σ H1)
    (tc : Tr (asE as) (vsS vs) H1 ps (vsS vs) H') (rc : RE Γ H' (fun a => Cc C E' σ a ∨ P a) ps (vsS vs)) (hP : ∀ a, P a → H1 a = none) :
    RE Γ H' (fun a => C a ∨ P a) (back bk ps E') σ ∧ Tr E σ H (back bk ps E') σ H' ∧ ∀ a, Fz (fun a => C a ∨ P a) (back bk ps E') σ a → Fz (fun a => Cc C E' σ a ∨ P a) ps (vsS vs) a := by
  have r0 := callee r hv lf
  have lenA : as.length = vs.length := by have := hv.len; rwa [List.length_map] at this
  have lenP : ps.length = vs.length := by have := rc.len; simpa using this
  -- a lent slot's place
  have lent : ∀ {k j : Nat} {o : Bool}, bk[k]? = some (some (j, o)) → k < ps.length := fun {k j o} e => by
    obtain ⟨d, v, h1, h2, _⟩ := lf.get e
    rw [lenP]
    exact (List.getElem?_eq_some_iff.mp h2).1
  have cases_gt : ∀ {j : Nat} {s : Sl}, gt (back bk ps E') j = some s →
      (∃ (k : Nat) (o : Bool) (q : Sl) (v : V), bk[k]? = some (some (j, o)) ∧ gt ps k = some q ∧ vs[k]? = some v ∧ σ[j]? = some (some v) ∧ ((∃ d, q = .ref d ∧ s = if o then .own d else .ref d) ∨ ∃ d, q = .rfz d ∧ s = if o then .val d else .rfz d)) ∨
      ((∀ k o, bk[k]? ≠ some (some (j, o))) ∧ gt E' j = some s) := fun {j s} h => by
    rcases back_gt h with ⟨k, o, q, h1, h2, h3⟩ | ⟨h1, h2⟩
    · obtain ⟨d, v, g1, g2, g3, _⟩ := lf.get h1
      exact .inl ⟨k, o, q, v, h1, gt_ps h2, g2, g3, h3⟩
    · exact .inr ⟨fun k o e => absurd (lent e) (Nat.not_lt.mpr (h1 k o e)), h2⟩
  have oa : ∀ {j : Nat} {p : Addr}, OA (back bk ps E') σ j p → (∃ k o, bk[k]? = some (some (j, o)) ∧ OA ps (vsS vs) k p) ∨ OA E' σ j p := fun {j p} ⟨s, g, o, e⟩ => by
    rcases cases_gt g with ⟨k, o', q, v, h1, h2, h3, h4, h5⟩ | ⟨h1, h2⟩
    · rw [e] at h4; cases h4
      refine .inl ⟨k, o', h1, q, h2, ?_, at_vsS.mpr h3⟩
      rcases h5 with ⟨d, rfl, rfl⟩ | ⟨d, rfl, rfl⟩
      · rfl
      · cases o' <;> cases o
    · exact .inr ⟨s, h2, o, e⟩
  have fz : ∀ a, Fz (fun a => C a ∨ P a) (back bk ps E') σ a → Fz (fun a => Cc C E' σ a ∨ P a) ps (vsS vs) a := fun a z => by
    rcases z with (z | z) | ⟨j, z⟩
    · exact .inl (.inl (.inl z))
    · exact .inl (.inr z)
    · rcases oa z with ⟨k, o, _, q⟩ | q
      · exact .inr ⟨k, q⟩
      · exact .inl (.inl (.inr ⟨j, q⟩))
  -- an owned object of the callee's last state was lent
  have ownd : ∀ {k : Nat} {p : Addr}, OA ps (vsS vs) k p → ∃ d, as[k]? = some (.ref d) ∧ vs[k]? = some (.ref p) ∨ H1 p = none := fun {k p} ⟨s, g, o, e⟩ => by
    have e' := at_vsS.mp e
    cases s with
    | val d => cases o
    | rfz d => cases o
    | own d =>
      rcases tc.own k p d g e with ⟨j, d', g', _⟩ | n
      · rcases lf.kind (gt_asE.mp g') with ⟨_, z⟩ | ⟨_, z⟩ <;> cases z
      · exact ⟨d, .inr n⟩
    | ref d =>
      obtain ⟨⟨d', g'⟩, _⟩ := tc.ref k d g
      exact ⟨d', .inl ⟨gt_asE.mp g', e'⟩⟩
    | lck b d =>
      have g' := tc.lckB k b d g
      rcases lf.kind (gt_asE.mp g') with ⟨_, z⟩ | ⟨_, z⟩ <;> cases z
  have ownH : ∀ {k : Nat} {p : Addr}, OA ps (vsS vs) k p → HO (as.map sl2) vs p ∨ H1 p = none := fun {k p} h => by
    obtain ⟨d, h | h⟩ := ownd h
    · exact .inl (HO_iff.mpr ⟨k, d, at_map h.1, h.2⟩)
    · exact .inr h
  have muH : ∀ a, Mu (asE as) (vsS vs) a → HO (as.map sl2) vs a := fun a ⟨k, s, g, h2, e⟩ => oa_ho lf ⟨s, g, by rcases h2 with ⟨d, rfl⟩ | ⟨d, rfl⟩ <;> rfl, e⟩
  have st : Stay H1 H' (Fz (fun a => C a ∨ HO (as.map sl2) vs a) E' σ) (Fz (fun a => C a ∨ P a) (back bk ps E') σ) (Mu (asE as) (vsS vs)) := by
    refine ⟨tc.keep, fun a m => .inl (.inr (muH a m)), fun a m => r0.muK m, fun a z => ?_⟩
    rcases z with (z | z) | ⟨j, z⟩
    · exact .inl (.inl (.inl z))
    · exact .inr (hP a z)
    · rcases oa z with ⟨k, o, _, q⟩ | q
      · exact (ownH q).imp (fun z => .inl (.inr z)) id
      · exact .inl (.inr ⟨j, q⟩)
  refine ⟨⟨back_len.trans r.len, fun j s g => ?_, fun i j p h1 h2 => ?_, fun j p h z => ?_, fun a z => ?_⟩, ?_, fz⟩
  · rcases cases_gt g with ⟨k, o, q, v, h1, h2, h3, h4, h5⟩ | ⟨h1, h2⟩
    · refine ⟨v, h4, ?_⟩
      obtain ⟨w, e, sr⟩ := rc.slot k q h2
      have e := at_vsS.mp e
      rw [h3] at e; cases e
      rcases h5 with ⟨d, rfl, rfl⟩ | ⟨d, rfl, rfl⟩
      · obtain ⟨p, e, c⟩ := sr
        cases o <;> exact ⟨p, e, c.stay (.weak fz) id⟩
      · have sr : Rep Γ H' (Fz (fun a => Cc C E' σ a ∨ P a) ps (vsS vs)) d v := sr
        cases o <;> exact sr.stay (.weak fz)
    · obtain ⟨v, e, q⟩ := r.slot j s h2
      refine ⟨v, e, ?_⟩
      have nm : ∀ p', v = .ref p' → s.ow = true → ¬ Mu (asE as) (vsS vs) p' := fun p' ev ho m => by
        subst ev
        exact r.dis j p' ⟨s, h2, ho, e⟩ (.inr (muH p' m))
      cases s with
      | val d => exact Rep.stay q st
      | rfz d => exact Rep.stay q st
      | own d => obtain ⟨p', e', c⟩ := q; exact ⟨p', e', c.stay st (nm p' e' rfl)⟩
      | ref d => obtain ⟨p', e', c⟩ := q; exact ⟨p', e', c.stay st (nm p' e' rfl)⟩
      | lck b d => obtain ⟨p', e', c⟩ := q; exact ⟨p', e', c.stay st (nm p' e' rfl)⟩
  · have cross : ∀ {i j k : Nat}, OA ps (vsS vs) k p → OA E' σ j p → False := fun {i j k} q h => by
      exact rc.dis k p q (.inl (.inr ⟨j, h⟩))
    rcases oa h1 with ⟨k, o, b1, q1⟩ | q1
    · rcases oa h2 with ⟨l, o', b2, q2⟩ | q2
      · have := rc.inj k l p q1 q2
        subst this
        rw [b1] at b2; cases b2; rfl
      · exact (cross (i := 0) q1 q2).elim
    · rcases oa h2 with ⟨l, o', b2, q2⟩ | q2
      · exact (cross (i := 0) q2 q1).elim
      · exact r.inj i j p q1 q2
  · rcases oa h with ⟨k, o, b1, q1⟩ | q1
    · exact rc.dis k p q1 (z.imp (fun z => .inl z) id)
    · rcases z with z | z
      · exact r.dis j p q1 (.inl z)
      · exact absurd (hP p z) (r.oaThere q1)
  · exact rc.cH a (z.imp (fun z => .inl z) id)
  · refine ⟨fun a o n e => ?_, fun a n => tc.there a (t.there a n), fun j p d g e => ?_, fun j b d g => ?_, fun j b d g => ?_, fun j d g => ?_, fun j d g => ?_⟩
    · refine tc.keep a o (fun m => ?_) (t.keep a o n e)
      rcases lf.ho (muH a m) with m | m
      · exact n m
      · rw [m] at e; cases e
    · rcases cases_gt g with ⟨k, o, q, v, h1, h2, h3, h4, h5⟩ | ⟨h1, h2⟩
      · rw [e] at h4; cases h4
        obtain ⟨d', v', g1, g2, g3, g4, g5⟩ := lf.get h1
        rw [h3] at g2; cases g2
        cases o with
        | true => rw [if_pos rfl] at g5; exact g5 p rfl
        | false => rcases h5 with ⟨_, _, z⟩ | ⟨_, _, z⟩ <;> cases z
      · exact t.own j p d h2 e
    · obtain ⟨g', _⟩ := t.lck j b d g
      refine ⟨?_, rfl⟩
      rw [back_keep fun k o e => ?_]
      · exact g'
      · obtain ⟨_, _, _, _, _, g4, _⟩ := lf.get e
        exact g4 b d g
    · rcases cases_gt g with ⟨k, o, q, v, h1, h2, h3, h4, h5⟩ | ⟨h1, h2⟩
      · rcases h5 with ⟨_, _, z⟩ | ⟨_, _, z⟩ <;> cases o <;> cases z
      · exact t.lckB j b d h2
    · rcases cases_gt g with ⟨k, o, q, v, h1, h2, h3, h4, h5⟩ | ⟨h1, h2⟩
      · obtain ⟨d', v', g1, g2, g3, g4, g5⟩ := lf.get h1
        cases o with
        | true => rcases h5 with ⟨_, _, z⟩ | ⟨_, _, z⟩ <;> cases z
        | false => rw [if_neg Bool.false_ne_true] at g5; exact ⟨g5, rfl⟩
      · exact ⟨(t.ref j d h2).1, rfl⟩
    · rcases cases_gt g with ⟨k, o, q, v, h1, h2, h3, h4, h5⟩ | ⟨h1, h2⟩
      · obtain ⟨d', v', g1, g2, g3, g4, g5⟩ := lf.get h1
        cases o with
        | true => rcases h5 with ⟨_, _, z⟩ | ⟨_, _, z⟩ <;> cases z
        | false =>
          rw [if_neg Bool.false_ne_true] at g5
          obtain ⟨d'', g5⟩ := g5
          exact ⟨⟨d'', .inl g5⟩, rfl⟩
      · exact ⟨(t.rfz j d h2).1, rfl⟩
end

/-! ### what a def promises -/
def PostC (Γ : Gm) (cl : Cl) (vs : List V) (H : Hp) (C : Addr → Prop) (as : List Sl) (Q : VK) (Ex : XK) : CR → Prop
  | .ok o d ps => ∀ v H', Tr (asE as) (vsS vs) H ps (vsS vs) H' → VR Γ H H' C o d v ps (vsS vs) → Q v H'
  | .ex c ps => ∀ H', Tr (asE as) (vsS vs) H ps (vsS vs) H' → RE Γ H' C ps (vsS vs) → Ex (cl c) none H'
  | .bad => False
def spC (Γ : Gm) (cl : Cl) (n : Nat) (Ff : List Sl → CR) : Sp := fun vs H Q Ex => vs.length = n ∧ ∃ as C, (∀ (k : Nat) s, as[k]? = some s → (∃ d, s = .val d) ∨ ∃ d, s = .ref d) ∧ RE Γ H C (asE as) (vsS vs) ∧ PostC Γ cl vs H C as Q Ex (Ff as)
theorem call_of {Ff : List Sl → CR} {f : En → AR} {n : Nat} (hn : ∀ E as bk E', f E = .ok as bk E' → as.length = n) : ∀ σ H Q, tI Γ W cl (fun E => (f E).call Ff) σ H Q → tCallS (spC Γ cl n Ff) (WE W) (tL Γ W cl f) σ H Q := by
  intro σ H Q ⟨E, C, re, p⟩
  refine ⟨E, C, re, ?_⟩
  have p : Post Γ W cl σ H C E Q ((f E).call Ff) := p
  cases h : f E with
  | bad => rw [h] at p; exact p
  | ex c E1 => rw [h] at p; exact p
  | ok as bk E1 =>
    rw [h] at p
    intro vs H1 t r hv lf
    have r0 := callee r hv lf
    refine ⟨?_, as, Cc C E1 σ, fun k s h => lf.kind h, r0, ?_⟩
    · have := hv.len
      rw [List.length_map] at this
      rw [← this]
      exact hn _ _ _ _ h
    have p : Post Γ W cl σ H C E Q (match Ff as with
    | .ok o d ps => .ok o d (back bk ps E1)
    | .ex c ps => .ex c (back bk ps E1)
    | .bad => .bad) := p
    cases hF : Ff as with
    | bad => rw [hF] at p; exact p
    | ex c ps =>
      rw [hF] at p
      intro H' tc rc
      obtain ⟨r2, t2, _⟩ := back_ok (P := fun _ => False) r hv lf t tc (rc.fewer fun a z => z.elim id False.elim) fun _ z => z.elim
      exact p H' t2 (r2.fewer fun a z => .inl z)
    | ok o d ps =>
      rw [hF] at p
      intro v H' tc vr
      cases o with
      | false =>
        obtain ⟨rc, rp⟩ := vr
        obtain ⟨r2, t2, fz⟩ := back_ok (P := fun _ => False) r hv lf t tc (rc.fewer fun a z => z.elim id False.elim) fun _ z => z.elim
        refine p v H' t2 ⟨r2.fewer fun a z => .inl z, rp.stay (.weak fun a z => ?_)⟩
        rcases fz a (z.imp (fun z => .inl z) id) with (q | q) | q
        · exact .inl q
        · exact q.elim
        · exact .inr q
      | true =>
        obtain ⟨pp, rfl, n, nc, rc, cn⟩ := vr
        obtain ⟨r2, t2, fz⟩ := back_ok (P := fun a => a = pp) r hv lf t tc rc fun a z => by rw [z]; exact n
        refine p _ H' t2 ⟨pp, rfl, ?_, fun z => nc (.inl z), r2, cn.stay (.weak fz) id⟩
        cases z : H pp with
        | none => rfl
        | some o => exact absurd n (t.there pp (by rw [z]; exact nofun))
theorem pe_callF {Ff : List Sl → CR} {f : En → AR} {k n : Nat} {fa : Addr} {fd : FuncData} {ps : List Str} {x : Str} {p0 : Pos} {es : List Expr} (F : FnOk X.prog X.w X.K X.mg X.base (L2.CX X.prog X.w) k fa fd ps (spC Γ cl n Ff)) (hr : Room k X.A) (tk : Takes X W)
    (hg : Gl X x) (hm : X.mg x = some (.ref fa)) (hk : PySem.W.keepIn X.K (.ref fa) = true) (hb : Binds X.K fd ps []) (hn : ∀ E as bk E', f E = .ok as bk E' → as.length = n)
    (hdb : (x == ("__debug__" : Str)) = false) (ha : PA X (e :: es) (tL Γ W cl f)) (he : starEach (e :: es) X.env = (false, eval e X.env) :: starEach es X.env) (hpl : (backTo pos (starEach es X.env)).any (·.1) = false) :
    PE X (.Call (.Name x p0) (e :: es) [] pos) (tI Γ W cl fun E => (f E).call Ff) :=
  (pe_callS F hr hg hm hk hb (passAt tk) ha hdb he hpl).conseq (call_of hn)
end
end Rx
set_option maxRecDepth 100000
/-! RxN0: enumerate and zip over lists and tuples in any mix. -/
namespace PySem
open Sem (wp)
set_option maxHeartbeats 1000000 in
theorem rx_meets_enumerate {v : Value} {o : Obj} {H : Heap → Prop} (B : Begins v o H) :
    Meets (Builtin.«enumerate.__new__» ⟨[.type "enumerate", v], []⟩) (fun _ R s => H s.heap ∧
      R (.ok (.ret (.ref (s.heap.push o).objs.size))) { s with heap := (s.heap.push o).push { cls := .type "enumerate", data := .fields #[.none, .bool false, .ref s.heap.objs.size, rawInt 0, .none, .none] } }) :=
  .of_wp fun prog w A R s h => by
    obtain ⟨hp, g, d, tk, os⟩ := s; obtain ⟨h1, h⟩ := h
    have hsub := sub_enumerate
    have q1 : ∀ {A' : Around} {E : Value → Shared → Prop} {Q : Value → Shared → Prop}, Q (.ref hp.objs.size) ⟨hp.push o, g, d, tk, os⟩ → wpAny (model prog w) A' (pyIter v) Q E ⟨hp, g, d, tk, os⟩ :=
      fun q => B.iter prog w _ _ ⟨hp, g, d, tk, os⟩ _ h1 q
    wp_walk using q1
    refine wpAny_stack_any fun st => wpAny_pure ?_
    split
    · rename_i c _ _ _ _ _
      cases (c == Value.type "enumerate")
      · wp_walk using q1
        exact ⟨_, rfl, h⟩
      · wp_walk using q1
        exact ⟨_, rfl, h⟩
    · wp_walk using q1
      exact ⟨_, rfl, h⟩
section
variable {prog : Program} {w : World} {A : Around} {E : Value → Shared → Prop} {s : Shared}
theorem rx_call_enumerate {v : Value} {o : Obj} {H : Heap → Prop} {Q : Value → Shared → Prop} (B : Begins v o H) (h1 : H s.heap)
    (h : ∀ h', IsEnum h' (s.heap.objs.size + 1) s.heap.objs.size 0 .none → h'.get? s.heap.objs.size = some o → h'.objs.size = s.heap.objs.size + 2 →
      (∀ b o, s.heap.get? b = some o → h'.get? b = some o) → Q (.ref (s.heap.objs.size + 1)) { s with heap := h' }) :
    wpAny (model prog w) A (call (.type "enumerate") [v]) Q E s := by
  refine callType_new F.called_enumerate (by decide) (F.typeCall_enumerate_1 _) (F.newCall_enumerate_1 _) (fun obj => F.args_object_init_2 obj _) F.entry_enumerate_new
    (rx_meets_enumerate B) ⟨h1, ?_⟩
  have hz : (s.heap.push o).objs.size = s.heap.objs.size + 1 := Heap.size_push ..
  show _ ∧ _
  rw [hz]
  have he : IsEnum ((s.heap.push o).push
      { cls := .type "enumerate", data := .fields #[.none, .bool false, .ref s.heap.objs.size, rawInt 0, .none, .none] }) (s.heap.objs.size + 1) s.heap.objs.size 0 .none := by
    have := Heap.get?_push_size (s.heap.push o)
      (o := { cls := .type "enumerate", data := .fields #[.none, .bool false, .ref s.heap.objs.size, rawInt 0, .none, .none] }) rfl
    rw [hz] at this; exact this
  refine ⟨⟨_, he, rfl⟩, h _ he (Heap.get?_push_of_some _ (Heap.get?_push_size _ B.free)) (by rw [Heap.size_push, hz]) fun b o x => Heap.get?_push_of_some _ (Heap.get?_push_of_some _ x)⟩
end
end PySem
namespace Rx
open PySem PySem.Spec PyProof.Rows L2
/-- a row: a list (true) or a tuple -/
def SqK (k : Bool) (K : PySem.W.Frag) (H : Hp) (a : Addr) (xs : List V) : Prop := if k then SqL K H a xs else SqT K H a xs
def ItK (k : Bool) (h : Heap) (it l : Addr) (i : Nat) : Prop := if k then h.IsListIter it l i else h.IsTupleIter it l i
def AtK (k : Bool) (h : Heap) (l : Addr) (items : Array Value) : Prop := if k then h.IsList l items else h.IsTuple l items
def itO (k : Bool) (l : Addr) : Obj := if k then { cls := .type "list_iterator", data := .fields #[.ref l, .int 0 0] } else { cls := .type "tuple_iterator", data := .fields #[.ref l, .int 0 0] }
theorem drawsK {prog : Program} {w : World} {A : Around} (k : Bool) (hh : A.handled = none) (it l : Addr) (hne : l ≠ it) (items : Array Value) :
    Draws prog w A it [it, l] items.size (fun i v => items[i]? = some v) (fun i h => ItK k h it l i ∧ AtK k h l items) := by
  cases k with
  | true => exact Draws.list hh it l hne items
  | false => exact Draws.tuple hh it l hne items
theorem beginsK (k : Bool) (l : Addr) (items : Array Value) : Begins (.ref l) (itO k l) fun h => AtK k h l items := by
  cases k with
  | true => exact begins_list l items
  | false => exact begins_tuple l items
theorem ItK.begin {k : Bool} {h : Heap} {it l : Addr} (e : h.get? it = some (itO k l)) : ItK k h it l 0 := by
  cases k with
  | true => exact ⟨_, e, rfl, rfl⟩
  | false => exact ⟨_, e, rfl, rfl⟩
theorem ItK.obj {k : Bool} {h : Heap} {it l : Addr} {i : Nat} (e : ItK k h it l i) : ∃ o, h.get? it = some o ∧ ∀ v, o.data ≠ .cell v := by
  cases k with
  | true => obtain ⟨o, ho, _, hd⟩ := e; exact ⟨o, ho, fun v q => by rw [hd] at q; cases q⟩
  | false => obtain ⟨o, ho, _, hd⟩ := e; exact ⟨o, ho, fun v q => by rw [hd] at q; cases q⟩
theorem ItK.at {k : Bool} {h h' : Heap} {it l : Addr} {i : Nat} (e : ItK k h it l i) (q : ∀ o, h.get? it = some o → h'.get? it = some o) : ItK k h' it l i := by
  cases k with
  | true => exact Heap.IsListIter.at e q
  | false => exact Heap.IsTupleIter.at e q
theorem AtK.lt {k : Bool} {h : Heap} {l : Addr} {items : Array Value} (e : AtK k h l items) : l < h.objs.size := by
  cases k with
  | true => obtain ⟨o, ho, _⟩ := e; exact Heap.lt_size ho
  | false => obtain ⟨o, ho, _⟩ := e; exact Heap.lt_size ho
section
variable {X : Cx} {pins : List (Addr × Obj)} {σ : L2.St} {H : Hp} {s : Shared} {a : Addr} {xs ys : List V} {k : Bool}
theorem _root_.L2.Inv.rowK (I : L2.Inv X pins σ H s) (h : SqK k X.K H a xs) : ∃ its : List Value, Vals xs its ∧ AtK k s.heap a its.toArray := by
  cases k with
  | true => obtain ⟨its, r, p, _⟩ := I.list h; exact ⟨its, r, p.isList⟩
  | false => obtain ⟨its, r, p, _⟩ := I.tuple h; exact ⟨its, r, p⟩
theorem _root_.L2.Inv.rowK_inj (I : L2.Inv X pins σ H s) (h : SqK k X.K H a xs) (h' : SqK k X.K H a ys) : xs = ys := by
  cases k with
  | true => exact I.list_inj h h'
  | false => exact I.tuple_inj h h'
end
/-- enumerate: each item in a new pair -/
def ItEn (k : Bool) (K : PySem.W.Frag) (a : Addr) : L2.It :=
  ⟨fun i H => ∃ (xs : List V) (x : V), SqK k K H a xs ∧ xs[i]? = some x, fun i H v H' => ∃ T x, v = .ref T ∧ H T = none ∧ H' = upd H T (.tup [.int (i : Nat), x]) ∧ ∀ xs, SqK k K H a xs → xs[i]? = some x, fun i H => ∃ xs : List V, SqK k K H a xs ∧ xs.length = i⟩
theorem turn_en {P : Program} {w : World} {K : PySem.W.Frag} {elts : List Expr} {kk : Nat} {tpos : Pos} (k : Bool) (a e it : Addr) :
    Turn P w K (.Tuple elts kk tpos) (ItEn k K a) [e, it] e (fun i h => (∃ old, IsEnum h e it ((i : Nat) : Int) old) ∧ ItK k h it a i ∧ e ≠ it ∧ e ≠ a ∧ it ≠ a) where
  mem := by simp
  obj := fun i h st b hb => by
    obtain ⟨⟨old, he⟩, hi, _⟩ := st
    have e' : b = e ∨ b = it := by simpa using hb
    rcases e' with z | z
    · rw [z]; exact ⟨_, he, fun v q => nomatch q⟩
    · rw [z]; exact hi.obj
  keep := fun i h h' st q => let ⟨⟨old, he⟩, hi, hne⟩ := st; ⟨⟨old, q e (by simp) _ he⟩, hi.at fun o z => q it (by simp) o z, hne⟩
  item := by
    intro X hP hw hK hc i pins s σ H E I hf st hg
    subst hP hw hK
    obtain ⟨⟨old, he⟩, hit, hne, hea, hia⟩ := st
    obtain ⟨xs, x, hq, hx⟩ := hg
    obtain ⟨its, rv, p⟩ := I.rowK hq
    obtain ⟨u, hu, ru⟩ := rv.get hx
    have hel : e < s.heap.objs.size := Heap.lt_size he
    have hil : it < s.heap.objs.size := by obtain ⟨_, q, _⟩ := hit.obj; exact Heap.lt_size q
    have hlt : i < its.toArray.size := by
      have := (List.getElem?_eq_some_iff.mp hu).1
      simpa using this
    refine wpAny_pyNext_enum_itemD (drawsK (A := X.A.in1) k (I.ok.hd hc) it a (Ne.symm hia) its.toArray) he ⟨hit, p⟩ hlt hne (by simp [hne, hea]) fun u' h' tk hu' ho hit' hT hsz hk => ?_
    have eu : u' = u := by
      have z : its[i]? = some u' := by simpa using hu'
      rw [hu] at z; exact (Option.some.inj z).symm
    subst eu
    refine ⟨_, rfl, wpAny_letOwnedTupleGo_enum (s := { s with heap := h', toks := tk + 1 }) ho fun h'' he' sb => ?_⟩
    have hT2 : h''.get? s.heap.objs.size = some { cls := .type "tuple", data := .seq #[.int i tk, u'] } := (sb.2 _ (Nat.ne_of_gt hel)).trans hT
    have new : ObjOk X.prog X.w (upd H s.heap.objs.size (.tup [.int (i : Nat), x])) h'' s.heap.objs.size (.tup [.int (i : Nat), x]) :=
      ⟨by show 2 ≤ sizeLine; decide, [.int i tk, u'], .cons ⟨_, rfl⟩ (.cons ru .nil), ⟨_, hT2, rfl, _, rfl⟩⟩
    have I1 : L2.Inv X pins σ (upd H s.heap.objs.size (.tup [.int (i : Nat), x])) { s with heap := h'', toks := tk + 1 } :=
      I.turnedNew (ch := [e, it]) (fun b ob hb q => (sb.2 b (fun z => hb (by simp [z]))).trans (hk b ob (fun z => hb (by simp [z])) (fun z => hb (by simp [z])) q)) hf (Nat.le_refl _) new
    refine ⟨.ref s.heap.objs.size, _, I1, rfl, ⟨_, x, rfl, I.hok.fresh (Nat.le_refl _), rfl, fun ys hy => by rw [I.rowK_inj hy hq]; exact hx⟩, ⟨⟨u', ?_⟩, hit'.1.at fun o q => (sb.2 it (Ne.symm hne)).trans q, hne, hea, hia⟩, fun b hb => ?_⟩
    · have e1 : ((i + 1 : Nat) : Int) = (i : Int) + 1 := by omega
      rw [e1]; exact he'
    · have hb' : b < s.heap.objs.size := by
        have e' : b = e ∨ b = it := by simpa using hb
        rcases e' with z | z
        · rw [z]; exact hel
        · rw [z]; exact hil
      rw [upd_ne (Nat.ne_of_lt hb')]
      exact (hf b hb).1
  done := by
    intro X hP hw hK hc i pins s σ H E I hf st hg
    subst hP hw hK
    obtain ⟨⟨old, he⟩, hit, hne, hea, hia⟩ := st
    obtain ⟨xs, hq, hx⟩ := hg
    obtain ⟨its, rv, p⟩ := I.rowK hq
    obtain ⟨f0, f1, f2, f3, f4, f5⟩ := hf it (by simp)
    have hl := rv.length
    have hi : i = its.toArray.size := by simp; omega
    subst hi
    exact wpAny_pyNext_enum_endD (drawsK (A := X.A.in1) k (I.ok.hd hc) it a (Ne.symm hia) its.toArray) he ⟨hit, p⟩ fun h' eb => ⟨rfl, I.turned (t' := s.toks) (fun b o hb q => eb b o hb q) f0 f1 f3 f4 f5⟩
  self := fun A i s Q E st h => let ⟨⟨_, he⟩, _⟩ := st; wpAny_pyIter_enum he h
def iEn (k : Bool) (K : PySem.W.Frag) (te : TE) : TI := fun σ H R => te σ H fun v H1 => ∃ a xs, v = .ref a ∧ SqK k K H1 a xs ∧ R (ItEn k K a) H1
theorem pi_en {X : Cx} {e : Expr} {te : TE} {p pos tpos : Pos} {elts : List Expr} {kk : Nat} {x : Str} (hx : x = "enumerate") (hg : Gl X x) (hm : X.mg x = none) (ha : PE X e te) (hs : starEach [e] X.env = [(false, eval e X.env)]) (k : Bool) :
    PI X (.Tuple elts kk tpos) (.Call (.Name x p) [e] [] pos) (iEn k X.K te) := by
  subst hx
  refine ⟨fun pins s σ H R I h => ?_⟩
  have hs' : starEach [e] X.env = (false, eval e X.env) :: starEach [] X.env := hs
  have h : (tCons te tNil) σ H fun vs H1 => ∃ a xs, vs = [.ref a] ∧ SqK k X.K H1 a xs ∧ R (ItEn k X.K a) H1 := by
    have h' : te σ H fun v H1 => ∃ a xs, v = .ref a ∧ SqK k X.K H1 a xs ∧ R (ItEn k X.K a) H1 := h
    have e2 : (fun (v : V) (H1 : Hp) => ∃ a xs, v = .ref a ∧ SqK k X.K H1 a xs ∧ R (ItEn k X.K a) H1) = fun v H1 => ∃ a xs, [v] = [V.ref a] ∧ SqK k X.K H1 a xs ∧ R (ItEn k X.K a) H1 := by
      funext v H1; simp
    rw [e2] at h'
    exact h'
  refine Call_ (ld_blt I hg hm boot_enumerate (PyProof.Rows.callWith_type1 (thn ((pa_cons ha pa_nil hs').run pos pins s σ H _ I h) fun us s1 ⟨vs, H1, I1, r1, q1⟩ => ?_) hs' rfl))
  obtain ⟨a, xs, ex, hq, q⟩ := q1
  subst ex
  cases r1 with
  | cons r rr =>
    cases rr
    cases r
    obtain ⟨its, rv, p'⟩ := I1.rowK hq
    refine rx_call_enumerate (beginsK k a its.toArray) p' fun h' he hit hsz hk => wpAny_pyIter_enum he ?_
    have I2 : L2.Inv X pins σ H1 { s1 with heap := h' } := I1.kept (t' := s1.toks) hk
    have al := p'.lt
    refine ⟨s1.heap.objs.size + 1, [s1.heap.objs.size + 1, s1.heap.objs.size], _, _, H1, rfl, I2, turn_en k a (s1.heap.objs.size + 1) s1.heap.objs.size, ⟨⟨.none, he⟩, ItK.begin hit, Nat.succ_ne_self _, ?_, ?_⟩, fun b hb => ?_, q⟩
    · exact Nat.ne_of_gt (Nat.lt_succ_of_lt al)
    · exact Nat.ne_of_gt al
    · have e' : b = s1.heap.objs.size + 1 ∨ b = s1.heap.objs.size := by simpa using hb
      have hle : s1.heap.objs.size ≤ b := by
        rcases e' with z | z
        · rw [z]; exact Nat.le_add_right _ _
        · rw [z]; exact Nat.le_refl _
      exact I1.fpOk hle (I1.hok.fresh hle)
/-- zip -/
def ItZp (k l : Bool) (K : PySem.W.Frag) (a b : Addr) : L2.It :=
  ⟨fun i H => ∃ (xs ys : List V) (x y : V), SqK k K H a xs ∧ SqK l K H b ys ∧ xs[i]? = some x ∧ ys[i]? = some y,
    fun i H v H' => ∃ T x y, v = .ref T ∧ H T = none ∧ H' = upd H T (.tup [x, y]) ∧ (∀ xs, SqK k K H a xs → xs[i]? = some x) ∧ ∀ ys, SqK l K H b ys → ys[i]? = some y,
    fun i H => ∃ xs ys : List V, SqK k K H a xs ∧ SqK l K H b ys ∧ i = min xs.length ys.length⟩
theorem turn_zp {P : Program} {w : World} {K : PySem.W.Frag} {elts : List Expr} {kk : Nat} {tpos : Pos} (k l : Bool) {a b z TI TO i1 i2 : Addr} (D : ZipSep2 z TI TO i1 i2 [i1, a] [i2, b]) (ai : a ≠ i1) (bi : b ≠ i2) :
    Turn P w K (.Tuple elts kk tpos) (ItZp k l K a b) [z, TI, TO, i1, i2] z (fun i h => IsZip h z TI TO .none ∧ IsPair h TI (.ref i1) (.ref i2) ∧ (∃ x y, IsPair h TO x y) ∧ ItK k h i1 a i ∧ ItK l h i2 b i) where
  mem := by simp
  obj := fun i h st c hc => by
    obtain ⟨hz, hTI, ⟨x, y, hTO⟩, h1, h2⟩ := st
    have e' : c = z ∨ c = TI ∨ c = TO ∨ c = i1 ∨ c = i2 := by simpa using hc
    rcases e' with q | q | q | q | q
    · rw [q]; exact ⟨_, hz, fun v q => nomatch q⟩
    · rw [q]; exact ⟨_, hTI, fun v q => nomatch q⟩
    · rw [q]; exact ⟨_, hTO, fun v q => nomatch q⟩
    · rw [q]; exact h1.obj
    · rw [q]; exact h2.obj
  keep := fun i h h' st q => by
    obtain ⟨hz, hTI, ⟨x, y, hTO⟩, h1, h2⟩ := st
    exact ⟨q z (by simp) _ hz, q TI (by simp) _ hTI, ⟨x, y, q TO (by simp) _ hTO⟩, h1.at fun o z => q i1 (by simp) o z, h2.at fun o z => q i2 (by simp) o z⟩
  item := by
    intro X hP hw hK hc i pins s σ H E I hf st hg
    subst hP hw hK
    obtain ⟨hz, hTI, ⟨x0, y0, hTO⟩, h1, h2⟩ := st
    obtain ⟨xs, ys, x, y, hqx, hqy, hx, hy⟩ := hg
    obtain ⟨its, rv, p⟩ := I.rowK hqx
    obtain ⟨its2, rv2, p2⟩ := I.rowK hqy
    obtain ⟨u, hu, ru⟩ := rv.get hx
    obtain ⟨u2, hu2, ru2⟩ := rv2.get hy
    have hzl : z < s.heap.objs.size := Heap.lt_size hz
    have l1 : i < its.toArray.size := by have := (List.getElem?_eq_some_iff.mp hu).1; simpa using this
    have l2 : i < its2.toArray.size := by have := (List.getElem?_eq_some_iff.mp hu2).1; simpa using this
    refine wpAny_pyNext_zipD2_item D (drawsK (A := X.A.in1) k (I.ok.hd hc) i1 a ai its.toArray) (drawsK (A := X.A.in1) l (I.ok.hd hc) i2 b bi its2.toArray) hz hTI hTO ⟨h1, p⟩ ⟨h2, p2⟩ l1 l2
      fun v1 v2 h' tk e1 e2 z' TO' st1 st2 hT hsz hk => ?_
    have e1 : v1 = u := by
      have z : its[i]? = some v1 := by simpa using e1
      rw [hu] at z; exact (Option.some.inj z).symm
    have e2 : v2 = u2 := by
      have z : its2[i]? = some v2 := by simpa using e2
      rw [hu2] at z; exact (Option.some.inj z).symm
    subst e1 e2
    refine ⟨_, rfl, wpAny_letOwnedTupleGo_zip (s := { s with heap := h', toks := tk }) z' fun h'' z'' sb => ?_⟩
    have hT2 : h''.get? s.heap.objs.size = some { cls := .type "tuple", data := .seq #[v1, v2] } := (sb.2 _ (Nat.ne_of_gt hzl)).trans hT
    have new : ObjOk X.prog X.w (upd H s.heap.objs.size (.tup [x, y])) h'' s.heap.objs.size (.tup [x, y]) :=
      ⟨by show 2 ≤ sizeLine; decide, [v1, v2], .cons ru (.cons ru2 .nil), ⟨_, hT2, rfl, _, rfl⟩⟩
    have I1 : L2.Inv X pins σ (upd H s.heap.objs.size (.tup [x, y])) { s with heap := h'', toks := tk } :=
      I.turnedNew (t' := tk) (ch := [z, TI, TO, i1, i2]) (fun c o hb q => (sb.2 c (fun q' => hb (by simp [q']))).trans (hk c o (fun q' => hb (by simp [q'])) (fun q' => hb (by simp [q'])) (fun q' => hb (by simp [q'])) (fun q' => hb (by simp [q'])) q)) hf (Nat.le_refl _) new
    refine ⟨.ref s.heap.objs.size, _, I1, rfl, ⟨_, x, y, rfl, I.hok.fresh (Nat.le_refl _), rfl, fun q hl => by rw [I.rowK_inj hl hqx]; exact hx, fun q hl => by rw [I.rowK_inj hl hqy]; exact hy⟩, ⟨z'', ?_, ⟨v1, v2, ?_⟩, ?_, ?_⟩, fun c hcm => ?_⟩
    · exact (sb.2 _ D.TIz).trans (hk _ _ D.TIz D.TITO D.TIi1 D.TIi2 hTI)
    · exact (sb.2 _ D.TOz).trans TO'
    · exact st1.1.at fun o q => (sb.2 _ (Ne.symm D.zi1)).trans q
    · exact st2.1.at fun o q => (sb.2 _ (Ne.symm D.zi2)).trans q
    · have hlt : c < s.heap.objs.size := by
        have e' : c = z ∨ c = TI ∨ c = TO ∨ c = i1 ∨ c = i2 := by simpa using hcm
        rcases e' with q | q | q | q | q
        · rw [q]; exact hzl
        · rw [q]; exact Heap.lt_size hTI
        · rw [q]; exact Heap.lt_size hTO
        · rw [q]; obtain ⟨_, e1, _⟩ := h1.obj; exact Heap.lt_size e1
        · rw [q]; obtain ⟨_, e1, _⟩ := h2.obj; exact Heap.lt_size e1
      rw [upd_ne (Nat.ne_of_lt hlt)]
      exact (hf c hcm).1
  done := by
    intro X hP hw hK hc i pins s σ H E I hf st hg
    subst hP hw hK
    obtain ⟨hz, hTI, ⟨x0, y0, hTO⟩, h1, h2⟩ := st
    obtain ⟨xs, ys, hqx, hqy, hend⟩ := hg
    obtain ⟨its, rv, p⟩ := I.rowK hqx
    obtain ⟨its2, rv2, p2⟩ := I.rowK hqy
    have l1 := rv.length
    have l2 := rv2.length
    refine wpAny_pyNext_zipD2_end D (drawsK (A := X.A.in1) k (I.ok.hd hc) i1 a ai its.toArray) (drawsK (A := X.A.in1) l (I.ok.hd hc) i2 b bi its2.toArray) hz hTI hTO ⟨h1, p⟩ ⟨h2, p2⟩ (by simp; omega) (by simp; omega) (by simp; omega)
      fun h' tk hk => ⟨rfl, I.turnedL (t' := tk) (ch := [z, TI, TO, i1, i2]) (fun c o hb q =>
      hk c o (fun q' => hb (by simp [q'])) (fun q' => hb (by simp [q'])) (fun q' => hb (by simp [q'])) (fun q' => hb (by simp [q'])) q) hf⟩
  self := fun A i s Q E st h => wpAny_pyIter_zip st.1 h
def iZp (K : PySem.W.Frag) (ta tb : TE) : TI := fun σ H R => ta σ H fun v H1 => tb σ H1 fun w H2 => ∃ k l a b xs ys, v = .ref a ∧ w = .ref b ∧ SqK k K H2 a xs ∧ SqK l K H2 b ys ∧ R (ItZp k l K a b) H2
theorem pi_zp {X : Cx} {e e2 : Expr} {ta tb : TE} {p pos tpos : Pos} {elts : List Expr} {kk : Nat} {x : Str} (hx : x = "zip") (hg : Gl X x) (hm : X.mg x = none) (ha : PE X e ta) (hb : PE X e2 tb)
    (hs : starEach [e, e2] X.env = [(false, eval e X.env), (false, eval e2 X.env)]) (hs2 : starEach [e2] X.env = [(false, eval e2 X.env)]) :
    PI X (.Tuple elts kk tpos) (.Call (.Name x p) [e, e2] [] pos) (iZp X.K ta tb) := by
  subst hx
  refine ⟨fun pins s σ H R I h => ?_⟩
  have hs' : starEach [e, e2] X.env = (false, eval e X.env) :: starEach [e2] X.env := by rw [hs, hs2]
  have hpl : (backTo pos (starEach [e2] X.env)).any (·.1) = false := by rw [hs2]; rfl
  have pa : PA X [e, e2] (tCons ta (tCons tb tNil)) := pa_cons ha (pa_cons hb pa_nil (by rw [hs2]; rfl)) hs'
  have h : (tCons ta (tCons tb tNil)) σ H fun vs H1 => ∃ k l a b xs ys, vs = [.ref a, .ref b] ∧ SqK k X.K H1 a xs ∧ SqK l X.K H1 b ys ∧ R (ItZp k l X.K a b) H1 := by
    have h' : ta σ H fun v H1 => tb σ H1 fun w H2 => ∃ k l a b xs ys, v = .ref a ∧ w = .ref b ∧ SqK k X.K H2 a xs ∧ SqK l X.K H2 b ys ∧ R (ItZp k l X.K a b) H2 := h
    have e2 : (fun (v : V) (H1 : Hp) => tb σ H1 fun w H2 => ∃ k l a b xs ys, v = .ref a ∧ w = .ref b ∧ SqK k X.K H2 a xs ∧ SqK l X.K H2 b ys ∧ R (ItZp k l X.K a b) H2) =
        fun v H1 => tb σ H1 fun w H2 => ∃ k l a b xs ys, [v, w] = [V.ref a, V.ref b] ∧ SqK k X.K H2 a xs ∧ SqK l X.K H2 b ys ∧ R (ItZp k l X.K a b) H2 := by
      funext v H1; congr 1; funext w H2; simp [and_assoc]
    rw [e2] at h'
    exact h'
  refine Call_ (ld_blt I hg hm PyProof.Rows.boot_zip (PyProof.Rows.callWith_type1 (thn (pa.run pos pins s σ H _ I h) fun us s1 ⟨vs, H1, I1, r1, q1⟩ => ?_) hs' hpl))
  obtain ⟨k, l, a, b, xs, ys, ex, hqx, hqy, q⟩ := q1
  subst ex
  cases r1 with
  | cons r rr =>
    cases rr with
    | cons r' rr =>
      cases rr
      cases r
      cases r'
      obtain ⟨its, rv, p1⟩ := I1.rowK hqx
      obtain ⟨its2, rv2, p2⟩ := I1.rowK hqy
      have la := p1.lt
      have lb := p2.lt
      have fresh5 : ∀ c, c ∈ [s1.heap.objs.size + 4, s1.heap.objs.size + 2, s1.heap.objs.size + 3, s1.heap.objs.size, s1.heap.objs.size + 1] → FpOk X pins H1 c := fun c hcm => by
        have e' : c = s1.heap.objs.size + 4 ∨ c = s1.heap.objs.size + 2 ∨ c = s1.heap.objs.size + 3 ∨ c = s1.heap.objs.size ∨ c = s1.heap.objs.size + 1 := by simpa using hcm
        have hle : s1.heap.objs.size ≤ c := by
          rcases e' with z | z | z | z | z
          · rw [z]; exact Nat.le_add_right _ _
          · rw [z]; exact Nat.le_add_right _ _
          · rw [z]; exact Nat.le_add_right _ _
          · rw [z]; exact Nat.le_refl _
          · rw [z]; exact Nat.le_add_right _ _
        exact I1.fpOk hle (I1.hok.fresh hle)
      refine zip_begins2 (beginsK k a its.toArray) (beginsK l b its2.toArray) p1 p2 fun h' hz hTI hTO h1 h2 hsz hk => wpAny_pyIter_zip hz ?_
      have I2 : L2.Inv X pins σ H1 { s1 with heap := h' } := I1.kept (t' := s1.toks) hk
      have D : ZipSep2 (s1.heap.objs.size + 4) (s1.heap.objs.size + 2) (s1.heap.objs.size + 3) s1.heap.objs.size (s1.heap.objs.size + 1) [s1.heap.objs.size, a] [s1.heap.objs.size + 1, b] := by
        generalize s1.heap.objs.size = N at la lb
        have la : @LT.lt Nat _ a N := la
        have lb : @LT.lt Nat _ b N := lb
        constructor <;> simp <;> first
          | (show ¬ @Eq Nat _ _; omega)
          | (refine ⟨?_, ?_⟩ <;> (show ¬ @Eq Nat _ _; omega))
          | skip
      refine ⟨s1.heap.objs.size + 4, [s1.heap.objs.size + 4, s1.heap.objs.size + 2, s1.heap.objs.size + 3, s1.heap.objs.size, s1.heap.objs.size + 1], _, _, H1, rfl, I2, turn_zp k l D (Nat.ne_of_lt la) (Nat.ne_of_lt (Nat.lt_succ_of_lt lb)), ⟨hz, hTI, ⟨_, _, hTO⟩, ItK.begin h1, ItK.begin h2⟩, fresh5, q⟩
end Rx
set_option maxHeartbeats 1000000
/-! RxN: what is walked. -/
namespace Rx
open PySem PySem.Spec PyProof.Rows L2
section
variable {Γ : Gm} {W : WX} {cl : Cl} {σ σ' σ1 : L2.St} {H H1 H' H2 : Hp} {C C' F : Addr → Prop} {E E1 E' E2 : En} {Q : VK} {X : Cx} {a b c e : Expr} {A B D' : Tm} {fa fb fc : En → ER} {pos : Pos}
theorem Tr.fz' (t : Tr E σ H E' σ' H') {a : Addr} (z : Fz C E' σ' a) : Fz C E σ a ∨ H a = none := by
  rcases z with z | ⟨i, s, g, ow, e⟩
  · exact .inl (.inl z)
  · cases s with
    | val d => cases ow
    | rfz d => cases ow
    | own d =>
      rcases t.own i a d g e with ⟨j, d', g', e'⟩ | n
      · exact .inl (.inr ⟨j, _, g', rfl, e'⟩)
      · exact .inr n
    | ref d =>
      obtain ⟨⟨d', g'⟩, e'⟩ := t.ref i d g
      exact .inl (.inr ⟨i, _, g', rfl, e' ▸ e⟩)
    | lck b d =>
      have g' := t.lckB i b d g
      exact .inl (.inr ⟨i, _, g', rfl, (t.lck i b d g').2 ▸ e⟩)
/-- a locked slot is given back -/
theorem gt_unlock {i j : Nat} : gt (unlockS E i) j = if j = i then (match gt E i with
    | some (.lck true d) => some (.own d)
    | some (.lck false d) => some (.ref d)
    | s => s) else gt E j := by
  unfold unlockS
  split
  · rename_i d g
    by_cases e : j = i
    · subst e; first | rw [if_pos rfl, gt_set_self g, g] | rw [if_pos rfl, gt_set_self g]
    · rw [if_neg e, gt_set_ne e]
  · rename_i d g
    by_cases e : j = i
    · subst e; first | rw [if_pos rfl, gt_set_self g, g] | rw [if_pos rfl, gt_set_self g]
    · rw [if_neg e, gt_set_ne e]
  · rename_i n1 n2
    by_cases e : j = i
    · subst e
      first
        | (rw [if_pos rfl]; done)
        | (rw [if_pos rfl]
           split
           · rename_i d g; exact absurd g (n1 d)
           · rename_i d g; exact absurd g (n2 d)
           · rfl)
    · rw [if_neg e]
theorem len_unlock {i : Nat} : (unlockS E i).length = E.length := by
  unfold unlockS
  split <;> simp
/-- what locks do: behind any code that ran meanwhile they are taken back -/
def LK (Γ : Gm) (lk : List Nat) (E : En) (σ : L2.St) (H : Hp) (E1 : En) (H1 : Hp) : Prop :=
  ∀ C' E2 σ2 H2, Tr E1 σ H1 E2 σ2 H2 → RE Γ H2 C' E2 σ2 → Tr E σ H (unlockAll lk E2) σ2 H2 ∧ RE Γ H2 C' (unlockAll lk E2) σ2 ∧ ∀ a, Fz C' (unlockAll lk E2) σ2 a ↔ Fz C' E2 σ2 a
theorem LK.none (t : Tr E σ H E1 σ H1) : LK Γ [] E σ H E1 H1 := fun C' E2 σ2 H2 t' r => ⟨t.trans t', r, fun _ => Iff.rfl⟩
theorem unlockAll_append {l k : List Nat} : unlockAll (l ++ k) E = unlockAll k (unlockAll l E) := by
  induction l generalizing E with
  | nil => rfl
  | cons x l ih => exact ih
theorem LK.trans {lk lk' : List Nat} (h : LK Γ lk E σ H E1 H1) (h' : LK Γ lk' E1 σ H1 E2 H2) : LK Γ (lk' ++ lk) E σ H E2 H2 := fun C' E3 σ3 H3 t r => by
  obtain ⟨t1, r1, f1⟩ := h' C' E3 σ3 H3 t r
  obtain ⟨t2, r2, f2⟩ := h C' _ σ3 H3 t1 r1
  rw [unlockAll_append]
  exact ⟨t2, r2, fun a => (f2 a).trans (f1 a)⟩
theorem isMut_inv {i : Nat} (h : isMut E i = true) : ∃ o d, gt E i = some (if o then .own d else .ref d) ∧ lockS E i = E.set i (some (.lck o d)) := by
  unfold isMut at h
  unfold lockS
  split at h
  · rename_i d g; exact ⟨true, d, g, rfl⟩
  · rename_i d g; exact ⟨false, d, g, rfl⟩
  · cases h
theorem LK.lock {i : Nat} {o : Bool} {ds : List D} (g : gt E i = some (if o then .own (.lst ds) else .ref (.lst ds))) (r : RE Γ H C E σ) : RE Γ H C (E.set i (some (.lck o (.lst ds)))) σ ∧ LK Γ [i] E σ H (E.set i (some (.lck o (.lst ds)))) H := by
  have gs : ∃ s, gt E i = some s ∧ s.ow = true ∧ s.d = .lst ds ∧ ((o = true ∧ s = .own (.lst ds)) ∨ (o = false ∧ s = .ref (.lst ds))) := by
    cases o with
    | true => exact ⟨_, g, rfl, rfl, .inl ⟨rfl, rfl⟩⟩
    | false => exact ⟨_, g, rfl, rfl, .inr ⟨rfl, rfl⟩⟩
  obtain ⟨s, gs, ow, ed, hs⟩ := gs
  have li : i < E.length := gt_lt gs
  have gi : gt (E.set i (some (.lck o (.lst ds)))) i = some (.lck o (.lst ds)) := gt_set_at li
  refine ⟨r.alter (by simp) (fun j s' g' o' => ?_) (fun j s' g' => ?_), fun C' E2 σ2 H2 t r2 => ?_⟩
  · rcases gt_set g' with ⟨rfl, z⟩ | ⟨n, z⟩
    · exact ⟨s, gs, ow⟩
    · exact ⟨s', z, o'⟩
  · rcases gt_set g' with ⟨rfl, z⟩ | ⟨n, z⟩
    · cases z
      obtain ⟨v, e, q⟩ := r.slot j s gs
      refine .inr ⟨v, e, ?_⟩
      have q : ∃ p, v = .ref p ∧ Cn true Γ H (Fz C E σ) (.lst ds) p := by
        rcases hs with ⟨_, rfl⟩ | ⟨_, rfl⟩ <;> exact q
      obtain ⟨p, e, c⟩ := q
      refine ⟨p, e, c.weakX.stay (.weak fun a z => ?_) id⟩
      rcases z with z | ⟨k, s', g', o', e'⟩
      · exact .inl z
      · rcases gt_set g' with ⟨rfl, z⟩ | ⟨n, z⟩
        · exact .inr ⟨k, s, gs, ow, e'⟩
        · exact .inr ⟨k, s', z, o', e'⟩
    · exact .inl z
  · -- the lock is still there
    obtain ⟨g2, eσ⟩ := t.lck i o (.lst ds) gi
    have un : ∀ j, gt (unlockS E2 i) j = if j = i then some s else gt E2 j := fun j => by
      rw [gt_unlock]
      by_cases e : j = i
      · rw [if_pos e, if_pos e, g2]
        rcases hs with ⟨rfl, rfl⟩ | ⟨rfl, rfl⟩ <;> rfl
      · rw [if_neg e, if_neg e]
    have oa : ∀ j p, OA (unlockS E2 i) σ2 j p ↔ OA E2 σ2 j p := fun j p => by
      constructor
      · rintro ⟨s', g', o', e'⟩
        rw [un] at g'
        by_cases e : j = i
        · subst e; exact ⟨_, g2, rfl, e'⟩
        · rw [if_neg e] at g'; exact ⟨s', g', o', e'⟩
      · rintro ⟨s', g', o', e'⟩
        by_cases e : j = i
        · subst e; exact ⟨s, by rw [un, if_pos rfl], ow, e'⟩
        · exact ⟨s', by rw [un, if_neg e]; exact g', o', e'⟩
    have fz : ∀ a, Fz C' (unlockS E2 i) σ2 a ↔ Fz C' E2 σ2 a := fun a => by
      unfold Fz
      simp only [oa]
    refine ⟨⟨fun a ob n e => t.keep a ob (fun m => n ?_) e, t.there, fun j p d g' e' => ?_, fun j b d g' => ?_, fun j b d g' => ?_, fun j d g' => ?_, fun j d g' => ?_⟩, ⟨len_unlock.trans r2.len, fun j s' g' => ?_, fun j k p h1 h2 => r2.inj j k p ((oa j p).mp h1) ((oa k p).mp h2), fun j p h => r2.dis j p ((oa j p).mp h), r2.cH⟩, fz⟩
    · obtain ⟨k, s', g', h2, e'⟩ := m
      rcases gt_set g' with ⟨rfl, z⟩ | ⟨n, z⟩
      · cases z; rcases h2 with ⟨_, z⟩ | ⟨_, z⟩ <;> cases z
      · exact ⟨k, s', z, h2, e'⟩
    · have g' : gt (unlockS E2 i) j = some (.own d) := g'
      rw [un] at g'
      by_cases e : j = i
      · subst e
        rw [if_pos rfl] at g'
        cases g'
        exact .inl ⟨j, d, gs, eσ ▸ e'⟩
      · rw [if_neg e] at g'
        rcases t.own j p d g' e' with ⟨k, d', gk, ek⟩ | n
        · rcases gt_set gk with ⟨rfl, z⟩ | ⟨n, z⟩
          · cases z
          · exact .inl ⟨k, d', z, ek⟩
        · exact .inr n
    · have n : j ≠ i := fun e => by
        subst e; rw [gs] at g'; cases g'
        rcases hs with ⟨_, z⟩ | ⟨_, z⟩ <;> cases z
      obtain ⟨h1, h2⟩ := t.lck j b d (by rw [gt_set_ne n]; exact g')
      exact ⟨by show gt (unlockS E2 i) j = _; rw [un, if_neg n]; exact h1, h2⟩
    · have g' : gt (unlockS E2 i) j = some (.lck b d) := g'
      rw [un] at g'
      by_cases e : j = i
      · subst e
        rw [if_pos rfl] at g'
        cases g'
        rcases hs with ⟨_, z⟩ | ⟨_, z⟩ <;> cases z
      · rw [if_neg e] at g'
        have := t.lckB j b d g'
        rwa [gt_set_ne e] at this
    · have g' : gt (unlockS E2 i) j = some (.ref d) := g'
      rw [un] at g'
      by_cases e : j = i
      · subst e
        rw [if_pos rfl] at g'
        cases g'
        exact ⟨⟨d, gs⟩, eσ⟩
      · rw [if_neg e] at g'
        obtain ⟨⟨d', h⟩, h2⟩ := t.ref j d g'
        rw [gt_set_ne e] at h
        exact ⟨⟨d', h⟩, h2⟩
    · have g' : gt (unlockS E2 i) j = some (.rfz d) := g'
      rw [un] at g'
      by_cases e : j = i
      · subst e
        rw [if_pos rfl] at g'
        cases g'
        rcases hs with ⟨_, z⟩ | ⟨_, z⟩ <;> cases z
      · rw [if_neg e] at g'
        obtain ⟨⟨d', h⟩, h2⟩ := t.rfz j d g'
        rw [gt_set_ne e] at h
        exact ⟨⟨d', h⟩, h2⟩
    · have g' : gt (unlockS E2 i) j = some s' := g'
      rw [un] at g'
      have st : Stay H2 H2 (Fz C' E2 σ2) (Fz C' (unlockS E2 i) σ2) fun _ => False := .weak fun a z => (fz a).mp z
      by_cases e : j = i
      · subst e
        rw [if_pos rfl] at g'
        cases g'
        obtain ⟨v, e, q⟩ := r2.slot j _ g2
        refine ⟨v, e, ?_⟩
        obtain ⟨p, e, c⟩ := q
        have c : Cn true Γ H2 (Fz C' E2 σ2) (.lst ds) p := c
        have c2 : Cn true Γ H2 (Fz C' (unlockS E2 j) σ2) (.lst ds) p := c.stay st id
        rcases hs with ⟨_, rfl⟩ | ⟨_, rfl⟩ <;> exact ⟨p, e, c2⟩
      · rw [if_neg e] at g'
        obtain ⟨v, e, q⟩ := r2.slot j s' g'
        refine ⟨v, e, ?_⟩
        cases s' with
        | val d => exact Rep.stay q st
        | rfz d => exact Rep.stay q st
        | own d => obtain ⟨p', e', c⟩ := q; exact ⟨p', e', c.stay st id⟩
        | ref d => obtain ⟨p', e', c⟩ := q; exact ⟨p', e', c.stay st id⟩
        | lck b d => obtain ⟨p', e', c⟩ := q; exact ⟨p', e', c.stay st id⟩

/-! ### sources -/
/-- a row that stays, whatever runs meanwhile -/
def SrcOk (Γ : Gm) (k : Bool) (p : Addr) (C : Addr → Prop) (E : En) (σ : L2.St) (H : Hp) (xs : List D) : Prop :=
  ∀ C' E2 σ2 H2, (∀ a, C' a → C a ∨ H a = none) → Tr E σ H E2 σ2 H2 → RE Γ H2 C' E2 σ2 → ∃ vs, SqK k Γ.K H2 p vs ∧ Reps Γ H2 (Fz C' E2 σ2) xs vs
def kindD : D → Bool
  | .tup _ => false
  | _ => true
theorem SrcOk.step {k : Bool} {p : Addr} {xs : List D} (h : SrcOk Γ k p C E σ H xs) (t : Tr E σ H E1 σ1 H1) : SrcOk Γ k p C E1 σ1 H1 xs := fun C' E2 σ2 H2 hc t' r =>
  h C' E2 σ2 H2 (fun a z => (hc a z).imp id fun n => by
    cases q : H a with
    | none => rfl
    | some o => exact absurd n (t.there a (by rw [q]; exact nofun))) (t.trans t') r
theorem SrcOk.lk {k : Bool} {p : Addr} {xs : List D} {lk : List Nat} (h : SrcOk Γ k p C E σ H xs) (l : LK Γ lk E σ H E1 H1) (th : ∀ a, H a ≠ none → H1 a ≠ none) : SrcOk Γ k p C E1 σ H1 xs := fun C' E2 σ2 H2 hc t' r => by
  obtain ⟨t2, r2, f⟩ := l C' E2 σ2 H2 t' r
  obtain ⟨vs, h1, h2⟩ := h C' _ σ2 H2 (fun a z => (hc a z).imp id fun n => by
    cases q : H a with
    | none => rfl
    | some o => exact absurd n (th a (by rw [q]; exact nofun))) t2 r2
  exact ⟨vs, h1, h2.stay (.weak fun a z => (f a).mpr z)⟩
theorem src_rep {d : D} {v : V} {xs : List D} (re : RE Γ H C E σ) (r : Rep Γ H (Fz C E σ) d v) (h : rows d = some xs) : ∃ p, v = .ref p ∧ SrcOk Γ (kindD d) p C E σ H xs := by
  have st : ∀ C' E2 σ2 H2, (∀ a, C' a → C a ∨ H a = none) → Tr E σ H E2 σ2 H2 → RE Γ H2 C' E2 σ2 → Stay H H2 (Fz C E σ) (Fz C' E2 σ2) (Mu E σ) := fun C' E2 σ2 H2 hc t r2 => re.stay t fun a z => by
    rcases z with z | z
    · exact (hc a z).imp .inl id
    · exact t.fz' (C := C) (.inr z)
  have rr : ∀ {ds : List D} {vs : List V}, vs.length = ds.length → (∀ (i : Nat) d v, ds[i]? = some d → vs[i]? = some v → Rep Γ H (Fz C E σ) d v) → Reps Γ H (Fz C E σ) ds vs := fun l r => ⟨l, r⟩
  cases r with
  | @tup p ds vs q z l r =>
    cases h
    refine ⟨p, rfl, fun C' E2 σ2 H2 hc t r2 => ⟨vs, ?_, (rr l r).stay (st C' E2 σ2 H2 hc t r2)⟩⟩
    rcases q with q | q
    · exact .inl (.inl ((st C' E2 σ2 H2 hc t r2).tup q))
    · exact .inr q.1
  | @lst p ds vs q n z l r =>
    cases h
    exact ⟨p, rfl, fun C' E2 σ2 H2 hc t r2 => ⟨vs, .inl (.inl ((st C' E2 σ2 H2 hc t r2).at n q).1), (rr l r).stay (st C' E2 σ2 H2 hc t r2)⟩⟩
  | @frl p ds vs q z l r =>
    cases h
    refine ⟨p, rfl, fun C' E2 σ2 H2 hc t r2 => ⟨vs, ?_, (rr l r).stay (st C' E2 σ2 H2 hc t r2)⟩⟩
    rcases q with ⟨q, n⟩ | q
    · exact .inl ((st C' E2 σ2 H2 hc t r2).rd n q).1
    · exact .inr q
  | _ => cases h
theorem src_lck {i : Nat} {o : Bool} {xs : List D} {p : Addr} (g : gt E i = some (.lck o (.lst xs))) (e : σ[i]? = some (some (.ref p))) : SrcOk Γ true p C E σ H xs := fun C' E2 σ2 H2 hc t r => by
  obtain ⟨g2, e2⟩ := t.lck i o _ g
  obtain ⟨v, h1, h2⟩ := r.slot i _ g2
  rw [e2, e] at h1; cases h1
  obtain ⟨p', e', vs, h3, h4, h5⟩ := h2
  cases e'
  exact ⟨vs, .inl (.inl h3), h5⟩
/-- an operand that is walked -/
theorem opI_of {k : D → List Nat → En → IR} {Pr : IR → Prop} (re : RE Γ H C E σ) (hbad : ¬ Pr .bad) (hex : ∀ c E', Pr (.ex c E') → ∀ H', Tr E σ H E' σ H' → RE Γ H' C E' σ → W (cl c) none σ H') (p : Pr (opI (asVar A) fa E k)) :
    ∃ kd, ∀ {R : VK}, (∀ d v lk E1 H1, RE Γ H1 C E1 σ → LK Γ lk E σ H E1 H1 → (∀ a, H a ≠ none → H1 a ≠ none) → (∀ xs, rows d = some xs → ∃ q, v = .ref q ∧ SrcOk Γ kd q C E1 σ H1 xs) → Pr (k d lk E1) → R v H1) → tO Γ W cl (asVar A) fa σ H R := by
  cases q : asVar A with
  | some i =>
    rw [q] at p
    unfold opI at p
    simp only at p
    cases g : gt E i with
    | none => rw [g] at p; exact absurd p hbad
    | some s =>
      rw [g] at p
      simp only at p
      obtain ⟨v, hv, sr⟩ := re.slot i s g
      refine ⟨kindD s.d, fun {R} h => ⟨v, hv, ?_⟩⟩
      cases hm : isMut E i with
      | true =>
        rw [hm, if_pos rfl] at p
        obtain ⟨o, d, g', el⟩ := isMut_inv hm
        rw [g] at g'; cases g'
        have ed : (if o = true then Sl.own d else Sl.ref d).d = d := by cases o <;> rfl
        rw [ed] at p
        obtain ⟨pp, rfl, cn⟩ : ∃ p, v = .ref p ∧ Cn true Γ H (Fz C E σ) d p := by cases o <;> exact sr
        cases d with
        | lst ds =>
          obtain ⟨r1, l1⟩ := LK.lock (o := o) (ds := ds) (by rw [g]) re
          have p : Pr (k (.lst ds) [i] (lockS E i)) := by cases o <;> exact p
          rw [el] at p
          refine h (.lst ds) _ [i] _ H r1 l1 (fun _ n => n) (fun xs hx => ?_) p
          cases hx
          refine ⟨pp, rfl, ?_⟩
          rw [ed]
          exact src_lck (gt_set_at (gt_lt g)) hv
        | dk ks ds => cases o <;> exact absurd p hbad
        | dt ks ds => cases o <;> exact absurd p hbad
        | _ => exact cn.elim
      | false =>
        rw [hm, if_neg Bool.false_ne_true] at p
        refine h s.d v [] E H re (LK.none .refl) (fun _ n => n) (fun xs hx => ?_) p
        cases s with
        | val d => exact src_rep re sr hx
        | rfz d => exact src_rep re sr hx
        | own d => unfold isMut at hm; rw [g] at hm; cases hm
        | ref d => unfold isMut at hm; rw [g] at hm; cases hm
        | lck b d =>
          obtain ⟨pp, rfl, cn⟩ := sr
          cases d with
          | lst ds => cases hx; exact ⟨pp, rfl, src_lck g hv⟩
          | dk ks ds => cases hx
          | dt ks ds => cases hx
          | _ => exact cn.elim
  | none =>
    rw [q] at p
    have p : Pr (match fa E with
      | .ok _ d E' => k d [] E'
      | .ex c E' => .ex c E'
      | .bad => .bad) := p
    cases e : fa E with
    | bad => rw [e] at p; exact absurd p hbad
    | ex c E' => rw [e] at p; exact ⟨true, fun {R} h => ⟨E, C, re, by rw [e]; exact hex c E' p⟩⟩
    | ok o d E1 =>
      rw [e] at p
      refine ⟨kindD d, fun {R} h => ⟨E, C, re, ?_⟩⟩
      rw [e]
      intro v H1 t vr
      obtain ⟨r1, rp⟩ := vr.share
      exact h d v [] E1 H1 r1 (LK.none t) t.there (fun xs hx => src_rep r1 rp hx) p
/-- an operand, then its lock -/
theorem opBI_of {k : Opd → En → IR} {Pr : IR → Prop} (re : RE Γ H C E σ) (hbad : ¬ Pr .bad) (p : Pr (opBI (asVar A) fa E k)) {R : VK} (h : ∀ x v E1 H1, OpdR Γ H1 C E1 σ x v → RE Γ H1 C E1 σ → Tr E σ H E1 σ H1 → Pr (k x E1) → R v H1) : tO Γ W cl (asVar A) fa σ H R := by
  cases q : asVar A with
  | some i =>
    rw [q] at p
    unfold opBI at p
    dsimp only at p
    cases g : gt E i with
    | none => rw [g] at p; exact absurd p hbad
    | some s =>
      rw [g] at p
      obtain ⟨v, hv, _⟩ := re.slot i s g
      exact ⟨v, hv, h (.sl i) v E H hv re .refl p⟩
  | none =>
    rw [q] at p
    unfold opBI at p
    dsimp only at p
    refine ⟨E, C, re, ?_⟩
    cases e : fa E with
    | bad => rw [e] at p; exact absurd p hbad
    | ex c E' => rw [e] at p; exact absurd p hbad
    | ok o d E1 =>
      rw [e] at p
      intro v H1 t vr
      obtain ⟨r1, rp⟩ := vr.share
      exact h (.dt d) v E1 H1 rp r1 t p
theorem lockO_of {k : D → List Nat → En → IR} {Pr : IR → Prop} {x : Opd} {v : V} (r : RE Γ H C E σ) (hx : OpdR Γ H C E σ x v) (hbad : ¬ Pr .bad) (p : Pr (lockO x E k)) :
    ∃ d lk E1 kd, RE Γ H C E1 σ ∧ LK Γ lk E σ H E1 H ∧ (∀ a, Fz C E1 σ a → Fz C E σ a) ∧ (∀ xs, rows d = some xs → ∃ q, v = .ref q ∧ SrcOk Γ kd q C E1 σ H xs) ∧ Pr (k d lk E1) := by
  cases x with
  | dt d => exact ⟨d, [], E, kindD d, r, LK.none .refl, fun _ z => z, fun xs hr => src_rep r hx hr, p⟩
  | sl i =>
    unfold lockO at p
    dsimp only at p
    cases g : gt E i with
    | none => rw [g] at p; exact absurd p hbad
    | some s =>
      rw [g] at p
      dsimp only at p
      obtain ⟨w, hw, sr⟩ := r.slot i s g
      have hx : σ[i]? = some (some v) := hx
      rw [hx] at hw; cases hw
      cases hm : isMut E i with
      | true =>
        rw [hm, if_pos rfl] at p
        obtain ⟨o, d, g', el⟩ := isMut_inv hm
        rw [g] at g'; cases g'
        have ed : (if o = true then Sl.own d else Sl.ref d).d = d := by cases o <;> rfl
        rw [ed] at p
        obtain ⟨pp, rfl, cn⟩ : ∃ p, v = .ref p ∧ Cn true Γ H (Fz C E σ) d p := by cases o <;> exact sr
        cases d with
        | lst ds =>
          obtain ⟨r1, l1⟩ := LK.lock (o := o) (ds := ds) (by rw [g]) r
          have p : Pr (k (.lst ds) [i] (lockS E i)) := by cases o <;> exact p
          rw [el] at p
          refine ⟨.lst ds, [i], _, true, r1, l1, fun a z => ?_, fun xs hr => ?_, p⟩
          · rcases z with z | ⟨j, s', g', o', e'⟩
            · exact .inl z
            · rcases gt_set g' with ⟨rfl, z⟩ | ⟨n, z⟩
              · exact .inr ⟨j, _, g, by cases o <;> rfl, e'⟩
              · exact .inr ⟨j, s', z, o', e'⟩
          · cases hr
            exact ⟨pp, rfl, src_lck (gt_set_at (gt_lt g)) hx⟩
        | dk ks ds => cases o <;> exact absurd p hbad
        | dt ks ds => cases o <;> exact absurd p hbad
        | _ => exact cn.elim
      | false =>
        rw [hm, if_neg Bool.false_ne_true] at p
        refine ⟨s.d, [], E, kindD s.d, r, LK.none .refl, fun _ z => z, fun xs hr => ?_, p⟩
        cases s with
        | val d => exact src_rep r sr hr
        | rfz d => exact src_rep r sr hr
        | own d => unfold isMut at hm; rw [g] at hm; cases hm
        | ref d => unfold isMut at hm; rw [g] at hm; cases hm
        | lck b d =>
          obtain ⟨pp, rfl, cn⟩ := sr
          cases d with
          | lst ds => cases hr; exact ⟨pp, rfl, src_lck g hx⟩
          | dk ks ds => cases hr
          | dt ks ds => cases hr
          | _ => exact cn.elim
end
end Rx
set_option maxHeartbeats 1000000
/-! RxO: walks; comprehensions. -/
namespace Rx
open PySem PySem.Spec PyProof.Rows L2
section
variable {Γ : Gm} {W : WX} {cl : Cl} {σ σ' σ1 : L2.St} {H H1 H' H2 : Hp} {C C' F : Addr → Prop} {E E1 E' E2 : En} {Q : VK} {X : Cx} {a b c e : Expr} {A B D' : Tm} {fa fb fc : En → ER} {pos : Pos}
/-- J gives the items xs, whatever runs meanwhile -/
def JW (Γ : Gm) (J : L2.It) (C : Addr → Prop) (E : En) (σ : L2.St) (H : Hp) (xs : List D) : Prop :=
  ∀ C' E2 σ2 H2, (∀ a, C' a → C a ∨ H a = none) → Tr E σ H E2 σ2 H2 → RE Γ H2 C' E2 σ2 →
    (∀ (i : Nat) d, xs[i]? = some d → J.go i H2 ∧ ∀ x H', J.yld i H2 x H' → Same H2 H' ∧ Rep Γ H' (Fz C' E2 σ2) d x) ∧ J.stop xs.length H2
theorem Reps.of {K : Gm} {ds : List D} {vs : List V} {i : Nat} {d : D} {v : V} (r : Reps K H F ds vs) (h : ds[i]? = some d) (h' : vs[i]? = some v) : Rep K H F d v := r.r i d v h h'
theorem Rep.grow {K : Gm} {d : D} {v : V} (r : Rep K H F d v) (s : Same H H') : Rep K H' F d v := r.stay (.same s fun a z => .inl z)
def rowJ (k : Bool) (K : PySem.W.Frag) (p : Addr) : L2.It := if k then Itl K p else Itt K p
theorem jw_row {k : Bool} {p : Addr} {xs : List D} (h : SrcOk Γ k p C E σ H xs) : JW Γ (rowJ k Γ.K p) C E σ H xs := fun C' E2 σ2 H2 hc t r => by
  obtain ⟨vs, sq, rs⟩ := h C' E2 σ2 H2 hc t r
  refine ⟨fun i d hd => ?_, ?_⟩
  · obtain ⟨v, hv, rp⟩ := rs.get hd
    cases k with
    | true =>
      refine ⟨⟨vs, v, sq, hv⟩, fun x H' y => ?_⟩
      obtain ⟨rfl, y⟩ := y
      have := y vs sq
      rw [hv] at this; cases this
      exact ⟨Same.refl _, rp⟩
    | false =>
      refine ⟨⟨vs, v, sq, hv⟩, fun x H' y => ?_⟩
      obtain ⟨rfl, y⟩ := y
      have := y vs sq
      rw [hv] at this; cases this
      exact ⟨Same.refl _, rp⟩
  · cases k with
    | true => exact ⟨vs, sq, Nat.le_of_eq rs.l⟩
    | false => exact ⟨vs, sq, Nat.le_of_eq rs.l⟩
theorem pair_rep {d d' : D} {v w : V} {T : Addr} (h1 : Rep Γ H F d v) (h2 : Rep Γ H F d' w) (n : H T = none) : Rep Γ (upd H T (.tup [v, w])) F (.tup [d, d']) (.ref T) := by
  refine .tup (.inl upd_same) (show 2 ≤ SZ by decide) rfl fun i e x e1 e2 => ?_
  have s : Same H (upd H T (.tup [v, w])) := same_upd' n
  match i with
  | 0 => cases e1; cases e2; exact h1.grow s
  | 1 => cases e1; cases e2; exact h2.grow s
  | i + 2 => simp at e1
theorem jw_enum {k : Bool} {p : Addr} {xs : List D} (h : SrcOk Γ k p C E σ H xs) : JW Γ (ItEn k Γ.K p) C E σ H (enumD xs) := fun C' E2 σ2 H2 hc t r => by
  obtain ⟨vs, sq, rs⟩ := h C' E2 σ2 H2 hc t r
  refine ⟨fun i d hd => ?_, ?_⟩
  · unfold enumD at hd
    rw [List.getElem?_map, List.getElem?_zipIdx] at hd
    obtain ⟨z, hz, rfl⟩ := Option.map_eq_some_iff.mp hd
    obtain ⟨d0, hd0, rfl⟩ := Option.map_eq_some_iff.mp hz
    obtain ⟨v, hv, rp⟩ := rs.get hd0
    refine ⟨⟨vs, v, sq, hv⟩, fun x H' y => ?_⟩
    obtain ⟨T, v', rfl, n, rfl, y⟩ := y
    have := y vs sq
    rw [hv] at this; cases this
    refine ⟨same_upd' n, ?_⟩
    have := pair_rep (Rep.int (K := Γ) (H := H2) (F := Fz C' E2 σ2) ((i : Nat) : Int)) rp n
    simpa using this
  · refine ⟨vs, sq, ?_⟩
    unfold enumD
    rw [List.length_map, List.length_zipIdx]
    exact rs.l
theorem jw_zip {k l : Bool} {p q : Addr} {xs ys : List D} (h : SrcOk Γ k p C E σ H xs) (h' : SrcOk Γ l q C E σ H ys) : JW Γ (ItZp k l Γ.K p q) C E σ H (zipD xs ys) := fun C' E2 σ2 H2 hc t r => by
  obtain ⟨vs, sq, rs⟩ := h C' E2 σ2 H2 hc t r
  obtain ⟨ws, sq', rs'⟩ := h' C' E2 σ2 H2 hc t r
  refine ⟨fun i d hd => ?_, ?_⟩
  · unfold zipD at hd
    rw [List.getElem?_map] at hd
    obtain ⟨z, hz, rfl⟩ := Option.map_eq_some_iff.mp hd
    obtain ⟨hz1, hz2⟩ := List.getElem?_zip_eq_some.mp hz
    obtain ⟨v, hv, rp⟩ := rs.get hz1
    obtain ⟨w, hw, rp'⟩ := rs'.get hz2
    refine ⟨⟨vs, ws, v, w, sq, sq', hv, hw⟩, fun x H' y => ?_⟩
    obtain ⟨T, v', w', rfl, n, rfl, y1, y2⟩ := y
    have := y1 vs sq
    rw [hv] at this; cases this
    have := y2 ws sq'
    rw [hw] at this; cases this
    exact ⟨same_upd' n, pair_rep rp rp' n⟩
  · refine ⟨vs, ws, sq, sq', ?_⟩
    unfold zipD
    rw [List.length_map, List.length_zip, rs.l, rs'.l]
theorem jw_range {m n : Int} : JW Γ (Itr m (n - m).toNat) C E σ H (rangeD m n) := fun C' E2 σ2 H2 hc t r => by
  refine ⟨fun i d hd => ?_, ?_⟩
  · unfold rangeD at hd
    rw [List.getElem?_map] at hd
    obtain ⟨z, hz, rfl⟩ := Option.map_eq_some_iff.mp hd
    obtain ⟨hi, e⟩ := List.getElem?_eq_some_iff.mp hz
    have e : i = z := by rw [List.getElem_range] at e; exact e
    rw [List.length_range] at hi
    subst e
    refine ⟨hi, fun x H' y => ?_⟩
    obtain ⟨rfl, rfl⟩ := y
    exact ⟨Same.refl _, .int _⟩
  · show (n - m).toNat ≤ _
    unfold rangeD
    rw [List.length_map, List.length_range]
    exact Nat.le_refl _

/-! ### walks -/
def PostI (Γ : Gm) (W : WX) (cl : Cl) (σ : L2.St) (H : Hp) (C : Addr → Prop) (E : En) (R : L2.It → Hp → Prop) : IR → Prop
  | .ok xs lk E' => ∀ J H', RE Γ H' C E' σ → JW Γ J C E' σ H' xs → LK Γ lk E σ H E' H' → (∀ a, H a ≠ none → H' a ≠ none) → R J H'
  | .ex c E' => ∀ H', Tr E σ H E' σ H' → RE Γ H' C E' σ → W (cl c) none σ H'
  | .bad => False
def tW (Γ : Gm) (W : WX) (cl : Cl) (f : En → IR) : TI := fun σ H R => ∃ E C, RE Γ H C E σ ∧ PostI Γ W cl σ H C E R (f E)
theorem _root_.L2.PI.conseq {tg e : Expr} {t t' : TI} (h : PI X tg e t) (i : ∀ σ H Q, t' σ H Q → t σ H Q) : PI X tg e t' := ⟨fun pins s σ H R I q => h.run pins s σ H R I (i σ H R q)⟩
theorem _root_.L2.PI.ex {α : Type} {tg e : Expr} {t : α → TI} (h : ∀ k, PI X tg e (t k)) : PI X tg e fun σ H R => ∃ k, t k σ H R := ⟨fun pins s σ H R I ⟨k, q⟩ => (h k).run pins s σ H R I q⟩
theorem pi_row {tg : Expr} {te : TE} (he : PE X e te) (k : Bool) : PI X tg e fun σ H R => te σ H fun v H1 => ∃ a xs, v = .ref a ∧ SqK k X.K H1 a xs ∧ R (rowJ k X.K a) H1 := by
  cases k with
  | true =>
    refine (pi_list he).conseq fun σ H R h => ?_
    have e2 : (fun (x : V) (H1 : Hp) => ∃ a, x = V.ref a ∧ (∃ xs, SqL X.K H1 a xs) ∧ R (Itl X.K a) H1) = fun v H1 => ∃ a xs, v = .ref a ∧ SqK true X.K H1 a xs ∧ R (rowJ true X.K a) H1 := by
      funext v H1
      refine propext ⟨fun ⟨a, h1, ⟨xs, h2⟩, h3⟩ => ⟨a, xs, h1, h2, h3⟩, fun ⟨a, xs, h1, h2, h3⟩ => ⟨a, h1, ⟨xs, h2⟩, h3⟩⟩
    show te σ H _
    rw [e2]
    exact h
  | false =>
    refine (pi_tup he).conseq fun σ H R h => ?_
    have e2 : (fun (x : V) (H1 : Hp) => ∃ a, x = V.ref a ∧ (∃ xs, SqT X.K H1 a xs) ∧ R (Itt X.K a) H1) = fun v H1 => ∃ a xs, v = .ref a ∧ SqK false X.K H1 a xs ∧ R (rowJ false X.K a) H1 := by
      funext v H1
      refine propext ⟨fun ⟨a, h1, ⟨xs, h2⟩, h3⟩ => ⟨a, xs, h1, h2, h3⟩, fun ⟨a, xs, h1, h2, h3⟩ => ⟨a, h1, ⟨xs, h2⟩, h3⟩⟩
    show te σ H _
    rw [e2]
    exact h
theorem src_now {k : Bool} {p : Addr} {xs : List D} (h : SrcOk Γ k p C E σ H xs) (r : RE Γ H C E σ) : ∃ vs, SqK k Γ.K H p vs := by
  obtain ⟨vs, q, _⟩ := h C E σ H (fun a z => .inl z) .refl r
  exact ⟨vs, q⟩
theorem pi_seqE {tg : Expr} (hK : X.K = Γ.K) (ha : PE X a (tO Γ W cl (asVar A) fa)) : PI X tg a (tW Γ W cl fun E => opI (asVar A) fa E fun d lk E1 => match rows d with
    | some xs => .ok xs lk E1
    | none => .bad) := by
  refine (PI.ex fun k => pi_row ha k).conseq fun σ H R ⟨E, C, re, p⟩ => ?_
  obtain ⟨kd, h⟩ := opI_of (W := W) (cl := cl) (Pr := PostI Γ W cl σ H C E R) re id (fun c E' z => z) p
  refine ⟨kd, h fun d v lk E1 H1 r1 l th src p1 => ?_⟩
  cases hx : rows d with
  | none => rw [hx] at p1; exact p1.elim
  | some xs =>
    rw [hx] at p1
    obtain ⟨q, rfl, sk⟩ := src xs hx
    obtain ⟨vs, sq⟩ := src_now sk r1
    rw [hK]
    exact ⟨q, vs, rfl, sq, p1 _ H1 r1 (jw_row sk) l th⟩
theorem pi_enumE {elts : List Expr} {kk : Nat} {tpos p0 : Pos} {x : Str} (hK : X.K = Γ.K) (hx : x = "enumerate") (hg : Gl X x) (hm : X.mg x = none) (hs : starEach [a] X.env = [(false, eval a X.env)]) (ha : PE X a (tO Γ W cl (asVar A) fa)) :
    PI X (.Tuple elts kk tpos) (.Call (.Name x p0) [a] [] pos) (tW Γ W cl fun E => opI (asVar A) fa E fun d lk E1 => match rows d with
    | some xs => .ok (enumD xs) lk E1
    | none => .bad) := by
  refine (PI.ex fun k => pi_en hx hg hm ha hs k).conseq fun σ H R ⟨E, C, re, p⟩ => ?_
  obtain ⟨kd, h⟩ := opI_of (W := W) (cl := cl) (Pr := PostI Γ W cl σ H C E R) re id (fun c E' z => z) p
  refine ⟨kd, h fun d v lk E1 H1 r1 l th src p1 => ?_⟩
  cases hx : rows d with
  | none => rw [hx] at p1; exact p1.elim
  | some xs =>
    rw [hx] at p1
    obtain ⟨q, rfl, sk⟩ := src xs hx
    obtain ⟨vs, sq⟩ := src_now sk r1
    rw [hK]
    exact ⟨q, vs, rfl, sq, p1 _ H1 r1 (jw_enum sk) l th⟩
theorem pi_zipE {elts : List Expr} {kk : Nat} {tpos p0 : Pos} {x : Str} (hK : X.K = Γ.K) (hx : x = "zip") (hg : Gl X x) (hm : X.mg x = none) (hs : starEach [a, b] X.env = [(false, eval a X.env), (false, eval b X.env)]) (hs2 : starEach [b] X.env = [(false, eval b X.env)])
    (ha : PE X a (tO Γ W cl (asVar A) fa)) (hb : PE X b (tO Γ W cl (asVar B) fb)) :
    PI X (.Tuple elts kk tpos) (.Call (.Name x p0) [a, b] [] pos) (tW Γ W cl fun E => opBI (asVar A) fa E fun x E1 => opBI (asVar B) fb E1 fun y E2 => lockO x E2 fun d lk E3 => match rows d with
    | some xs => lockO y E3 fun e lk' E4 => (match rows e with
      | some ys => .ok (zipD xs ys) (lk' ++ lk) E4
      | none => .bad)
    | none => .bad) := by
  refine (pi_zp hx hg hm ha hb hs hs2).conseq fun σ H R ⟨E, C, re, p⟩ => ?_
  refine opBI_of (Pr := PostI Γ W cl σ H C E R) re id p fun x v E1 H1 hx r1 t1 p1 => ?_
  refine opBI_of (Pr := PostI Γ W cl σ H C E R) r1 id p1 fun y w E2 H2 hy r2 t2 p2 => ?_
  obtain ⟨d, lk, E3, kd, r3, l3, fz3, src, p3⟩ := lockO_of (Pr := PostI Γ W cl σ H C E R) r2 (hx.step r1 t2 r2) id p2
  cases hd : rows d with
  | none => rw [hd] at p3; exact p3.elim
  | some xs =>
    rw [hd] at p3
    obtain ⟨q, rfl, sk⟩ := src xs hd
    have hy3 : OpdR Γ H2 C E3 σ y w := by
      cases y with
      | sl i => exact hy
      | dt e => exact Rep.stay hy (.weak fz3)
    obtain ⟨e, lk', E4, kd2, r4, l4, fz4, src2, p4⟩ := lockO_of (Pr := PostI Γ W cl σ H C E R) r3 hy3 id p3
    cases he : rows e with
    | none => rw [he] at p4; exact p4.elim
    | some ys =>
      rw [he] at p4
      obtain ⟨q2, rfl, sk2⟩ := src2 ys he
      have sk' := sk.lk l4 fun _ n => n
      obtain ⟨vs, sq⟩ := src_now sk' r4
      obtain ⟨ws, sq2⟩ := src_now sk2 r4
      have ll := ((LK.none (Γ := Γ) (t1.trans t2)).trans l3).trans l4
      rw [List.append_nil] at ll
      rw [hK]
      exact ⟨kd, kd2, q, q2, vs, ws, rfl, rfl, sq, sq2, p4 _ H2 r4 (jw_zip sk' sk2) ll (t1.trans t2).there⟩
theorem pi_range1E {p0 : Pos} {tg : Expr} {x : Str} (hx : x = "range") (hg : Gl X x) (hm : X.mg x = none) (hs : starEach [a] X.env = [(false, eval a X.env)]) (ha : PE X a (tI Γ W cl fa)) :
    PI X tg (.Call (.Name x p0) [a] [] pos) (tW Γ W cl fun E => opN (fa E) fun d E1 => match d with
    | .int n => if rgOk 0 n then .ok (rangeD 0 n) [] E1 else .bad
    | _ => .bad) := by
  subst hx
  refine (pi_range1 hg hm (pa_cons ha pa_nil hs) hs).conseq fun σ H R ⟨E, C, re, p⟩ => ⟨E, C, re, ?_⟩
  dsimp only at p
  cases h : fa E with
  | bad => rw [h] at p; exact p
  | ex c E1 => rw [h] at p; exact p
  | ok o d E1 =>
    rw [h] at p
    intro v H1 t vr
    obtain ⟨r1, rp⟩ := vr.share
    cases rp with
    | int n =>
      have p : PostI Γ W cl σ H C E R (if rgOk 0 n then .ok (rangeD 0 n) [] E1 else .bad) := p
      cases hr : rgOk 0 n with
      | false => rw [hr] at p; exact p.elim
      | true =>
        rw [hr, if_pos rfl] at p
        unfold rgOk at hr
        simp only [Bool.and_eq_true, decide_eq_true_eq] at hr
        refine ⟨n, rfl, by omega, by omega, ?_⟩
        have := p (Itr 0 (n - 0).toNat) H1 r1 jw_range (LK.none t) t.there
        simpa using this
    | _ => exact p.elim
theorem pi_range2E {p0 : Pos} {tg : Expr} {x : Str} (hx : x = "range") (hg : Gl X x) (hm : X.mg x = none) (hs : starEach [a, b] X.env = [(false, eval a X.env), (false, eval b X.env)]) (hs2 : starEach [b] X.env = [(false, eval b X.env)]) (ha : PE X a (tI Γ W cl fa)) (hb : PE X b (tI Γ W cl fb)) :
    PI X tg (.Call (.Name x p0) [a, b] [] pos) (tW Γ W cl fun E => opN (fa E) fun d E1 => opN (fb E1) fun e E2 => match d, e with
    | .int m, .int n => if rgOk m n then .ok (rangeD m n) [] E2 else .bad
    | _, _ => .bad) := by
  subst hx
  refine (pi_range2 hg hm (pa_cons ha (pa_cons hb pa_nil (by rw [hs2]; rfl)) (by rw [hs, hs2])) hs hs2).conseq fun σ H R ⟨E, C, re, p⟩ => ⟨E, C, re, ?_⟩
  dsimp only at p
  cases h : fa E with
  | bad => rw [h] at p; exact p
  | ex c E1 => rw [h] at p; exact p
  | ok o d E1 =>
    rw [h] at p
    intro v H1 t vr
    obtain ⟨r1, rp⟩ := vr.share
    refine ⟨E1, C, r1, ?_⟩
    dsimp only [opN] at p
    cases h2 : fb E1 with
    | bad => rw [h2] at p; exact p
    | ex c E2 => rw [h2] at p; exact fun H' t' r' => p H' (t.trans t') r'
    | ok o2 d2 E2 =>
      rw [h2] at p
      intro w H2 t2 vr2
      obtain ⟨r2, rp2⟩ := vr2.share
      cases rp with
      | int m =>
        cases rp2 with
        | int n =>
          dsimp only at p
          cases hr : rgOk m n with
          | false => rw [hr] at p; exact p.elim
          | true =>
            rw [hr, if_pos rfl] at p
            unfold rgOk at hr
            simp only [Bool.and_eq_true, decide_eq_true_eq] at hr
            exact ⟨m, n, rfl, by omega, p (Itr m (n - m).toNat) H2 r2 jw_range (LK.none (t.trans t2)) (t.trans t2).there⟩
        | _ => exact p.elim
      | _ => cases d2 <;> exact p.elim
end
end Rx
set_option maxHeartbeats 1000000
/-! RxP: targets; comprehensions. -/
namespace Rx
open PySem PySem.Spec PyProof.Rows L2
section
variable {Γ : Gm} {W : WX} {cl : Cl} {σ σ' σ1 σ2 : L2.St} {H H1 H' H2 : Hp} {C C' F : Addr → Prop} {E E1 E' E2 : En} {Q : VK} {X : Cx} {a b c e : Expr} {A B D' : Tm} {fa fb fc : En → ER} {pos : Pos}
/-! ### targets -/
/-- nothing but the slots ch was stored -/
def Only (ch : Nat → Prop) (σ σ' : L2.St) : Prop := σ'.length = σ.length ∧ ∀ j, ¬ ch j → σ'[j]? = σ[j]?
theorem Only.refl {ch : Nat → Prop} : Only ch σ σ := ⟨rfl, fun _ _ => rfl⟩
theorem Only.trans {ch : Nat → Prop} (h : Only ch σ σ1) (h' : Only ch σ1 σ2) : Only ch σ σ2 := ⟨h'.1.trans h.1, fun j n => (h'.2 j n).trans (h.2 j n)⟩
def PostG (Γ : Gm) (W : WX) (cl : Cl) (ch : Nat → Prop) (σ : L2.St) (H : Hp) (C : Addr → Prop) (E : En) (Q : L2.St → Hp → Prop) : Out → Prop
  | .nx E' => ∀ σ' H', Tr E σ H E' σ' H' → RE Γ H' C E' σ' → Only ch σ σ' → Q σ' H'
  | .ex c E' => ∀ σ' H', Tr E σ H E' σ' H' → RE Γ H' C E' σ' → Only ch σ σ' → W (cl c) none σ' H'
  | _ => False
/-- a shared value to a target -/
def tG (Γ : Gm) (W : WX) (cl : Cl) (ch : Nat → Prop) (f : D → En → Out) : TG := fun v σ H Q => ∃ E C d, RE Γ H C E σ ∧ Rep Γ H (Fz C E σ) d v ∧ PostG Γ W cl ch σ H C E Q (f d E)
def tGs (Γ : Gm) (W : WX) (cl : Cl) (ch : Nat → Prop) (f : List D → En → Out) : TGs := fun vs σ H Q => ∃ E C ds, RE Γ H C E σ ∧ Reps Γ H (Fz C E σ) ds vs ∧ PostG Γ W cl ch σ H C E Q (f ds E)
theorem PostG.step {ch : Nat → Prop} {Q : L2.St → Hp → Prop} {r : Out} (p : PostG Γ W cl ch σ H C E Q r) (t : Tr E σ H E1 σ1 H1) (o : Only ch σ σ1) : PostG Γ W cl ch σ1 H1 C E1 Q r := by
  cases r with
  | nx E' => exact fun σ' H' t' r' o' => p σ' H' (t.trans t') r' (o.trans o')
  | ex c E' => exact fun σ' H' t' r' o' => p σ' H' (t.trans t') r' (o.trans o')
  | _ => exact p
/-- a value is stored under a name -/
theorem RE.store {i : Nat} {d : D} {v : V} (r : RE Γ H C E σ) (hl : locked E i = false) (h : Rep Γ H (Fz C E σ) d v) : RE Γ H C (E.set i (some (.val d))) (σ.set i (some v)) ∧ Tr E σ H (E.set i (some (.val d))) (σ.set i (some v)) H := by
  have nl : ∀ b d', gt E i ≠ some (.lck b d') := fun b d' e => by unfold locked at hl; rw [e] at hl; cases hl
  have oa : ∀ j p, OA (E.set i (some (.val d))) (σ.set i (some v)) j p → j ≠ i ∧ OA E σ j p := fun j p ⟨s, g, o, e⟩ => by
    rcases gt_set g with ⟨rfl, z⟩ | ⟨n, z⟩
    · cases z; cases o
    · rw [List.getElem?_set_ne (Ne.symm n)] at e
      exact ⟨n, s, z, o, e⟩
  have st : Stay H H (Fz C E σ) (Fz C (E.set i (some (.val d))) (σ.set i (some v))) fun _ => False := .weak fun a z => by
    rcases z with z | ⟨j, z⟩
    · exact .inl z
    · exact .inr ⟨j, (oa j a z).2⟩
  refine ⟨⟨by simp [r.len], fun j s g => ?_, fun j k p h1 h2 => r.inj j k p (oa j p h1).2 (oa k p h2).2, fun j p h => r.dis j p (oa j p h).2, r.cH⟩, ?_⟩
  · rcases gt_set g with ⟨rfl, z⟩ | ⟨n, z⟩
    · cases z
      have hj : j < E.length := by have := gt_lt g; simpa using this
      exact ⟨v, by rw [List.getElem?_set_self (by rw [← r.len]; exact hj)], h.stay st⟩
    · obtain ⟨w, e, q⟩ := r.slot j s z
      refine ⟨w, by rw [List.getElem?_set_ne (Ne.symm n)]; exact e, ?_⟩
      cases s with
      | val d => exact Rep.stay q st
      | rfz d => exact Rep.stay q st
      | own d => obtain ⟨p', e', c⟩ := q; exact ⟨p', e', c.stay st id⟩
      | ref d => obtain ⟨p', e', c⟩ := q; exact ⟨p', e', c.stay st id⟩
      | lck b d => obtain ⟨p', e', c⟩ := q; exact ⟨p', e', c.stay st id⟩
  · refine ⟨fun _ _ _ e => e, fun _ e => e, fun j p d' g e => ?_, fun j b d' g => ?_, fun j b d' g => ?_, fun j d' g => ?_, fun j d' g => ?_⟩
    · rcases gt_set g with ⟨rfl, z⟩ | ⟨n, z⟩
      · cases z
      · rw [List.getElem?_set_ne (Ne.symm n)] at e; exact .inl ⟨j, d', z, e⟩
    · have n : j ≠ i := fun e => nl b d' (e ▸ g)
      exact ⟨by rw [gt_set_ne n]; exact g, List.getElem?_set_ne (Ne.symm n)⟩
    · rcases gt_set g with ⟨rfl, z⟩ | ⟨n, z⟩
      · cases z
      · exact z
    · rcases gt_set g with ⟨rfl, z⟩ | ⟨n, z⟩
      · cases z
      · exact ⟨⟨d', z⟩, List.getElem?_set_ne (Ne.symm n)⟩
    · rcases gt_set g with ⟨rfl, z⟩ | ⟨n, z⟩
      · cases z
      · exact ⟨⟨d', .inr z⟩, List.getElem?_set_ne (Ne.symm n)⟩
/-- an own object is stored under a name -/
theorem RE.storeO {i : Nat} {d : D} {p : Addr} (r : RE Γ H (fun a => C a ∨ a = p) E σ) (hl : locked E i = false) (nc : ¬ C p) (hi : i < E.length) (h : Cn true Γ H (Fz (fun a => C a ∨ a = p) E σ) d p) :
    RE Γ H C (E.set i (some (.own d))) (σ.set i (some (.ref p))) ∧ ∀ a, Fz C (E.set i (some (.own d))) (σ.set i (some (.ref p))) a → Fz (fun a => C a ∨ a = p) E σ a := by
  have oa : ∀ j q, OA (E.set i (some (.own d))) (σ.set i (some (.ref p))) j q → (j = i ∧ q = p) ∨ (j ≠ i ∧ OA E σ j q) := fun j q ⟨s, g, o, e⟩ => by
    rcases gt_set g with ⟨rfl, z⟩ | ⟨n, z⟩
    · rw [List.getElem?_set_self (by rw [← r.len]; exact hi)] at e
      cases e; exact .inl ⟨rfl, rfl⟩
    · rw [List.getElem?_set_ne (Ne.symm n)] at e
      exact .inr ⟨n, s, z, o, e⟩
  have fz : ∀ a, Fz C (E.set i (some (.own d))) (σ.set i (some (.ref p))) a → Fz (fun a => C a ∨ a = p) E σ a := fun a z => by
    rcases z with z | ⟨j, z⟩
    · exact .inl (.inl z)
    · rcases oa j a z with ⟨_, rfl⟩ | ⟨_, z⟩
      · exact .inl (.inr rfl)
      · exact .inr ⟨j, z⟩
  have st : Stay H H (Fz (fun a => C a ∨ a = p) E σ) (Fz C (E.set i (some (.own d))) (σ.set i (some (.ref p)))) fun _ => False := .weak fz
  refine ⟨⟨by simp [r.len], fun j s g => ?_, fun j k q h1 h2 => ?_, fun j q h z => ?_, fun a z => r.cH a (.inl z)⟩, fz⟩
  · rcases gt_set g with ⟨rfl, z⟩ | ⟨n, z⟩
    · cases z
      exact ⟨_, by rw [List.getElem?_set_self (by rw [← r.len]; exact hi)], p, rfl, h.stay st id⟩
    · obtain ⟨w, e, q⟩ := r.slot j s z
      refine ⟨w, by rw [List.getElem?_set_ne (Ne.symm n)]; exact e, ?_⟩
      cases s with
      | val d => exact Rep.stay q st
      | rfz d => exact Rep.stay q st
      | own d => obtain ⟨p', e', c⟩ := q; exact ⟨p', e', c.stay st id⟩
      | ref d => obtain ⟨p', e', c⟩ := q; exact ⟨p', e', c.stay st id⟩
      | lck b d => obtain ⟨p', e', c⟩ := q; exact ⟨p', e', c.stay st id⟩
  · rcases oa j q h1 with ⟨rfl, rfl⟩ | ⟨n1, q1⟩
    · rcases oa k q h2 with ⟨rfl, _⟩ | ⟨n2, q2⟩
      · rfl
      · exact absurd (.inr rfl) (r.dis k q q2)
    · rcases oa k q h2 with ⟨rfl, rfl⟩ | ⟨n2, q2⟩
      · exact absurd (.inr rfl) (r.dis j q q1)
      · exact r.inj j k q q1 q2
  · rcases oa j q h with ⟨rfl, rfl⟩ | ⟨n1, q1⟩
    · exact nc z
    · exact r.dis j q q1 (.inl z)
theorem tr_storeO {i : Nat} {d : D} {p : Addr} {H0 : Hp} (t : Tr E σ H E1 σ1 H1) (hl : locked E1 i = false) (hn : H p = none) (hi : i < E1.length) (el : E1.length = σ1.length) : Tr E σ H (E1.set i (some (.own d))) (σ1.set i (some (.ref p))) H1 := by
  have nl : ∀ b d', gt E1 i ≠ some (.lck b d') := fun b d' e => by unfold locked at hl; rw [e] at hl; cases hl
  refine ⟨t.keep, t.there, fun j q d' g e => ?_, fun j b d' g => ?_, fun j b d' g => ?_, fun j d' g => ?_, fun j d' g => ?_⟩
  · rcases gt_set g with ⟨rfl, z⟩ | ⟨n, z⟩
    · rw [List.getElem?_set_self (by rw [← el]; exact hi)] at e
      cases e; exact .inr hn
    · rw [List.getElem?_set_ne (Ne.symm n)] at e; exact t.own j q d' z e
  · obtain ⟨h1, h2⟩ := t.lck j b d' g
    have n : j ≠ i := fun e => nl b d' (e ▸ h1)
    exact ⟨by rw [gt_set_ne n]; exact h1, (List.getElem?_set_ne (Ne.symm n)).trans h2⟩
  · rcases gt_set g with ⟨rfl, z⟩ | ⟨n, z⟩
    · cases z
    · exact t.lckB j b d' z
  · rcases gt_set g with ⟨rfl, z⟩ | ⟨n, z⟩
    · cases z
    · obtain ⟨h1, h2⟩ := t.ref j d' z
      exact ⟨h1, (List.getElem?_set_ne (Ne.symm n)).trans h2⟩
  · rcases gt_set g with ⟨rfl, z⟩ | ⟨n, z⟩
    · cases z
    · obtain ⟨h1, h2⟩ := t.rfz j d' z
      exact ⟨h1, (List.getElem?_set_ne (Ne.symm n)).trans h2⟩
theorem only_set {ch : Nat → Prop} {i : Nat} {v : Option V} (h : ch i) : Only ch σ (σ.set i v) := ⟨List.length_set .., fun j n => List.getElem?_set_ne fun e => n (by rw [← e]; exact h)⟩
theorem pg_nmE {ch : Nat → Prop} {i : Nat} {x : Str} (hN : X.N.Nodup) (hi : X.N[i]? = some x) (hx : Loc X.env.scope x) (hf : X.fn x = true ∨ X.env.scope.names.lookup x = some .local) (hc : ch i) : PG X (.Name x pos) (tG Γ W cl ch fun d E => storeS E i false d) := by
  refine ⟨fun pins s σ H v u Q I r ⟨E, C, d, re, rp, p⟩ => (pg_name hN hi hx hf).run pins s σ H v u Q I r ?_⟩
  have p : PostG Γ W cl ch σ H C E Q (storeS E i false d) := p
  unfold storeS at p
  cases hl : locked E i with
  | true => rw [hl] at p; exact p.elim
  | false =>
    rw [hl, if_neg Bool.false_ne_true] at p
    obtain ⟨r1, t1⟩ := re.store hl rp
    by_cases hi : i < E.length
    · rw [if_pos hi] at p
      exact p _ H t1 r1 (only_set hc)
    · rw [if_neg hi] at p
      exact p.elim
theorem _root_.L2.PG.conseq {tg : Expr} {t t' : TG} (h : PG X tg t) (i : ∀ v σ H Q, t' v σ H Q → t v σ H Q) : PG X tg t' := ⟨fun pins s σ H v u Q I r q => h.run pins s σ H v u Q I r (i v σ H Q q)⟩
theorem _root_.L2.PGs.conseq {tg : List Expr} {t t' : TGs} (h : PGs X tg t) (i : ∀ v σ H Q, t' v σ H Q → t v σ H Q) : PGs X tg t' := ⟨fun pins s σ H v u Q I r q => h.run pins s σ H v u Q I r (i v σ H Q q)⟩
theorem pgs_nilE {ch : Nat → Prop} : PGs X [] (tGs Γ W cl ch fun ds E => match ds with
    | [] => .nx E
    | _ => .bad) := pgs_nil.conseq fun vs σ H Q ⟨E, C, ds, re, rs, p⟩ => by
  cases ds with
  | nil => exact ⟨rs.nil_inv, p σ H .refl re .refl⟩
  | cons d ds => exact p.elim
theorem pgs_consE {ch : Nat → Prop} {es : List Expr} {g : D → En → Out} {gs : List D → En → Out} (h1 : PG X e (tG Γ W cl ch g)) (h2 : PGs X es (tGs Γ W cl ch gs)) (hs : (assignEach (e :: es) X.env).map (·.2) = assign e X.env :: (assignEach es X.env).map (·.2)) : PGs X (e :: es) (tGs Γ W cl ch fun ds E => match ds with
    | x :: xs => (g x E).then (gs xs)
    | [] => .bad) := (pgs_cons h1 h2 hs).conseq fun vs σ H Q ⟨E, C, ds, re, rs, p⟩ => by
  cases ds with
  | nil => exact p.elim
  | cons d ds =>
    obtain ⟨w, ws, rfl, r1, r2⟩ := rs.cons_inv
    refine ⟨w, ws, rfl, E, C, d, re, r1, ?_⟩
    have p : PostG Γ W cl ch σ H C E Q ((g d E).then (gs ds)) := p
    cases h : g d E with
    | nx E1 =>
      rw [h] at p
      exact fun σ1 H1 t1 re1 o1 => ⟨E1, C, ds, re1, r2.stay (re.stay t1 fun a z => t1.fz' z), PostG.step (r := gs ds E1) p t1 o1⟩
    | ex c E1 => rw [h] at p; exact p
    | _ => rw [h] at p; exact p.elim
theorem pg_tupE {ch : Nat → Prop} {es : List Expr} {k n : Nat} {gs : List D → En → Out} (hK : X.K = Γ.K) (hc : X.calm = true) (h : PGs X es (tGs Γ W cl ch gs)) (hn : (assignEach es X.env).length = n) (hst : (assignEach es X.env).findIdx? (·.1) = none) :
    PG X (.Tuple es k pos) (tG Γ W cl ch fun d E => match unpk n d with
    | some xs => gs xs E
    | none => .bad) := (pg_tup hc h hn hst).conseq fun v σ H Q ⟨E, C, d, re, rp, p⟩ => by
  have p : PostG Γ W cl ch σ H C E Q (match unpk n d with
    | some xs => gs xs E
    | none => .bad) := p
  cases h : unpk n d with
  | none => rw [h] at p; exact p.elim
  | some xs =>
    rw [h] at p
    unfold unpk at h
    split at h
    · rename_i ys
      split at h
      · rename_i hl
        cases h
        obtain ⟨q, vs, rfl, _, sq, _, rs⟩ := OB.tup (.inl rp)
        dsimp only at p
        rw [show unpk n (.tup xs) = some xs from if_pos hl] at p
        exact ⟨q, vs, rfl, hK ▸ sq, by rw [rs.l]; exact hl, E, C, xs, re, rs, p⟩
      · cases h
    · cases h
theorem pg_subE {ch : Nat → Prop} {i : Nat} {x : Str} {p0 : Pos} {ix : Expr} (hK : X.K = Γ.K) (hu : X.A.units + 1 < cLine) (hN : X.N[i]? = some x) (hv : Vis X.env.scope x) (hd : (x == ("__debug__" : Str)) = false) (hcd : (x == ("__classdict__" : Str)) = false)
    (hi : PE X ix (tO Γ W cl (asVar A) fa))
    (ha : ∀ v, assign (.Subscript (.Name x p0) ix pos) X.env v = (do
      let ov ← holding [v] (eval (.Name x p0) X.env)
      let iv ← holding [v, ov] (eval ix X.env)
      standAt pos
      holding [v, ov, iv] (setItem ov iv v)
      release [v, ov, iv] [])) : PG X (.Subscript (.Name x p0) ix pos) (tG Γ W cl ch fun d E => if (gt E i).isNone then .bad else match opB (asVar A) fa E (fun y E1 => fin1 (fun k => match gt E1 i with
      | some s => (setD Γ.G s.d k d).map fun d' => (false, d')
      | none => none) y E1) with
    | .ok _ d' E1 => (match putS E1 i d' with
      | some E2 => .nx E2
      | none => .bad)
    | .ex c E1 => .ex c E1
    | .bad => .bad) := by
  have hΓ : Γ = ⟨X.K, Γ.G⟩ := by rw [hK]
  obtain ⟨t, h1, h2⟩ := ok_set (X := X) (G := Γ.G) hu
  refine (pg_sub (pe_var hN hv hd hcd) hi h1 ha).conseq fun v σ H Q ⟨E, C, d, re, rp, p⟩ => ?_
  dsimp only at p
  cases g0 : gt E i with
  | none => rw [g0] at p; exact p.elim
  | some s0 =>
    rw [g0] at p
    obtain ⟨v0, hv0, _⟩ := re.slot i s0 g0
    refine ⟨v0, hv0, ?_⟩
    -- what is wanted behind the index, told of the evaluator's result
    have p : ∃ r, r = opB (asVar A) fa E (fun y E1 => fin1 (fun k => match gt E1 i with
      | some s => (setD Γ.G s.d k d).map fun d' => (false, d')
      | none => none) y E1) ∧ PostG Γ W cl ch σ H C E Q (match r with
        | .ok _ d' E1 => (match putS E1 i d' with
          | some E2 => .nx E2
          | none => .bad)
        | .ex c E1 => .ex c E1
        | .bad => .bad) := ⟨_, rfl, p⟩
    obtain ⟨r, er, p⟩ := p
    -- at an operand's value
    have key : ∀ (y : Opd) (w : V) (E1 : En) (H1 : Hp), OpdR Γ H1 C E1 σ y w → RE Γ H1 C E1 σ → Tr E σ H E1 σ H1 → r = fin1 (fun k => match gt E1 i with
      | some s => (setD Γ.G s.d k d).map fun d' => (false, d')
      | none => none) y E1 → t v0 w v H1 fun H3 => Q σ H3 := fun y w E1 H1 hy r1 t1 e => by
      subst e
      unfold fin1 at p
      cases hf : fetch E1 y with
      | none => rw [hf] at p; exact p.elim
      | some k =>
        rw [hf] at p
        dsimp only at p
        cases g1 : gt E1 i with
        | none => rw [g1] at p; exact p.elim
        | some s =>
          rw [g1] at p
          dsimp only at p
          cases hs : setD Γ.G s.d k d with
          | none => rw [hs] at p; exact p.elim
          | some d' =>
            rw [hs] at p
            dsimp only [Option.map] at p
            cases hp : putS E1 i d' with
            | none => rw [hp] at p; exact p.elim
            | some E2 =>
              rw [hp] at p
              obtain ⟨s2, s1, g2, hsl, rfl⟩ := putS_inv hp
              rw [g1] at g2; cases g2
              obtain ⟨w', hw', qs⟩ := r1.slot i s g1
              rw [hv0] at hw'; cases hw'
              have cn : ∃ p, v0 = .ref p ∧ Cn true Γ H1 (Fz C E1 σ) s.d p := by
                rcases hsl with ⟨d0, rfl, _⟩ | ⟨d0, rfl, _⟩ <;> exact qs
              obtain ⟨pp, rfl, cn⟩ := cn
              have fp : Fz C E1 σ pp := .inr ⟨i, s, g1, by rcases hsl with ⟨d0, rfl, _⟩ | ⟨d0, rfl, _⟩ <;> rfl, hv0⟩
              have rp1 : Rep Γ H1 (Fz C E1 σ) d v := rp.stay (re.stay t1 fun a z => t1.fz' z)
              refine h2 H1 (Fz C E1 σ) pp s.d k d d' w v _ fp (hΓ ▸ cn) (hΓ ▸ hy.fetch r1 hf) (hΓ ▸ rp1) hs fun H3 kp nn c2 => ?_
              obtain ⟨r2, t2⟩ := r1.put (H' := H3) (d' := d') g1 hsl hv0 kp nn (hΓ ▸ c2)
              exact p σ H3 (t1.trans t2) r2 .refl
    cases q : asVar A with
    | some j =>
      rw [q] at er
      unfold opB at er
      dsimp only at er
      cases gj : gt E j with
      | none => rw [gj] at er; subst er; exact p.elim
      | some sj =>
        rw [gj] at er
        obtain ⟨w, hw, _⟩ := re.slot j sj gj
        exact ⟨w, hw, key (.sl j) w E H hw re .refl er⟩
    | none =>
      rw [q] at er
      have er : r = (fa E).bind fun _ d2 E' => fin1 (fun k => match gt E' i with
      | some s => (setD Γ.G s.d k d).map fun d' => (false, d')
      | none => none) (.dt d2) E' := er
      refine ⟨E, C, re, ?_⟩
      cases h : fa E with
      | bad => rw [h] at er; subst er; exact p.elim
      | ex c E1 => rw [h] at er; subst er; exact fun H' t' r' => p σ H' t' r' .refl
      | ok o d2 E1 =>
        rw [h] at er
        intro w H1 t1 vr
        obtain ⟨r1, rp1⟩ := vr.share
        exact key (.dt d2) w E1 H1 rp1 r1 t1 er
end
end Rx
set_option maxHeartbeats 1000000
/-! RxQ: comprehensions. -/
namespace Rx
open PySem PySem.Spec PyProof.Rows L2
section
variable {Γ : Gm} {W : WX} {cl : Cl} {σ σ' σ1 σ2 : L2.St} {H H1 H' H2 : Hp} {C C' F : Addr → Prop} {E E1 E' E2 : En} {Q : VK} {X : Cx} {a b c e : Expr} {A B D' : Tm} {fa fb fc : En → ER} {pos : Pos} {vs : List Nat}
theorem len_wipeE : ∀ vs : List Nat, (wipeE E vs).length = E.length
  | [] => rfl
  | v :: vs => by unfold wipeE; rw [List.length_set]; exact len_wipeE vs
theorem gt_wipeE {j : Nat} {s : Sl} : ∀ {vs : List Nat}, gt (wipeE E vs) j = some s ↔ j ∉ vs ∧ gt E j = some s
  | [] => by simp [wipeE]
  | v :: vs => by
    have ih := @gt_wipeE j s vs
    show gt ((wipeE E vs).set v none) j = some s ↔ _
    constructor
    · intro h
      rcases gt_set h with ⟨rfl, z⟩ | ⟨n, z⟩
      · cases z
      · obtain ⟨h1, h2⟩ := ih.mp z
        exact ⟨by simp [n, h1], h2⟩
    · rintro ⟨h1, h2⟩
      have n : j ≠ v := fun e => h1 (by simp [e])
      rw [gt_set_ne n]
      exact ih.mpr ⟨fun m => h1 (by simp [m]), h2⟩
theorem at_wipe {j : Nat} : ∀ {vs : List Nat}, j ∉ vs → (wipe σ vs)[j]? = σ[j]?
  | [], _ => rfl
  | v :: vs, h => by
    have n : v ≠ j := fun e => h (by simp [e])
    show ((wipe σ vs).set v none)[j]? = _
    rw [List.getElem?_set_ne n]
    exact at_wipe fun m => h (by simp [m])
theorem len_restE {E0 : En} : ∀ vs : List Nat, (restE E0 vs E).length = E.length
  | [] => rfl
  | v :: vs => by unfold restE; rw [List.length_set]; exact len_restE vs
theorem gt_restE {E0 : En} (hl : E0.length = E.length) {j : Nat} : ∀ {vs : List Nat}, gt (restE E0 vs E) j = if j ∈ vs then gt E0 j else gt E j
  | [] => by simp [restE]
  | v :: vs => by
    have ih := @gt_restE E0 hl j vs
    show gt ((restE E0 vs E).set v (E0[v]?.getD none)) j = _
    by_cases e : j = v
    · subst e
      rw [if_pos (by simp)]
      by_cases hj : j < E.length
      · rw [gt_set_at (by rw [len_restE]; exact hj)]
        unfold gt
        rw [List.getElem?_eq_getElem (by rw [hl]; exact hj)]
        cases E0[j] <;> rfl
      · have h1 : gt ((restE E0 vs E).set j (E0[j]?.getD none)) j = none := by
          unfold gt
          rw [List.getElem?_eq_none (by rw [List.length_set, len_restE]; omega)]
        have h2 : gt E0 j = none := by
          unfold gt
          rw [List.getElem?_eq_none (by omega)]
        rw [h1, h2]
    · rw [gt_set_ne e, ih]
      by_cases m : j ∈ vs
      · rw [if_pos m, if_pos (by simp [m])]
      · rw [if_neg m, if_neg (by simp [e, m])]
/-- the own names of a block hold nothing that may be changed -/
def NoMut (E : En) (vs : List Nat) : Prop := ∀ j ∈ vs, ∀ b d, gt E j ≠ some (.lck b d)
theorem tr_wipe (n : NoMut E vs) : Tr E σ H (wipeE E vs) (wipe σ vs) H where
  keep := fun _ _ _ e => e
  there := fun _ e => e
  own := fun j p d g e => by
    obtain ⟨h1, h2⟩ := gt_wipeE.mp g
    exact .inl ⟨j, d, h2, by rw [at_wipe h1] at e; exact e⟩
  lck := fun j b d g => by
    have h1 : j ∉ vs := fun m => n j m b d g
    exact ⟨gt_wipeE.mpr ⟨h1, g⟩, at_wipe h1⟩
  lckB := fun j b d g => (gt_wipeE.mp g).2
  ref := fun j d g => by
    obtain ⟨h1, h2⟩ := gt_wipeE.mp g
    exact ⟨⟨d, h2⟩, at_wipe h1⟩
  rfz := fun j d g => by
    obtain ⟨h1, h2⟩ := gt_wipeE.mp g
    exact ⟨⟨d, .inr h2⟩, at_wipe h1⟩
theorem oa_wipe {j : Nat} {p : Addr} (h : OA (wipeE E vs) (wipe σ vs) j p) : OA E σ j p := by
  obtain ⟨s, g, o, e⟩ := h
  obtain ⟨h1, h2⟩ := gt_wipeE.mp g
  exact ⟨s, h2, o, by rw [at_wipe h1] at e; exact e⟩
theorem RE.wipe (r : RE Γ H C E σ) (vs : List Nat) : RE Γ H C (wipeE E vs) (L2.wipe σ vs) := by
  have st : Stay H H (Fz C E σ) (Fz C (wipeE E vs) (L2.wipe σ vs)) fun _ => False := .weak fun a z => by
    rcases z with z | ⟨j, z⟩
    · exact .inl z
    · exact .inr ⟨j, oa_wipe z⟩
  refine ⟨by rw [len_wipeE, wipe_length]; exact r.len, fun j s g => ?_, fun i j p h1 h2 => r.inj i j p (oa_wipe h1) (oa_wipe h2), fun j p h => r.dis j p (oa_wipe h), r.cH⟩
  obtain ⟨h1, h2⟩ := gt_wipeE.mp g
  obtain ⟨v, e, q⟩ := r.slot j s h2
  refine ⟨v, by rw [at_wipe h1]; exact e, ?_⟩
  cases s with
  | val d => exact Rep.stay q st
  | rfz d => exact Rep.stay q st
  | own d => obtain ⟨p', e', c⟩ := q; exact ⟨p', e', c.stay st id⟩
  | ref d => obtain ⟨p', e', c⟩ := q; exact ⟨p', e', c.stay st id⟩
  | lck b d => obtain ⟨p', e', c⟩ := q; exact ⟨p', e', c.stay st id⟩
theorem wipe_ext (o : Only (· ∈ vs) (wipe σ vs) σ2) : wipe σ2 vs = wipe σ vs := by
  have key : ∀ ws : List Nat, (∀ j, j ∉ ws → σ2[j]? = (wipe σ vs)[j]?) → σ2.length = σ.length → ∀ j, (wipe σ2 ws)[j]? = (wipe (wipe σ vs) ws)[j]? := fun ws => by
    induction ws with
    | nil => exact fun h _ j => h j (by simp)
    | cons w ws ih =>
      intro h hl j
      show ((wipe σ2 ws).set w none)[j]? = ((wipe (wipe σ vs) ws).set w none)[j]?
      by_cases e : w = j
      · subst e
        by_cases hj : w < σ2.length
        · rw [List.getElem?_set_self (by rw [wipe_length]; exact hj), List.getElem?_set_self (by rw [wipe_length, wipe_length, ← hl]; exact hj)]
        · rw [List.getElem?_eq_none (by rw [List.length_set, wipe_length]; omega), List.getElem?_eq_none (by rw [List.length_set, wipe_length, wipe_length, ← hl]; omega)]
      · rw [List.getElem?_set_ne e, List.getElem?_set_ne e]
        by_cases hj : j ∈ ws
        · -- both wiped there
          have z : ∀ (τ : L2.St) (us : List Nat), j ∈ us → (wipe τ us)[j]? = if j < τ.length then some none else none := fun τ us => by
            induction us with
            | nil => intro h; cases h
            | cons u us ihu =>
              intro hm
              show ((wipe τ us).set u none)[j]? = _
              by_cases eu : u = j
              · subst eu
                by_cases hlt : u < τ.length
                · rw [List.getElem?_set_self (by rw [wipe_length]; exact hlt), if_pos hlt]
                · rw [List.getElem?_eq_none (by rw [List.length_set, wipe_length]; omega), if_neg hlt]
              · rw [List.getElem?_set_ne eu]
                rcases List.mem_cons.mp hm with z | z
                · exact absurd z.symm eu
                · exact ihu z
          rw [z _ ws hj, z _ ws hj, wipe_length, hl]
        · rw [at_wipe hj, at_wipe hj]
          exact h j (by simp [Ne.symm e, hj])
  have idem : ∀ j, (wipe (wipe σ vs) vs)[j]? = (wipe σ vs)[j]? := fun j => by
    by_cases hj : j ∈ vs
    · have z : ∀ (τ : L2.St) (us : List Nat), j ∈ us → (wipe τ us)[j]? = if j < τ.length then some none else none := fun τ us => by
        induction us with
        | nil => intro h; cases h
        | cons u us ihu =>
          intro hm
          show ((wipe τ us).set u none)[j]? = _
          by_cases eu : u = j
          · subst eu
            by_cases hlt : u < τ.length
            · rw [List.getElem?_set_self (by rw [wipe_length]; exact hlt), if_pos hlt]
            · rw [List.getElem?_eq_none (by rw [List.length_set, wipe_length]; omega), if_neg hlt]
          · rw [List.getElem?_set_ne eu]
            rcases List.mem_cons.mp hm with z | z
            · exact absurd z.symm eu
            · exact ihu z
      rw [z _ vs hj, z _ vs hj, wipe_length]
    · exact at_wipe hj
  refine List.ext_getElem? fun j => ?_
  rw [← idem j]
  exact key vs o.2 (by rw [o.1, wipe_length]) j
/-- the callers' or the new list's object changes -/
theorem RE.updC {p : Addr} {o o' : L2.HO} (r : RE Γ H C E σ) (hc : C p) (h : H p = some o) (m : MutK H p) : RE Γ (upd H p o') C E σ ∧ Stay H (upd H p o') (Fz C E σ) (Fz C E σ) (fun a => a = p) := by
  have st : Stay H (upd H p o') (Fz C E σ) (Fz C E σ) (fun a => a = p) :=
    ⟨fun a ob n e => by rw [upd_ne n]; exact e, fun a e => by rw [e]; exact .inl hc, fun a e => by rw [e]; exact m, fun a z => .inl z⟩
  have nm : ∀ j s q, gt E j = some s → s.ow = true → σ[j]? = some (some (.ref q)) → q ≠ p := fun j s q g o' e z => r.dis j q ⟨s, g, o', e⟩ (z ▸ hc)
  refine ⟨⟨r.len, fun j s g => ?_, r.inj, r.dis, fun a z => ?_⟩, st⟩
  · obtain ⟨v, e, q⟩ := r.slot j s g
    refine ⟨v, e, ?_⟩
    cases s with
    | val d => exact Rep.stay q st
    | rfz d => exact Rep.stay q st
    | own d => obtain ⟨p', e', c⟩ := q; exact ⟨p', e', c.stay st (nm j _ p' g rfl (e' ▸ e))⟩
    | ref d => obtain ⟨p', e', c⟩ := q; exact ⟨p', e', c.stay st (nm j _ p' g rfl (e' ▸ e))⟩
    | lck b d => obtain ⟨p', e', c⟩ := q; exact ⟨p', e', c.stay st (nm j _ p' g rfl (e' ▸ e))⟩
  · by_cases e : a = p
    · rw [e, upd_same]; exact nofun
    · rw [upd_ne e]; exact r.cH a z
theorem Tr.updNew {p : Addr} {o : L2.HO} (t : Tr E σ H E' σ' H') (n : H p = none) : Tr E σ H E' σ' (upd H' p o) :=
  { t with
    keep := fun a ob nm e => by
      have : a ≠ p := ne_of_none e n
      rw [upd_ne this]; exact t.keep a ob nm e
    there := fun a z => by
      by_cases e : a = p
      · rw [e, upd_same]; exact nofun
      · rw [upd_ne e]; exact t.there a z }
/-- the block is left -/
theorem rest_ok (r1 : RE Γ H1 C E1 σ) (hcalm : calmE E1 vs = true) (t : Tr (wipeE E1 vs) (wipe σ vs) H1 E' (wipe σ vs) H') (hw : ∀ j s, gt E' j = some s → j ∉ vs) (r : RE Γ H' C' E' (wipe σ vs)) (hC : ∀ a, C' a → C a ∨ H1 a = none) :
    Tr E1 σ H1 (restE E1 vs E') σ H' ∧ RE Γ H' C' (restE E1 vs E') σ ∧ ∀ a, Fz C' (restE E1 vs E') σ a → Fz C' E' (wipe σ vs) a := by
  have hl : E1.length = E'.length := by rw [r1.len, r.len, wipe_length]
  have cm : ∀ j ∈ vs, ∀ s, gt E1 j = some s → ∃ d, s = .val d := fun j m s g => by
    have := List.all_eq_true.mp hcalm j m
    rw [g] at this
    cases s with
    | val d => exact ⟨d, rfl⟩
    | _ => cases this
  have nm : NoMut E1 vs := fun j m b d g => by
    obtain ⟨d', z⟩ := cm j m _ g
    cases z
  have gr : ∀ j, gt (restE E1 vs E') j = if j ∈ vs then gt E1 j else gt E' j := fun j => gt_restE hl
  have out : ∀ j s, gt (restE E1 vs E') j = some s → (∃ d, s = .val d) ∨ (j ∉ vs ∧ gt E' j = some s) := fun j s g => by
    rw [gr] at g
    by_cases m : j ∈ vs
    · rw [if_pos m] at g; exact .inl (cm j m s g)
    · rw [if_neg m] at g; exact .inr ⟨m, g⟩
  have tw : Tr E1 σ H1 E' (wipe σ vs) H' := (tr_wipe nm).trans t
  have oa : ∀ j p, OA (restE E1 vs E') σ j p → OA E' (wipe σ vs) j p := fun j p ⟨s, g, o, e⟩ => by
    rcases out j s g with ⟨d, rfl⟩ | ⟨m, g'⟩
    · cases o
    · exact ⟨s, g', o, by rw [at_wipe m]; exact e⟩
  have fz : ∀ a, Fz C' (restE E1 vs E') σ a → Fz C' E' (wipe σ vs) a := fun a z => by
    rcases z with z | ⟨j, z⟩
    · exact .inl z
    · exact .inr ⟨j, oa j a z⟩
  refine ⟨⟨tw.keep, tw.there, fun j p d g e => ?_, fun j b d g => ?_, fun j b d g => ?_, fun j d g => ?_, fun j d g => ?_⟩, ⟨?_, fun j s g => ?_, fun i j p h1 h2 => r.inj i j p (oa i p h1) (oa j p h2), fun j p h => r.dis j p (oa j p h), r.cH⟩, fz⟩
  · rcases out j _ g with ⟨d', z⟩ | ⟨m, g'⟩
    · cases z
    · exact tw.own j p d g' (by rw [at_wipe m]; exact e)
  · have m : j ∉ vs := fun m => nm j m b d g
    rw [gr, if_neg m]
    exact ⟨(tw.lck j b d g).1, rfl⟩
  · rcases out j _ g with ⟨d', z⟩ | ⟨m, g'⟩
    · cases z
    · exact tw.lckB j b d g'
  · rcases out j _ g with ⟨d', z⟩ | ⟨m, g'⟩
    · cases z
    · exact ⟨(tw.ref j d g').1, rfl⟩
  · rcases out j _ g with ⟨d', z⟩ | ⟨m, g'⟩
    · cases z
    · exact ⟨(tw.rfz j d g').1, rfl⟩
  · rw [len_restE, ← hl]; exact r1.len
  · rw [gr] at g
    by_cases m : j ∈ vs
    · rw [if_pos m] at g
      obtain ⟨d, rfl⟩ := cm j m s g
      obtain ⟨v, e, q⟩ := r1.slot j _ g
      refine ⟨v, e, ?_⟩
      have q : Rep Γ H1 (Fz C E1 σ) d v := q
      refine q.stay (r1.stay tw fun a z => ?_)
      rcases fz a z with z | z
      · exact (hC a z).imp .inl id
      · exact tw.fz' (C := C) (.inr z)
    · rw [if_neg m] at g
      obtain ⟨v, e, q⟩ := r.slot j s g
      refine ⟨v, by rw [at_wipe m] at e; exact e, ?_⟩
      have st : Stay H' H' (Fz C' E' (wipe σ vs)) (Fz C' (restE E1 vs E') σ) fun _ => False := .weak fz
      cases s with
      | val d => exact Rep.stay q st
      | rfz d => exact Rep.stay q st
      | own d => obtain ⟨p', e', c⟩ := q; exact ⟨p', e', c.stay st id⟩
      | ref d => obtain ⟨p', e', c⟩ := q; exact ⟨p', e', c.stay st id⟩
      | lck b d => obtain ⟨p', e', c⟩ := q; exact ⟨p', e', c.stay st id⟩
/-- nothing may leave a block by an exception -/
abbrev W0 : WX := fun _ _ _ _ => False
theorem RE.notMu {a : Addr} (r : RE Γ H C E σ) (c : C a) : ¬ Mu E σ a := fun ⟨j, s, g, h2, e⟩ => r.dis j a ⟨s, g, by rcases h2 with ⟨_, rfl⟩ | ⟨_, rfl⟩ <;> rfl, e⟩ c
/-- a walk, something more known of the state -/
def tWP (Γ : Gm) (W : WX) (cl : Cl) (P : En → L2.St → Hp → Prop) (f : En → IR) : TI := fun σ H R => ∃ E C, RE Γ H C E σ ∧ P E σ H ∧ PostI Γ W cl σ H C E R (f E)
theorem lc_ofP {P : En → L2.St → Hp → Prop} {fw : En → IR} {ft : D → En → Out} {fc fe : En → ER} : ∀ σ H Q, (∃ E C, RE Γ H C E σ ∧ P E σ H ∧ Post Γ W cl σ H C E Q ((fw E).comp vs fun xs E1 => compL vs ft fc fe xs [] E1)) →
    tLc (tWP Γ W cl P fw) (tG Γ W0 cl (· ∈ vs) ft) (tIT Γ W0 cl fc) (tI Γ W0 cl fe) vs σ H Q := by
  intro σ H Q ⟨E, C, re, hP, p⟩
  refine ⟨E, C, re, hP, ?_⟩
  cases hw : fw E with
  | bad => rw [hw] at p; exact p
  | ex c E1 => rw [hw] at p; exact p
  | ok xs lk E1 =>
    rw [hw] at p
    intro J H1 r1 jw lk1 th Dq hD
    dsimp only [IR.comp] at p
    cases hcalm : calmE E1 vs with
    | false => rw [hcalm] at p; exact p.elim
    | true =>
      rw [hcalm, if_pos rfl] at p
      have nm1 : NoMut E1 vs := fun j m b d g => by
        have := List.all_eq_true.mp hcalm j m
        rw [g] at this
        cases this
      -- the loop's end is given
      have p : ∃ r0, r0 = compL vs ft fc fe xs [] E1 ∧ Post Γ W cl σ H C E Q (match r0 with
        | .ok o d E' => .ok o d (unlockAll lk (restE E1 vs E'))
        | _ => .bad) := ⟨_, rfl, p⟩
      obtain ⟨r0, er0, p⟩ := p
      let C2 : Addr → Prop := fun a => C a ∨ a = Dq
      let Iv : Nat → Hp → Prop := fun i H2 => ∃ E2 acc us, RE Γ H2 C2 (wipeE E2 vs) (wipe σ vs) ∧ Tr (wipeE E1 vs) (wipe σ vs) H1 (wipeE E2 vs) (wipe σ vs) H2 ∧ H2 Dq = some (.lst us) ∧ Reps Γ H2 (Fz C2 (wipeE E2 vs) (wipe σ vs)) acc us ∧ acc.length ≤ SZ ∧ r0 = compL vs ft fc fe (xs.drop i) acc E2
      have hC2 : ∀ a, C2 a → C a ∨ H1 a = none := fun a z => z.imp id fun z => by rw [z]; exact hD
      refine ⟨fun i m H2 => m = xs.length - i ∧ i ≤ xs.length ∧ Iv i H2, ⟨xs.length, by simp, Nat.zero_le _, E1, [], [], ?_, ?_, upd_same, .nil, by show 0 ≤ SZ; exact Nat.zero_le _, er0⟩, ?_⟩
      · refine (r1.wipe vs).grow (same_upd' hD) hC2 fun a z => ?_
        rcases z with z | z
        · rw [upd_ne (fun e => r1.cH a z (by rw [e]; exact hD))]; exact r1.cH a z
        · rw [z, upd_same]; exact nofun
      · exact Tr.refl.updNew hD
      · rintro i m H2 ⟨rfl, hi, E2, acc, us, r2, t2, hD2, ra, za, e0⟩
        have tE : Tr E1 σ H1 (wipeE E2 vs) (wipe σ vs) H2 := (tr_wipe nm1).trans t2
        obtain ⟨jw1, jw2⟩ := jw C2 _ _ H2 hC2 tE r2
        by_cases hlt : i < xs.length
        · have ei : xs[i]? = some xs[i] := List.getElem?_eq_getElem hlt
          obtain ⟨go, yl⟩ := jw1 i _ ei
          refine .inr ⟨go, Iv (i + 1), fun H3 iv => ⟨xs.length - (i + 1), by omega, rfl, hlt, iv⟩, fun x H3 y => ?_⟩
          obtain ⟨sm, rx⟩ := yl x H3 y
          have t3 : Tr (wipeE E2 vs) (wipe σ vs) H2 (wipeE E2 vs) (wipe σ vs) H3 := .grow sm
          have r3 : RE Γ H3 C2 (wipeE E2 vs) (wipe σ vs) := r2.grow sm (fun a z => .inl z) fun a z => t3.there a (r2.cH a z)
          rw [List.drop_eq_getElem_cons hlt] at e0
          unfold compL at e0
          refine ⟨wipeE E2 vs, C2, xs[i], r3, rx, ?_⟩
          have bad : r0 ≠ .bad := fun z => by rw [z] at p; exact p
          cases ht : ft xs[i] (wipeE E2 vs) with
          | nx E3 =>
            rw [ht] at e0
            dsimp only at e0
            intro σ4 H4 t4 r4 o4
            have ew : wipe σ4 vs = wipe σ vs := wipe_ext o4
            refine ⟨ew, E3, C2, r4, ?_⟩
            cases hc : fc E3 with
            | bad => rw [hc] at e0; exact bad e0
            | ex c E4 => rw [hc] at e0; exact absurd e0 bad
            | ok o5 d5 E4 =>
              rw [hc] at e0
              cases d5 with
              | bl b5 =>
                intro H5 t5 r5
                have nmut : NoMut E4 vs := fun j m b d g => by
                  have g1 := t4.lckB j b d (t5.lckB j b d g)
                  exact (gt_wipeE.mp g1).1 m
                cases b5 with
                | false =>
                  rw [if_neg Bool.false_ne_true]
                  dsimp only at e0
                  have t6 : Tr (wipeE E2 vs) (wipe σ vs) H2 (wipeE E4 vs) (wipe σ vs) H5 := by
                    have := ((t3.trans t4).trans t5).trans (tr_wipe nmut)
                    rwa [ew] at this
                  have r6 := r5.wipe vs
                  rw [ew] at r6
                  refine ⟨E4, acc, us, r6, t2.trans t6, ?_, ra.stay (r2.stay t6 fun a z => t6.fz' z), za, e0⟩
                  exact t6.keep Dq _ (r2.notMu (.inr rfl)) hD2
                | true =>
                  rw [if_pos rfl]
                  dsimp only at e0
                  refine ⟨E4, C2, r5, ?_⟩
                  cases he : fe E4 with
                  | bad => rw [he] at e0; exact bad e0
                  | ex c E5 => rw [he] at e0; exact absurd e0 bad
                  | ok o6 d6 E5 =>
                    rw [he] at e0
                    dsimp only at e0
                    intro v H6 t6 vr
                    obtain ⟨r6, rp⟩ := vr.share
                    have nmut : NoMut E5 vs := fun j m b d g => by
                      have g1 := t4.lckB j b d (t5.lckB j b d (t6.lckB j b d g))
                      exact (gt_wipeE.mp g1).1 m
                    by_cases hz : acc.length < SZ
                    · rw [if_pos hz] at e0
                      have t7 : Tr (wipeE E2 vs) (wipe σ vs) H2 (wipeE E5 vs) (wipe σ vs) H6 := by
                        have := (((t3.trans t4).trans t5).trans t6).trans (tr_wipe nmut)
                        rwa [ew] at this
                      have hD6 : H6 Dq = some (.lst us) := t7.keep Dq _ (r2.notMu (.inr rfl)) hD2
                      have ra6 : Reps Γ H6 (Fz C2 (wipeE E5 vs) (wipe σ vs)) acc us := ra.stay (r2.stay t7 fun a z => t7.fz' z)
                      have r7 := r6.wipe vs
                      rw [ew] at r7
                      obtain ⟨r8, st8⟩ := r7.updC (p := Dq) (o' := .lst (us ++ [v])) (.inr rfl) hD6 (.inl ⟨_, hD6⟩)
                      have rv : Rep Γ H6 (Fz C2 (wipeE E5 vs) (wipe σ vs)) d6 v := rp.stay (.weak fun a z => by
                        rcases z with z | ⟨j, z⟩
                        · exact .inl z
                        · rw [← ew] at z; exact .inr ⟨j, oa_wipe z⟩)
                      refine ⟨us, hD6, ?_, E5, acc ++ [d6], us ++ [v], r8, (t2.trans t7).updNew hD, upd_same, (ra6.append (.cons rv .nil)).stay st8, ?_, e0⟩
                      · rw [ra.l, ← sz_line]; exact hz
                      · rw [List.length_append]; exact hz
                    · rw [if_neg hz] at e0; exact absurd e0 bad
              | _ => exact absurd e0 bad
          | _ => rw [ht] at e0; exact absurd e0 bad
        · have ei : i = xs.length := by omega
          subst ei
          rw [List.drop_length] at e0
          unfold compL at e0
          refine .inl ⟨jw2, ?_⟩
          subst e0
          dsimp only at p
          obtain ⟨t5, r5, f5⟩ := rest_ok r1 hcalm t2 (fun j s g => (gt_wipeE.mp g).1) r2 hC2
          obtain ⟨t6, r6, f6⟩ := lk1 C2 _ σ H2 t5 r5
          refine p _ H2 t6 ⟨Dq, rfl, ?_, fun z => r1.cH Dq z hD, r6, us, hD2, za, ra.stay (.weak fun a z => f5 a ((f6 a).mp z))⟩
          cases q : H Dq with
          | none => rfl
          | some o => exact absurd hD (th Dq (by rw [q]; exact nofun))
theorem lc_of {fw : En → IR} {ft : D → En → Out} {fc fe : En → ER} : ∀ σ H Q, tI Γ W cl (fun E => (fw E).comp vs fun xs E1 => compL vs ft fc fe xs [] E1) σ H Q →
    tLc (tW Γ W cl fw) (tG Γ W0 cl (· ∈ vs) ft) (tIT Γ W0 cl fc) (tI Γ W0 cl fe) vs σ H Q := by
  intro σ H Q ⟨E, C, re, p⟩
  obtain ⟨E', C', re', _, q⟩ := lc_ofP (P := fun _ _ _ => True) σ H Q ⟨E, C, re, trivial, p⟩
  exact ⟨E', C', re', q⟩
end
end Rx
set_option maxHeartbeats 1000000
/-! RxQ2: comprehensions over dictionaries. -/
namespace Rx
open PySem PySem.Spec PyProof.Rows L2
section
variable {Γ : Gm} {W : WX} {cl : Cl} {σ σ' σ1 : L2.St} {H H1 H' H2 : Hp} {C C' F : Addr → Prop} {E E1 E' E2 : En} {Q : VK} {X : Cx} {a b c e : Expr} {A B D' : Tm} {fa fb fc : En → ER} {pos : Pos} {vs : List Nat}
/-- the object of a slot is changed, the slot with it -/
theorem RE.reslot {i : Nat} {s0 s1 : Sl} {p : Addr} (r : RE Γ H C E σ) (g : gt E i = some s0) (ow0 : s0.ow = true) (ow1 : s1.ow = true) (hv : σ[i]? = some (some (.ref p))) (mk : MutK H p)
    (keep : ∀ a o, a ≠ p → H a = some o → H' a = some o) (np : H' p ≠ none) (c : ∀ F, (∀ a, F a → Fz C E σ a) → F p → SlR Γ H' F s1 (.ref p)) :
    RE Γ H' C (E.set i (some s1)) σ ∧ (∀ q, Fz C (E.set i (some s1)) σ q ↔ Fz C E σ q) ∧ Stay H H' (Fz C E σ) (Fz C (E.set i (some s1)) σ) (fun a => a = p) := by
  have op : OA E σ i p := ⟨s0, g, ow0, hv⟩
  have oa : ∀ j q, OA (E.set i (some s1)) σ j q → OA E σ j q := fun j q ⟨s, g', o, e⟩ => by
    rcases gt_set g' with ⟨rfl, z⟩ | ⟨n, z⟩
    · exact ⟨s0, g, ow0, e⟩
    · exact ⟨s, z, o, e⟩
  have oa' : ∀ j q, OA E σ j q → OA (E.set i (some s1)) σ j q := fun j q ⟨s, g', o, e⟩ => by
    by_cases hj : j = i
    · subst hj
      exact ⟨s1, gt_set_self g, ow1, e⟩
    · exact ⟨s, by rw [gt_set_ne hj]; exact g', o, e⟩
  have fz : ∀ q, Fz C (E.set i (some s1)) σ q ↔ Fz C E σ q := fun q => ⟨fun z => by
    rcases z with z | ⟨j, z⟩
    · exact .inl z
    · exact .inr ⟨j, oa j q z⟩, fun z => by
    rcases z with z | ⟨j, z⟩
    · exact .inl z
    · exact .inr ⟨j, oa' j q z⟩⟩
  have st : Stay H H' (Fz C E σ) (Fz C (E.set i (some s1)) σ) (fun a => a = p) :=
    ⟨fun a o n e => keep a o n e, fun a e => by rw [e]; exact .inr ⟨i, op⟩, fun a e => by rw [e]; exact mk, fun a z => .inl ((fz a).mp z)⟩
  refine ⟨⟨by rw [List.length_set]; exact r.len, fun j s g' => ?_, fun j k q h1 h2 => r.inj j k q (oa j q h1) (oa k q h2), fun j q o => r.dis j q (oa j q o), fun a z => ?_⟩, fz, st⟩
  · rcases gt_set g' with ⟨rfl, z⟩ | ⟨n, z⟩
    · cases z
      exact ⟨_, hv, c _ (fun a z => (fz a).mp z) (.inr ⟨j, oa' j p op⟩)⟩
    · obtain ⟨v, e, q⟩ := r.slot j s z
      refine ⟨v, e, ?_⟩
      have ne : ∀ p', v = .ref p' → s.ow = true → p' ≠ p := fun p' ev ho ep => by
        subst ev
        rw [ep] at e
        exact n (r.inj j i p ⟨s, z, ho, e⟩ op)
      cases s with
      | val d => exact Rep.stay q st
      | rfz d => exact Rep.stay q st
      | own d => obtain ⟨p', e', c⟩ := q; exact ⟨p', e', c.stay st (ne p' e' rfl)⟩
      | ref d => obtain ⟨p', e', c⟩ := q; exact ⟨p', e', c.stay st (ne p' e' rfl)⟩
      | lck b d => obtain ⟨p', e', c⟩ := q; exact ⟨p', e', c.stay st (ne p' e' rfl)⟩
  · by_cases e : a = p
    · rw [e]; exact np
    · intro z
      cases q : H a with
      | none => exact r.cH a ‹C a› q
      | some o => rw [keep a o e q] at z; cases z
/-- a dictionary's slot is locked, its object frozen -/
def FzD (i : Nat) (d : Addr) (od : Obj) (kvs : List (Key × V)) (E : En) (σ : L2.St) (H : Hp) : Prop := (∃ b ks ds, gt E i = some (.lck b (.dk ks ds))) ∧ σ[i]? = some (some (.ref d)) ∧ H d = some (.frz od (.dK kvs))
theorem not_mu_lck {i : Nat} {d : Addr} {b : Bool} {dd : D} (r : RE Γ H C E σ) (g : gt E i = some (.lck b dd)) (e : σ[i]? = some (some (.ref d))) : ¬ Mu E σ d := fun ⟨j, s, g', hs, e'⟩ => by
  have ow : s.ow = true := by rcases hs with ⟨_, rfl⟩ | ⟨_, rfl⟩ <;> rfl
  have := r.inj j i d ⟨s, g', ow, e'⟩ ⟨_, g, rfl, e⟩
  subst this
  rw [g] at g'
  cases g'
  rcases hs with ⟨_, z⟩ | ⟨_, z⟩ <;> cases z
/-- a dictionary's rows -/
theorem jw_dict {i : Nat} {d : Addr} {od : Obj} {b : Bool} {ks : List Key} {ds : List D} {kvs : List (Key × V)} (r : RE Γ H C E σ) (g : gt E i = some (.lck b (.dk ks ds))) (e : σ[i]? = some (some (.ref d))) (hd : H d = some (.frz od (.dK kvs))) :
    ∀ C' E2 σ2 H2, Tr E σ H E2 σ2 H2 → RE Γ H2 C' E2 σ2 → H2 d = some (.frz od (.dK kvs)) ∧ kvs.map (·.1) = ks ∧ ks.length = ds.length ∧ Reps Γ H2 (Fz C' E2 σ2) ds (kvs.map (·.2)) := fun C' E2 σ2 H2 t r2 => by
  have h2 := t.keep d _ (not_mu_lck r g e) hd
  obtain ⟨g2, e2⟩ := t.lck i b _ g
  obtain ⟨v, hv, p, rfl, c⟩ := r2.slot i _ g2
  rw [e2, e] at hv
  cases hv
  obtain ⟨kvs', q, k, l, rr⟩ := c
  rcases q with q | ⟨o, q⟩
  · rw [h2] at q; cases q
  · rw [h2] at q
    cases q
    exact ⟨h2, k, l, rr⟩
theorem key_rep {k : Key} : Rep Γ H F (ofKey k) (kV k) := by
  cases k with
  | inl i => exact .int i
  | inr x => exact .str x
theorem jw_keys {i : Nat} {d : Addr} {od : Obj} {b : Bool} {ks : List Key} {ds : List D} {kvs : List (Key × V)} (r : RE Γ H C E σ) (g : gt E i = some (.lck b (.dk ks ds))) (e : σ[i]? = some (some (.ref d))) (hd : H d = some (.frz od (.dK kvs))) :
    JW Γ (Itk d od kvs) C E σ H (ks.map ofKey) := fun C' E2 σ2 H2 hc t r2 => by
  obtain ⟨h2, hk, hl, rr⟩ := jw_dict r g e hd C' E2 σ2 H2 t r2
  refine ⟨fun j dd hj => ?_, h2, by rw [← hk]; simp⟩
  rw [← hk, List.map_map, List.getElem?_map] at hj
  obtain ⟨kv, hkv, rfl⟩ := Option.map_eq_some_iff.mp hj
  refine ⟨⟨h2, (List.getElem?_eq_some_iff.mp hkv).1⟩, fun x H' y => ?_⟩
  obtain ⟨rfl, k, v, h3, rfl⟩ := y
  rw [hkv] at h3
  cases h3
  exact ⟨Same.refl _, key_rep⟩
theorem jw_items {i : Nat} {d : Addr} {od : Obj} {b : Bool} {ks : List Key} {ds : List D} {kvs : List (Key × V)} (r : RE Γ H C E σ) (g : gt E i = some (.lck b (.dk ks ds))) (e : σ[i]? = some (some (.ref d))) (hd : H d = some (.frz od (.dK kvs))) :
    JW Γ (Iti d od kvs) C E σ H (itemsD ks ds) := fun C' E2 σ2 H2 hc t r2 => by
  obtain ⟨h2, hk, hl, rr⟩ := jw_dict r g e hd C' E2 σ2 H2 t r2
  have hlen : kvs.length = ds.length := by have := rr.l; rwa [List.length_map] at this
  refine ⟨fun j dd hj => ?_, h2, by rw [← hk]; simp [itemsD, hlen]⟩
  unfold itemsD at hj
  rw [List.getElem?_map] at hj
  obtain ⟨kd, hkd, rfl⟩ := Option.map_eq_some_iff.mp hj
  obtain ⟨z1, z2⟩ := List.getElem?_zip_eq_some.mp hkd
  rw [← hk, List.getElem?_map] at z1
  obtain ⟨kv, hkv, e1⟩ := Option.map_eq_some_iff.mp z1
  refine ⟨⟨h2, (List.getElem?_eq_some_iff.mp hkv).1⟩, fun x H' y => ?_⟩
  obtain ⟨T, k, v, h3, rfl, n, rfl⟩ := y
  rw [hkv] at h3
  cases h3
  have e1 : k = kd.1 := e1
  have rv := rr.r j _ v z2 (by rw [List.getElem?_map, hkv]; rfl)
  refine ⟨same_upd' n, pair_rep ?_ rv n⟩
  rw [← e1]
  exact key_rep
theorem pi_keysE {i : Nat} {x : Str} {tg : Expr} {p0 : Pos} {d : Addr} {od : Obj} {kvs : List (Key × V)} {ks : List Key} {ds : List D} {b : Bool} (hv : PE X (.Name x p0) (tVar i)) :
    PI X tg (.Name x p0) (tWP Γ W cl (fun E σ H => gt E i = some (.lck b (.dk ks ds)) ∧ σ[i]? = some (some (.ref d)) ∧ H d = some (.frz od (.dK kvs))) fun E => .ok (rowsK false ks ds) [] E) := by
  refine (pi_keys hv).conseq fun σ H R ⟨E, C, re, ⟨g, e, hd⟩, p⟩ => ?_
  exact ⟨_, e, d, od, rfl, .inl ⟨kvs, hd, p _ H re (jw_keys re g e hd) (LK.none .refl) fun _ n => n⟩⟩
theorem pi_itemsE {i : Nat} {x : Str} {elts : List Expr} {kk : Nat} {tpos p0 apos cpos : Pos} {d : Addr} {od : Obj} {kvs : List (Key × V)} {ks : List Key} {ds : List D} {b : Bool} (hv : PE X (.Name x p0) (tVar i)) (hbase : attributeBase (.Name x p0) "items" X.env (eval (.Name x p0) X.env) = eval (.Name x p0) X.env) (hline : (apos.endLine == cpos.line) = true) :
    PI X (.Tuple elts kk tpos) (.Call (.Attribute (.Name x p0) "items" apos) [] [] cpos) (tWP Γ W cl (fun E σ H => gt E i = some (.lck b (.dk ks ds)) ∧ σ[i]? = some (some (.ref d)) ∧ H d = some (.frz od (.dK kvs))) fun E => .ok (rowsK true ks ds) [] E) := by
  refine (pi_items hv hbase hline).conseq fun σ H R ⟨E, C, re, ⟨g, e, hd⟩, p⟩ => ?_
  exact ⟨_, e, d, od, kvs, rfl, hd, p _ H re (jw_items re g e hd) (LK.none .refl) fun _ n => n⟩
theorem _root_.L2.PE.ex {α : Type} {e : Expr} {t : α → TE} (h : ∀ k, PE X e (t k)) : PE X e fun σ H Q => ∃ k, t k σ H Q := ⟨fun pins s σ H Q I ⟨k, q⟩ => (h k).run pins s σ H Q I q⟩
theorem gt_unlock_ne {i j : Nat} (h : j ≠ i) : gt (unlockS E i) j = gt E j := by rw [gt_unlock, if_neg h]
theorem unlock_eq {i : Nat} {b : Bool} {d : D} (g : gt E i = some (.lck b d)) : unlockS E i = E.set i (some (if b then .own d else .ref d)) := by
  unfold unlockS
  rw [g]
  cases b <;> rfl
/-- a frozen dictionary is given back -/
theorem thaw {i : Nat} {d : Addr} {od : Obj} {b : Bool} {ks : List Key} {ds : List D} {kvs : List (Key × V)} (re : RE Γ H C E σ) (g0 : gt E i = some (if b then .own (.dk ks ds) else .ref (.dk ks ds))) (e : σ[i]? = some (some (.ref d))) (hH : H d = some (.dK kvs))
    (r1 : RE Γ (upd H d (.frz od (.dK kvs))) C (E.set i (some (.lck b (.dk ks ds)))) σ) {C' : Addr → Prop} {E' : En} {H2 : Hp} (hC : ∀ a, C' a → a ≠ d) (t : Tr (E.set i (some (.lck b (.dk ks ds)))) σ (upd H d (.frz od (.dK kvs))) E' σ H2) (r2 : RE Γ H2 C' E' σ) :
    H2 d = some (.frz od (.dK kvs)) ∧ Tr E σ H (unlockS E' i) σ (upd H2 d (.dK kvs)) ∧ RE Γ (upd H2 d (.dK kvs)) C' (unlockS E' i) σ ∧ (∀ q, Fz C' (unlockS E' i) σ q ↔ Fz C' E' σ q) ∧ Stay H2 (upd H2 d (.dK kvs)) (Fz C' E' σ) (Fz C' (unlockS E' i) σ) (fun a => a = d) := by
  have g1 : gt (E.set i (some (.lck b (.dk ks ds)))) i = some (.lck b (.dk ks ds)) := gt_set_self g0
  have hd1 : (upd H d (.frz od (.dK kvs))) d = some (.frz od (.dK kvs)) := upd_same
  obtain ⟨h2, hk, hl, rr⟩ := jw_dict r1 g1 e hd1 C' E' σ H2 t r2
  obtain ⟨g2, _⟩ := t.lck i b _ g1
  have eu := unlock_eq g2
  have owb : (if b then Sl.own (.dk ks ds) else Sl.ref (.dk ks ds)).ow = true := by cases b <;> rfl
  obtain ⟨r3, f3, s3⟩ := r2.reslot (H' := upd H2 d (.dK kvs)) (s1 := if b then .own (.dk ks ds) else .ref (.dk ks ds)) g2 rfl owb e (.inr (.inr (.inr ⟨_, _, h2⟩))) (fun a o n q => by rw [upd_ne n]; exact q) (by rw [upd_same]; exact nofun) (fun F hF hp => by
    have st : Stay H2 (upd H2 d (.dK kvs)) (Fz C' E' σ) F (fun a => a = d) := ⟨fun a o n q => by rw [upd_ne n]; exact q, fun a z => by rw [z]; exact hF d hp, fun a z => by rw [z]; exact .inr (.inr (.inr ⟨_, _, h2⟩)), fun a z => .inl (hF a z)⟩
    have cn : Cn true Γ (upd H2 d (.dK kvs)) F (.dk ks ds) d := ⟨kvs, upd_same, hk, hl, rr.stay st⟩
    cases b <;> exact ⟨d, rfl, cn⟩)
  rw [← eu] at r3 f3 s3
  have mu0 : Mu E σ d := ⟨i, _, g0, by cases b; exact .inr ⟨_, rfl⟩; exact .inl ⟨_, rfl⟩, e⟩
  have mu1 : ∀ a, Mu (E.set i (some (.lck b (.dk ks ds)))) σ a → Mu E σ a := fun a ⟨j, s, g, hs, e'⟩ => by
    rcases gt_set g with ⟨rfl, z⟩ | ⟨n, z⟩
    · cases z
      rcases hs with ⟨_, z⟩ | ⟨_, z⟩ <;> cases z
    · exact ⟨j, s, z, hs, e'⟩
  have n1 : ∀ a, a ≠ d → ((upd H d (.frz od (.dK kvs))) a = none ↔ H a = none) := fun a n => by rw [upd_ne n]
  refine ⟨h2, ⟨fun a o n q => ?_, fun a n z => ?_, fun j p dd g q => ?_, fun j b' dd g => ?_, fun j b' dd g => ?_, fun j dd g => ?_, fun j dd g => ?_⟩, r3, f3, s3⟩
  · have nd : a ≠ d := fun z => n (z ▸ mu0)
    rw [upd_ne nd]
    exact t.keep a o (fun m => n (mu1 a m)) (by rw [upd_ne nd]; exact q)
  · by_cases hd : a = d
    · rw [hd, upd_same] at z; cases z
    · rw [upd_ne hd] at z
      exact t.there a (fun q => n ((n1 a hd).mp q)) z
  · by_cases hj : j = i
    · subst hj
      rw [e] at q
      cases q
      rw [eu, gt_set_self g2] at g
      cases b with
      | true => exact .inl ⟨j, _, g0, e⟩
      | false => cases g
    · rw [gt_unlock_ne hj] at g
      rcases t.own j p dd g q with ⟨k, d', g', e'⟩ | nn
      · rcases gt_set g' with ⟨rfl, z⟩ | ⟨n, z⟩
        · cases z
        · exact .inl ⟨k, d', z, e'⟩
      · by_cases hpd : p = d
        · rw [hpd, upd_same] at nn; cases nn
        · exact .inr ((n1 p hpd).mp nn)
  · have hj : j ≠ i := fun z => by
      rw [z, g0] at g
      cases b <;> cases g
    obtain ⟨a1, a2⟩ := t.lck j b' dd (by rw [gt_set_ne hj]; exact g)
    exact ⟨by rw [gt_unlock_ne hj]; exact a1, a2⟩
  · have hj : j ≠ i := fun z => by
      rw [z, eu, gt_set_self g2] at g
      cases b <;> cases g
    rw [gt_unlock_ne hj] at g
    have := t.lckB j b' dd g
    rwa [gt_set_ne hj] at this
  · by_cases hj : j = i
    · subst hj
      rw [eu, gt_set_self g2] at g
      cases b with
      | true => cases g
      | false => exact ⟨⟨_, g0⟩, rfl⟩
    · rw [gt_unlock_ne hj] at g
      obtain ⟨⟨d', g'⟩, e'⟩ := t.ref j dd g
      rw [gt_set_ne hj] at g'
      exact ⟨⟨d', g'⟩, e'⟩
  · have hj : j ≠ i := fun z => by
      rw [z, eu, gt_set_self g2] at g
      cases b <;> cases g
    rw [gt_unlock_ne hj] at g
    obtain ⟨⟨d', g'⟩, e'⟩ := t.rfz j dd g
    rw [gt_set_ne hj] at g'
    exact ⟨⟨d', g'⟩, e'⟩
theorem lcd_of {i : Nat} {itm : Bool} {ft : D → En → Out} {fc fe : En → ER} : ∀ σ H Q, tI Γ W cl (fun E => match dkAt E i with
      | some (ks, ds) => ((IR.ok (rowsK itm ks ds) [] (lockS E i)).comp vs fun xs E1 => compL vs ft fc fe xs [] E1).unl i
      | none => .bad) σ H Q →
    tLockE (fun σ H Q => ∃ z : Bool × List Key × List D × Addr × Obj × List (Key × V), tLc (tWP Γ W cl (fun E σ H => gt E i = some (.lck z.1 (.dk z.2.1 z.2.2.1)) ∧ σ[i]? = some (some (.ref z.2.2.2.1)) ∧ H z.2.2.2.1 = some (.frz z.2.2.2.2.1 (.dK z.2.2.2.2.2))) fun E => .ok (rowsK itm z.2.1 z.2.2.1) [] E) (tG Γ W0 cl (· ∈ vs) ft) (tIT Γ W0 cl fc) (tI Γ W0 cl fe) vs σ H Q) σ H Q := by
  intro σ H Q ⟨E, C, re, p⟩
  dsimp only at p
  cases hk : dkAt E i with
  | none => rw [hk] at p; exact p.elim
  | some kd =>
    obtain ⟨ks, ds⟩ := kd
    rw [hk] at p
    dsimp only at p
    have : ∃ b, gt E i = some (if b then .own (.dk ks ds) else .ref (.dk ks ds)) ∧ lockS E i = E.set i (some (.lck b (.dk ks ds))) := by
      unfold dkAt at hk
      unfold lockS
      split at hk
      · rename_i ks' ds' g; cases hk; exact ⟨true, g, by rw [g]⟩
      · rename_i ks' ds' g; cases hk; exact ⟨false, g, by rw [g]⟩
      · cases hk
    obtain ⟨b, g0, el⟩ := this
    rw [el] at p
    obtain ⟨v, hv, sl⟩ := re.slot i _ g0
    have : ∃ d, v = .ref d ∧ Cn true Γ H (Fz C E σ) (.dk ks ds) d := by cases b <;> exact sl
    obtain ⟨d, rfl, kvs, hH, hkk, hl, rr⟩ := this
    have owb : (if b then Sl.own (.dk ks ds) else Sl.ref (.dk ks ds)).ow = true := by cases b <;> rfl
    refine ⟨d, .dK kvs, hH, trivial, fun od => ⟨(b, ks, ds, d, od, kvs), ?_⟩⟩
    obtain ⟨r1, f1, s1⟩ := re.reslot (H' := upd H d (.frz od (.dK kvs))) (s1 := .lck b (.dk ks ds)) g0 owb rfl hv (.inr (.inl ⟨_, hH⟩)) (fun a o n q => by rw [upd_ne n]; exact q) (by rw [upd_same]; exact nofun) (fun F hF hp => by
      have st : Stay H (upd H d (.frz od (.dK kvs))) (Fz C E σ) F (fun a => a = d) := ⟨fun a o n q => by rw [upd_ne n]; exact q, fun a z => by rw [z]; exact hF d hp, fun a z => by rw [z]; exact .inr (.inl ⟨_, hH⟩), fun a z => .inl (hF a z)⟩
      exact ⟨d, rfl, kvs, .inr ⟨od, upd_same⟩, hkk, hl, rr.stay st⟩)
    refine lc_ofP _ _ _ ⟨_, C, r1, ⟨gt_set_self g0, hv, upd_same⟩, ?_⟩
    generalize hr : (IR.ok (rowsK itm ks ds) [] (E.set i (some (.lck b (.dk ks ds))))).comp vs (fun xs E1 => compL vs ft fc fe xs [] E1) = r0 at p
    have nCd : ∀ a, C a → a ≠ d := fun a ca z => re.dis i d ⟨_, g0, owb, hv⟩ (z ▸ ca)
    cases r0 with
    | bad => exact p
    | ex c E' => exact p.elim
    | ok o dd E' =>
      intro w H2 t vr
      cases o with
      | false =>
        obtain ⟨r2, rp⟩ := vr
        obtain ⟨h2, t3, r3, f3, s3⟩ := thaw re g0 hv hH r1 nCd t r2
        exact ⟨h2, p w _ t3 ⟨r3, rp.stay s3⟩⟩
      | true =>
        obtain ⟨q, rfl, nq, ncq, r2, cn⟩ := vr
        have hqd : q ≠ d := fun z => by rw [z, upd_same] at nq; cases nq
        obtain ⟨h2, t3, r3, f3, s3⟩ := thaw re g0 hv hH r1 (fun a ca => by
          rcases ca with ca | ca
          · exact nCd a ca
          · rw [ca]; exact hqd) t r2
        exact ⟨h2, p _ _ t3 ⟨q, rfl, by rwa [upd_ne hqd] at nq, ncq, r3, cn.stay s3 hqd⟩⟩
end
end Rx
set_option maxHeartbeats 1000000
/-! RxR: statements. -/
namespace Rx
open PySem PySem.Spec PyProof.Rows L2
section
variable {Γ : Gm} {W : WX} {cl : Cl} {σ σ' σ1 σ2 : L2.St} {H H1 H' H2 : Hp} {C C' F : Addr → Prop} {E E1 E' E2 : En} {Q : VK} {X : Cx} {a b c e : Expr} {A B D' : Tm} {fa fb fc : En → ER} {pos : Pos} {vs : List Nat}
/-- how a returned value lies: shared; or an object that was own, or new -/
def VRO (Γ : Gm) (E : En) (σ : L2.St) (H H' : Hp) (C : Addr → Prop) (o : Bool) (d : D) (v : V) (E' : En) (σ' : L2.St) : Prop :=
  if o then ∃ p, v = .ref p ∧ ((∃ j d', gt E j = some (.own d') ∧ σ[j]? = some (some (.ref p))) ∨ H p = none) ∧ ¬ C p ∧ RE Γ H' (fun a => C a ∨ a = p) E' σ' ∧ Cn true Γ H' (Fz (fun a => C a ∨ a = p) E' σ') d p
  else RE Γ H' C E' σ' ∧ Rep Γ H' (Fz C E' σ') d v
theorem VR.o {Ea : En} {σa : L2.St} {o : Bool} {d : D} {v : V} (h : VR Γ H H' C o d v E' σ') : VRO Γ Ea σa H H' C o d v E' σ' := by
  cases o with
  | false => exact h
  | true => obtain ⟨p, h1, h2, h3⟩ := h; exact ⟨p, h1, .inr h2, h3⟩
theorem none_back (t : Tr E σ H E1 σ1 H1) {p : Addr} (n : H1 p = none) : H p = none := by
  cases q : H p with
  | none => rfl
  | some o => exact absurd n (t.there p (by rw [q]; exact nofun))
theorem VRO.step {o : Bool} {d : D} {v : V} (h : VRO Γ E1 σ1 H1 H' C o d v E' σ') (t : Tr E σ H E1 σ1 H1) : VRO Γ E σ H H' C o d v E' σ' := by
  cases o with
  | false => exact h
  | true =>
    obtain ⟨p, h1, h2, h3⟩ := h
    refine ⟨p, h1, ?_, h3⟩
    rcases h2 with ⟨j, d', g, e⟩ | n
    · exact t.own j p d' g e
    · exact .inr (none_back t n)
def PostS (Γ : Gm) (W : WX) (cl : Cl) (σ : L2.St) (H : Hp) (C : Addr → Prop) (E : En) (Dn : Ends) : Out → Prop
  | .nx E' => ∀ σ' H', Tr E σ H E' σ' H' → RE Γ H' C E' σ' → Dn.nx σ' H'
  | .bk E' => ∀ σ' H', Tr E σ H E' σ' H' → RE Γ H' C E' σ' → Dn.bk σ' H'
  | .ct E' => ∀ σ' H', Tr E σ H E' σ' H' → RE Γ H' C E' σ' → Dn.ct σ' H'
  | .rt o d E' => ∀ v σ' H', Tr E σ H E' σ' H' → VRO Γ E σ H H' C o d v E' σ' → Dn.rt v H'
  | .ex c E' => ∀ σ' H', Tr E σ H E' σ' H' → RE Γ H' C E' σ' → W (cl c) none σ' H'
  | .bad => False
def tS (Γ : Gm) (W : WX) (cl : Cl) (f : En → Out) : TS := fun Dn σ H => ∃ E C, RE Γ H C E σ ∧ PostS Γ W cl σ H C E Dn (f E)
theorem PostS.step {Dn : Ends} {r : Out} (p : PostS Γ W cl σ H C E Dn r) (t : Tr E σ H E1 σ1 H1) : PostS Γ W cl σ1 H1 C E1 Dn r := by
  cases r with
  | nx E' => exact fun σ' H' t' r' => p σ' H' (t.trans t') r'
  | bk E' => exact fun σ' H' t' r' => p σ' H' (t.trans t') r'
  | ct E' => exact fun σ' H' t' r' => p σ' H' (t.trans t') r'
  | rt o d E' => exact fun v σ' H' t' r' => p v σ' H' (t.trans t') (r'.step t)
  | ex c E' => exact fun σ' H' t' r' => p σ' H' (t.trans t') r'
  | bad => exact p
theorem _root_.L2.PS.conseq {st : Stmt} {t t' : TS} (h : PS X st t) (i : ∀ Dn σ H, t' Dn σ H → t Dn σ H) : PS X st t' := ⟨fun pins s σ H Dn I q => h.run pins s σ H Dn I (i Dn σ H q)⟩
theorem _root_.L2.PSs.conseq {st : List Stmt} {t t' : TS} (h : PSs X st t) (i : ∀ Dn σ H, t' Dn σ H → t Dn σ H) : PSs X st t' := ⟨fun pins s σ H Dn I q => h.run pins s σ H Dn I (i Dn σ H q)⟩
/-! ### one after another -/
theorem pss_nilE : PSs X [] (tS Γ W cl fun E => .nx E) := pss_nil.conseq fun Dn σ H ⟨E, C, re, p⟩ => p σ H .refl re
theorem PostS.then {Dn : Ends} {r : Out} {k : En → Out} (p : PostS Γ W cl σ H C E Dn (r.then k)) {nx : L2.St → Hp → Prop} (h : ∀ E1 σ1 H1, Tr E σ H E1 σ1 H1 → RE Γ H1 C E1 σ1 → PostS Γ W cl σ1 H1 C E1 Dn (k E1) → nx σ1 H1) : PostS Γ W cl σ H C E { Dn with nx := nx } r := by
  cases r with
  | nx E1 => exact fun σ1 H1 t r => h E1 σ1 H1 t r (PostS.step (r := k E1) p t)
  | bk E' => exact p
  | ct E' => exact p
  | rt o d E' => exact p
  | ex c E' => exact p
  | bad => exact p
theorem pss_consE {st : Stmt} {rest : List Stmt} {f g : En → Out} (h1 : PS X st (tS Γ W cl f)) (h2 : PSs X rest (tS Γ W cl g)) : PSs X (st :: rest) (tS Γ W cl fun E => (f E).then g) :=
  (pss_cons h1 h2).conseq fun Dn σ H ⟨E, C, re, p⟩ => ⟨E, C, re, PostS.then p fun E1 σ1 H1 t r q => ⟨E1, C, r, q⟩⟩

/-! ### small statements -/
theorem PostS.out {Dn : Ends} {r : ER} {k : Bool → D → En → Out} (p : PostS Γ W cl σ H C E Dn (r.out k)) {R : VK} (h : ∀ o d v E1 H1, Tr E σ H E1 σ H1 → VR Γ H H1 C o d v E1 σ → PostS Γ W cl σ H C E Dn (k o d E1) → R v H1) : Post Γ W cl σ H C E R r := by
  cases r with
  | ok o d E1 => exact fun v H1 t vr => h o d v E1 H1 t vr p
  | ex c E1 => exact fun H' t r => p σ H' t r
  | bad => exact p
theorem ps_exprE {f : En → ER} (he : PE X e (tI Γ W cl f)) (hs : swapsWith e none pos.line X.env = pure false) : PS X (.Expr e pos) (tS Γ W cl fun E => (f E).out fun _ _ E1 => .nx E1) :=
  (ps_expr he hs).conseq fun Dn σ H ⟨E, C, re, p⟩ => ⟨E, C, re, PostS.out p fun o d v E1 H1 t vr q => q σ H1 t vr.share.1⟩
theorem ps_passE : PS X (.Pass pos) (tS Γ W cl fun E => .nx E) := ps_pass.conseq fun Dn σ H ⟨E, C, re, p⟩ => p σ H .refl re
theorem ps_docE {x : Str} {j : Nat} {pos' : Pos} : PS X (.Expr (.Constant (.str x) j pos) pos') (tS Γ W cl fun E => .nx E) := ps_doc.conseq fun Dn σ H ⟨E, C, re, p⟩ => p σ H .refl re
theorem ps_brkE : PS X (.Break pos) (tS Γ W cl fun E => .bk E) := ps_break.conseq fun Dn σ H ⟨E, C, re, p⟩ => p σ H .refl re
theorem ps_cntE : PS X (.Continue pos) (tS Γ W cl fun E => .ct E) := ps_continue.conseq fun Dn σ H ⟨E, C, re, p⟩ => p σ H .refl re
theorem ps_retE {f : En → ER} (he : PE X e (tI Γ W cl f)) : PS X (.Return (some e) pos) (tS Γ W cl fun E => (f E).out fun o d E1 => .rt o d E1) :=
  (ps_ret he).conseq fun Dn σ H ⟨E, C, re, p⟩ => ⟨E, C, re, PostS.out p fun o d v E1 H1 t vr q => q v σ H1 t vr.o⟩
theorem ps_retVarE {i : Nat} (he : PE X e (tVar i)) : PS X (.Return (some e) pos) (tS Γ W cl fun E => match gt E i with
      | some (.own d) => .rt true d (E.set i none)
      | _ => (take E i).out fun o d E1 => .rt o d E1) :=
  (ps_ret he).conseq fun Dn σ H ⟨E, C, re, p⟩ => by
    dsimp only at p
    split at p
    · rename_i d g
      obtain ⟨v, hv, q⟩ := re.slot i _ g
      obtain ⟨pp, rfl, cn⟩ := q
      obtain ⟨r1, fz⟩ := re.lend g rfl hv
      refine ⟨_, hv, p _ σ H (tr_lend fun b d' z => by rw [g] at z; cases z) ⟨pp, rfl, .inl ⟨i, d, g, hv⟩, re.dis i pp ⟨_, g, rfl, hv⟩, r1, cn.stay (.weak fz) id⟩⟩
    · exact take_of re (PostS.out p fun o d v E1 H1 t vr q => q v σ H1 t vr.o)
theorem ps_retNE : PS X (.Return none pos) (tS Γ W cl fun E => .rt false .non E) := ps_retN.conseq fun Dn σ H ⟨E, C, re, p⟩ => p .non σ H .refl ⟨re, .non⟩
theorem ps_ifE {sa sb : List Stmt} {f : En → ER} {g h : En → Out} (hc : PT X c (tIT Γ W cl f)) (ha : PSs X sa (tS Γ W cl g)) (hb : PSs X sb (tS Γ W cl h)) : PS X (.If c sa sb pos) (tS Γ W cl fun E => (f E).out fun _ d E1 => match d with
    | .bl true => g E1
    | .bl false => h E1
    | _ => .bad) :=
  (ps_if hc ha hb).conseq fun Dn σ H ⟨E, C, re, p⟩ => ⟨E, C, re, by
    dsimp only at p
    cases q : f E with
    | bad => rw [q] at p; exact p
    | ex c E1 => rw [q] at p; exact fun H' t r => p σ H' t r
    | ok o d E1 =>
      rw [q] at p
      dsimp only [ER.out] at p
      cases d with
      | bl b =>
        intro H1 t r1
        cases b with
        | true => rw [if_pos rfl]; exact ⟨E1, C, r1, PostS.step p t⟩
        | false => rw [if_neg Bool.false_ne_true]; exact ⟨E1, C, r1, PostS.step p t⟩
      | _ => exact p⟩
theorem ps_raiseE {cs : Str} {pos' : Pos} (hr : PS X (.Raise (some e) none pos') fun _ σ H => W (cl cs) none σ H) : PS X (.Raise (some e) none pos') (tS Γ W cl fun E => .ex cs E) :=
  hr.conseq fun Dn σ H ⟨E, C, re, p⟩ => p σ H .refl re

/-! ### stores -/
theorem set_of {i : Nat} {f : En → ER} : ∀ Dn σ H, tS Γ W cl (fun E => (f E).out fun o d E1 => (storeS E1 i o d).only) Dn σ H → tAsg (tI Γ W cl f) (gName i) Dn σ H := fun Dn σ H ⟨E, C, re, p⟩ => ⟨E, C, re, PostS.out p fun o d v E1 H1 t vr q => by
    unfold storeS at q
    cases hl : locked E1 i with
    | true => rw [hl] at q; exact q.elim
    | false =>
      rw [hl, if_neg Bool.false_ne_true] at q
      by_cases hi : i < E1.length
      · rw [if_pos hi] at q
        cases o with
        | false =>
          obtain ⟨r1, rp⟩ := vr
          obtain ⟨r2, t2⟩ := r1.store hl rp
          exact q _ H1 (t.trans t2) r2
        | true =>
          obtain ⟨pp, rfl, n, nc, r1, cn⟩ := vr
          obtain ⟨r2, fz⟩ := r1.storeO hl nc hi cn
          exact q _ H1 (tr_storeO (H0 := H) t hl n hi r1.len) r2
      · rw [if_neg hi] at q; exact q.elim⟩
theorem ps_setE {i : Nat} {x : Str} {f : En → ER} {p0 : Pos} (hN : X.N.Nodup) (hi : X.N[i]? = some x) (hx : Loc X.env.scope x) (he : PE X e (tI Γ W cl f)) (hs : swapsWith e (some (.Name x p0)) pos.line X.env = pure false) (hf : X.fn x = true ∨ X.env.scope.names.lookup x = some .local) :
    PS X (.Assign [.Name x p0] e pos) (tS Γ W cl fun E => (f E).out fun o d E1 => (storeS E1 i o d).only) := (ps_set hN hi hx he hs hf).conseq set_of
theorem asg_of {f : En → ER} {g : D → En → Out} : ∀ Dn σ H, tS Γ W cl (fun E => (f E).out fun o d E1 => (g d E1).only) Dn σ H → tAsg (tI Γ W cl f) (tG Γ W cl (fun _ => True) g) Dn σ H := fun Dn σ H ⟨E, C, re, p⟩ => ⟨E, C, re, PostS.out p fun o d v E1 H1 t vr q => by
    obtain ⟨r1, rp⟩ := vr.share
    refine ⟨E1, C, d, r1, rp, ?_⟩
    cases h : g d E1 with
    | nx E2 => rw [h] at q; exact fun σ' H' t' r' _ => q σ' H' (t.trans t') r'
    | ex c E2 => rw [h] at q; exact fun σ' H' t' r' _ => q σ' H' (t.trans t') r'
    | bad => rw [h] at q; exact q
    | _ => rw [h] at q; exact q.elim⟩
theorem ps_asgE {tg : Expr} {f : En → ER} {g : D → En → Out} (he : PE X e (tI Γ W cl f)) (hg : PG X tg (tG Γ W cl (fun _ => True) g)) (hs : swapsWithSole [tg] e pos.line X.env = pure false) (hw : swappedStores [tg] e X.env = pure none) (h1 : (assignEach [tg] X.env).map (·.2) = [assign tg X.env]) :
    PS X (.Assign [tg] e pos) (tS Γ W cl fun E => (f E).out fun o d E1 => (g d E1).only) := (ps_asg he hg hs hw h1).conseq asg_of

/-! ### several values at once -/
theorem HV.stay {M F' : Addr → Prop} : ∀ {xs : List (Bool × D)} {vs : List V} {C : Addr → Prop}, HV Γ H F C xs vs → Stay H H' F F' M → (∀ a, HO xs vs a → ¬ M a) → HV Γ H' F' C xs vs
  | [], [], _, _, _, _ => trivial
  | [], _ :: _, _, h, _, _ => h.elim
  | (true, _) :: _, [], _, h, _, _ => h.elim
  | (false, _) :: _, [], _, h, _, _ => h.elim
  | (false, d) :: xs, v :: vs, _, h, st, n => ⟨h.1.stay st, HV.stay h.2 st n⟩
  | (true, d) :: xs, v :: vs, _, h, st, n => by
    obtain ⟨p, h1, h2, h3, h4⟩ := h
    exact ⟨p, h1, h2, h3.stay st (n p (.inl h1)), HV.stay h4 st fun a z => n a (.inr z)⟩
theorem HV.mono : ∀ {xs : List (Bool × D)} {vs : List V} {C C' : Addr → Prop}, HV Γ H F C xs vs → (∀ a, C' a → C a) → HV Γ H F C' xs vs
  | [], [], _, _, _, _ => trivial
  | [], _ :: _, _, _, h, _ => h.elim
  | (true, _) :: _, [], _, _, h, _ => h.elim
  | (false, _) :: _, [], _, _, h, _ => h.elim
  | (false, d) :: xs, v :: vs, _, _, h, n => ⟨h.1, HV.mono h.2 n⟩
  | (true, d) :: xs, v :: vs, _, _, h, n => by
    obtain ⟨p, h1, h2, h3, h4⟩ := h
    exact ⟨p, h1, fun z => h2 (n p z), h3, HV.mono h4 fun a z => z.imp (n a) id⟩
theorem HV.out {xs : List (Bool × D)} {vs : List V} {p : Addr} (h : HV Γ H F C xs vs) (o : HO xs vs p) : ¬ C p := by
  obtain ⟨k, d, e1, e2⟩ := HO_iff.mp o
  obtain ⟨v, e3, q⟩ := h.get e1
  rw [if_pos rfl] at q
  obtain ⟨p', e4, n, _⟩ := q
  rw [e2] at e3; cases e3; cases e4
  exact n
def PostO (Γ : Gm) (W : WX) (cl : Cl) (σ : L2.St) (H : Hp) (C : Addr → Prop) (E : En) (R : List V → Hp → Prop) : OR → Prop
  | .ok xs E' => ∀ vs H', Tr E σ H E' σ H' → RE Γ H' (fun a => C a ∨ HO xs vs a) E' σ → HV Γ H' (Fz (fun a => C a ∨ HO xs vs a) E' σ) C xs vs → (∀ p, HO xs vs p → H p = none) → R vs H'
  | .ex c E' => ∀ H', Tr E σ H E' σ H' → RE Γ H' C E' σ → W (cl c) none σ H'
  | .bad => False
def tOs (Γ : Gm) (W : WX) (cl : Cl) (f : En → OR) : TA := fun σ H R => ∃ E C, RE Γ H C E σ ∧ PostO Γ W cl σ H C E R (f E)
theorem pa_nilO : PA X [] (tOs Γ W cl fun E => .ok [] E) := ⟨fun pos pins s σ H Q I ⟨E, C, re, p⟩ => by
  refine pa_nil.run pos pins s σ H Q I (p [] H .refl ?_ trivial fun p z => z.elim)
  exact re.fewer fun a z => z.elim id fun z => z.elim⟩
theorem pa_consO {es : List Expr} {ft : En → ER} {fr : En → OR} (ht : PE X e (tI Γ W cl ft)) (hr : PA X es (tOs Γ W cl fr)) (hs : starEach (e :: es) X.env = (false, eval e X.env) :: starEach es X.env) : PA X (e :: es) (tOs Γ W cl fun E => match ft E with
    | .ok o d E1 => (match fr E1 with
      | .ok xs E2 => .ok ((o, d) :: xs) E2
      | .ex c E2 => .ex c E2
      | .bad => .bad)
    | .ex c E1 => .ex c E1
    | .bad => .bad) := by
  refine ⟨fun pos pins s σ H R I ⟨E, C, re, p⟩ => (pa_cons ht hr hs).run pos pins s σ H R I ⟨E, C, re, ?_⟩⟩
  dsimp only at p
  cases h : ft E with
  | bad => rw [h] at p; exact p
  | ex c E1 => rw [h] at p; exact p
  | ok o d E1 =>
    rw [h] at p
    dsimp only at p
    intro v H1 t1 vr
    cases h2 : fr E1 with
    | bad => rw [h2] at p; exact p.elim
    | ex c E2 =>
      rw [h2] at p
      exact ⟨E1, C, vr.share.1, by rw [h2]; exact fun H' t' r' => p H' (t1.trans t') r'⟩
    | ok xs E2 =>
      rw [h2] at p
      cases o with
      | false =>
        obtain ⟨r1, rp⟩ := vr
        refine ⟨E1, C, r1, ?_⟩
        rw [h2]
        intro vs H2 t2 r2 hv nn
        refine p (v :: vs) H2 (t1.trans t2) r2 ⟨rp.stay (r1.stay t2 fun a z => ?_), hv⟩ fun q z => none_back t1 (nn q z)
        rcases z with (z | z) | z
        · exact .inl (.inl z)
        · exact .inr (nn a z)
        · exact t2.fz' (C := C) (.inr z)
      | true =>
        obtain ⟨pp, rfl, n, nc, r1, cn⟩ := vr
        refine ⟨E1, _, r1, ?_⟩
        rw [h2]
        intro vs H2 t2 r2 hv nn
        have ec : (fun a => C a ∨ HO ((true, d) :: xs) (V.ref pp :: vs) a) = fun a => (C a ∨ a = pp) ∨ HO xs vs a := by
          funext a
          refine propext ⟨fun z => ?_, fun z => ?_⟩
          · rcases z with z | z | z
            · exact .inl (.inl z)
            · cases z; exact .inl (.inr rfl)
            · exact .inr z
          · rcases z with (z | z) | z
            · exact .inl z
            · rw [z]; exact .inr (.inl rfl)
            · exact .inr (.inr z)
        refine p (.ref pp :: vs) H2 (t1.trans t2) (by rw [ec]; exact r2) ?_ fun q z => ?_
        · rw [ec]
          refine ⟨pp, rfl, nc, cn.stay (r1.stay t2 fun a z => ?_) (r1.notMu (.inr rfl)), hv⟩
          rcases z with (z | z) | z
          · exact .inl (.inl z)
          · exact .inr (nn a z)
          · exact t2.fz' (C := fun a => C a ∨ a = pp) (.inr z)
        · rcases z with z | z
          · cases z; exact n
          · exact none_back t1 (nn q z)
/-- .. to their targets -/
def gE (Q : L2.St → Hp → Prop) : Ends := { nx := Q, rt := fun _ _ => False }
def tGOs (Γ : Gm) (W : WX) (cl : Cl) (f : List (Bool × D) → En → Out) : TGs := fun vs σ H Q => ∃ E C xs E0 σ0 H0, Tr E0 σ0 H0 E σ H ∧ (∀ p, HO xs vs p → H0 p = none) ∧ RE Γ H (fun a => C a ∨ HO xs vs a) E σ ∧ HV Γ H (Fz (fun a => C a ∨ HO xs vs a) E σ) C xs vs ∧
  PostS Γ W cl σ0 H0 C E0 (gE Q) (f xs E)
theorem gos_nil : ∀ vs σ H Q, tGOs Γ W cl (fun xs E => match xs with
    | [] => .nx E
    | _ => .bad) vs σ H Q → gNil vs σ H Q := by
  intro vs σ H Q ⟨E, C, xs, E0, σ0, H0, t, nn, re, hv, p⟩
  cases xs with
  | nil =>
    cases vs with
    | nil => exact ⟨rfl, p σ H t (re.fewer fun a z => .inl z)⟩
    | cons v vs => exact hv.elim
  | cons x xs => exact p.elim
theorem HV.cons_inv {x : Bool × D} {xs : List (Bool × D)} {vs : List V} {F C : Addr → Prop} (h : HV Γ H F C (x :: xs) vs) : ∃ v vs', vs = v :: vs' := by
  cases vs with
  | nil => obtain ⟨o, d⟩ := x; cases o <;> exact h.elim
  | cons v vs => exact ⟨v, vs, rfl⟩
theorem gos_nm {i : Nat} {g : List (Bool × D) → En → Out} {u : TGs} (hu : ∀ vs σ H Q, tGOs Γ W cl g vs σ H Q → u vs σ H Q) : ∀ vs σ H Q, tGOs Γ W cl (fun xs E => match xs with
    | x :: xs => (storeS E i x.1 x.2).only.then (g xs)
    | [] => .bad) vs σ H Q → gCons (gName i) u vs σ H Q := by
  intro vs σ H Q ⟨E, C, xs, E0, σ0, H0, t, nn, re, hv, p⟩
  cases xs with
  | nil => exact p.elim
  | cons x xs =>
    obtain ⟨v, vs, rfl⟩ := hv.cons_inv
    obtain ⟨o, d⟩ := x
    refine ⟨v, vs, rfl, hu vs (σ.set i (some v)) H Q ?_⟩
    dsimp only at p
    unfold storeS at p
    cases hl : locked E i with
    | true => rw [hl] at p; exact p.elim
    | false =>
      rw [hl, if_neg Bool.false_ne_true] at p
      by_cases hi : i < E.length
      · rw [if_pos hi] at p
        cases o with
        | false =>
          obtain ⟨rp, hv⟩ := hv
          have re : RE Γ H (fun a => C a ∨ HO xs vs a) E σ := re
          obtain ⟨r1, t1⟩ := re.store hl rp
          refine ⟨_, C, xs, E0, σ0, H0, t.trans t1, fun q z => nn q z, r1, hv.stay (.weak fun a z => ?_) (fun _ _ => id), p⟩
          rcases z with z | ⟨j, s, g, ow, e⟩
          · exact .inl z
          · rcases gt_set g with ⟨rfl, z⟩ | ⟨n, z⟩
            · cases z; cases ow
            · rw [List.getElem?_set_ne (Ne.symm n)] at e
              exact .inr ⟨j, s, z, ow, e⟩
        | true =>
          obtain ⟨pp, rfl, nc, cn, hv⟩ := hv
          have ec : (fun a => C a ∨ HO ((true, d) :: xs) (V.ref pp :: vs) a) = fun a => (C a ∨ HO xs vs a) ∨ a = pp := by
            funext a
            refine propext ⟨fun z => ?_, fun z => ?_⟩
            · rcases z with z | z | z
              · exact .inl (.inl z)
              · cases z; exact .inr rfl
              · exact .inl (.inr z)
            · rcases z with (z | z) | z
              · exact .inl z
              · exact .inr (.inr z)
              · rw [z]; exact .inr (.inl rfl)
          rw [ec] at re cn hv
          have n2 : ¬ (C pp ∨ HO xs vs pp) := fun z => z.elim nc fun z => hv.out z (.inr rfl)
          obtain ⟨r1, fz⟩ := re.storeO (C := fun a => C a ∨ HO xs vs a) hl n2 hi cn
          exact ⟨_, C, xs, E0, σ0, H0, tr_storeO (H0 := H0) t hl (nn pp (.inl rfl)) hi re.len, fun q z => nn q (.inr z), r1, (hv.stay (.weak fz) (fun _ _ => id)).mono fun a z => .inl z, p⟩
      · rw [if_neg hi] at p; exact p.elim
theorem gos_tg {e : Expr} {f : D → En → Out} {g : List (Bool × D) → En → Out} {u : TGs} (hu : ∀ vs σ H Q, tGOs Γ W cl g vs σ H Q → u vs σ H Q) : ∀ vs σ H Q, tGOs Γ W cl (fun xs E => match xs with
    | x :: xs => (f x.2 E).only.then (g xs)
    | [] => .bad) vs σ H Q → gCons (tG Γ W cl (fun _ => True) f) u vs σ H Q := by
  intro vs σ H Q ⟨E, C, xs, E0, σ0, H0, t, nn, re, hv, p⟩
  cases xs with
  | nil => exact p.elim
  | cons x xs =>
    obtain ⟨v, vs, rfl⟩ := hv.cons_inv
    obtain ⟨o, d⟩ := x
    -- the value is shared
    have key : RE Γ H (fun a => C a ∨ HO xs vs a) E σ ∧ Rep Γ H (Fz (fun a => C a ∨ HO xs vs a) E σ) d v ∧ HV Γ H (Fz (fun a => C a ∨ HO xs vs a) E σ) C xs vs ∧ ∀ q, HO xs vs q → H0 q = none := by
      cases o with
      | false => exact ⟨re, hv.1, hv.2, fun q z => nn q z⟩
      | true =>
        obtain ⟨pp, rfl, nc, cn, hv⟩ := hv
        have sub : ∀ a, (C a ∨ HO xs vs a) → (C a ∨ HO ((true, d) :: xs) (V.ref pp :: vs) a) := fun a z => z.imp id .inr
        have fz : ∀ a, Fz (fun a => C a ∨ HO xs vs a) E σ a → Fz (fun a => C a ∨ HO ((true, d) :: xs) (V.ref pp :: vs) a) E σ a := fun a z => z.imp (sub a) id
        refine ⟨re.fewer sub, (cn.stay (.weak fz) id).rep fun z => ?_, (hv.stay (.weak fz) (fun _ _ => id)).mono fun a z => .inl z, fun q z => nn q (.inr z)⟩
        rcases z with (z | z) | ⟨j, z⟩
        · exact nc z
        · exact hv.out z (.inr rfl)
        · exact re.dis j pp z (.inr (.inl rfl))
    obtain ⟨re1, rp, hv1, nn1⟩ := key
    refine ⟨v, vs, rfl, E, _, d, re1, rp, ?_⟩
    dsimp only at p
    cases h : f d E with
    | nx E1 =>
      rw [h] at p
      intro σ1 H1 t1 r1 _
      refine hu vs σ1 H1 Q ⟨E1, C, xs, E0, σ0, H0, t.trans t1, nn1, r1, hv1.stay (re1.stay t1 fun a z => t1.fz' z) (fun a z => re1.notMu (.inr z)), p⟩
    | ex c E1 =>
      rw [h] at p
      exact fun σ1 H1 t1 r1 _ => p σ1 H1 (t.trans t1) (r1.fewer fun a z => .inl z)
    | _ => rw [h] at p; exact p.elim
theorem par_core {f : En → OR} {g : List (Bool × D) → En → Out} {n : Nat} (hn : ∀ E xs E1, f E = .ok xs E1 → xs.length = n) : ∀ Dn σ H, tS Γ W cl (fun E => match f E with
    | .ok xs E1 => (g xs E1).only
    | .ex c E1 => .ex c E1
    | .bad => .bad) Dn σ H → tOs Γ W cl f σ H fun vs H1 => vs.length = n ∧ tGOs Γ W cl g vs σ H1 Dn.nx ∧ ∀ p, H1 p = none → tGOs Γ W cl g vs σ (upd H1 p (.tup vs)) Dn.nx := by
  intro Dn σ H ⟨E, C, re, p⟩
  refine ⟨E, C, re, ?_⟩
  dsimp only at p
  cases h : f E with
  | bad => rw [h] at p; exact p
  | ex c E1 => rw [h] at p; exact fun H' t r => p σ H' t r
  | ok xs E1 =>
    rw [h] at p
    dsimp only at p
    have p : PostS Γ W cl σ H C E (gE Dn.nx) (g xs E1) := by
      cases q : g xs E1 with
      | nx E2 => rw [q] at p; exact p
      | ex c E2 => rw [q] at p; exact p
      | _ => rw [q] at p; exact p.elim
    intro vs H1 t r hv nn
    refine ⟨?_, ⟨E1, C, xs, E, σ, H, t, nn, r, hv, p⟩, fun q nq => ?_⟩
    · rw [← hv.len]; exact hn _ _ _ h
    · have sm : Same H1 (upd H1 q (.tup vs)) := same_upd' nq
      have r' : RE Γ (upd H1 q (.tup vs)) (fun a => C a ∨ HO xs vs a) E1 σ := r.grow sm (fun a z => .inl z) fun a z => (Tr.grow (E := E1) (σ := σ) sm).there a (r.cH a z)
      exact ⟨E1, C, xs, E, σ, H, t.trans (.grow sm), nn, r', hv.stay (.same sm fun a z => .inl z) (fun _ _ => id), p⟩
theorem tOs_mono {f : En → OR} {R R' : List V → Hp → Prop} (h : tOs Γ W cl f σ H R) (i : ∀ vs H1, R vs H1 → R' vs H1) : tOs Γ W cl f σ H R' := by
  obtain ⟨E, C, re, p⟩ := h
  refine ⟨E, C, re, ?_⟩
  cases q : f E with
  | bad => rw [q] at p; exact p
  | ex c E1 => rw [q] at p; exact p
  | ok xs E1 => rw [q] at p; exact fun vs H1 t r hv nn => i _ _ (p vs H1 t r hv nn)
/-- (..) = .., taken apart -/
theorem ps_parE {es ts : List Expr} {k1 k2 n : Nat} {p1 p2 : Pos} {f : En → OR} {g : List (Bool × D) → En → Out} {u : TGs} (hz : n ≤ SZ) (hn : ∀ E xs E1, f E = .ok xs E1 → xs.length = n) (hc : X.calm = true) (ha : PA X es (tOs Γ W cl f)) (hg : PGs X ts u) (hu : ∀ vs σ H Q, tGOs Γ W cl g vs σ H Q → u vs σ H Q)
    (hl : (assignEach ts X.env).length = n) (hst : (assignEach ts X.env).findIdx? (·.1) = none) (hs : swapsWithSole [.Tuple ts k1 p1] (.Tuple es k2 p2) pos.line X.env = pure false) (hw : swappedStores [.Tuple ts k1 p1] (.Tuple es k2 p2) X.env = pure none) (h1 : (assignEach [.Tuple ts k1 p1] X.env).map (·.2) = [assign (.Tuple ts k1 p1) X.env]) :
    PS X (.Assign [.Tuple ts k1 p1] (.Tuple es k2 p2) pos) (tS Γ W cl fun E => match f E with
    | .ok xs E1 => (g xs E1).only
    | .ex c E1 => .ex c E1
    | .bad => .bad) :=
  (ps_asg (pe_tup ha) (pg_tup hc hg hl hst) hs hw h1).conseq fun Dn σ H h => tOs_mono (par_core hn Dn σ H h) fun vs H1 ⟨l, _, q⟩ =>
    ⟨by rw [l]; exact sz_le hz, fun p np => ⟨p, vs, rfl, .inl (.inl upd_same), l, hu vs σ _ _ (q p np)⟩⟩
theorem ps_par2E {i j : Nat} {x y : Str} {a b : Expr} {px py pt : Pos} {kt k2 pt2} {f : En → OR} {g : List (Bool × D) → En → Out} (hn : ∀ E xs E1, f E = .ok xs E1 → xs.length = 2) (hc : X.calm = true) (hN : X.N.Nodup) (hi : X.N[i]? = some x) (hj : X.N[j]? = some y) (hij : i ≠ j)
    (hx : X.env.scope.names.lookup x = some .local) (hy : X.env.scope.names.lookup y = some .local) (ha : PA X [a, b] (tOs Γ W cl f)) (hu : ∀ vs σ H Q, tGOs Γ W cl g vs σ H Q → gCons (gName i) (gCons (gName j) gNil) vs σ H Q)
    (hw : swappedStores [.Tuple [.Name x px, .Name y py] kt pt] (.Tuple [a, b] k2 pt2) X.env = pure (some [x, y]))
    (hs : swapsWithSole [.Tuple [.Name x px, .Name y py] kt pt] (.Tuple [a, b] k2 pt2) pos.line X.env = pure false) :
    PS X (.Assign [.Tuple [.Name x px, .Name y py] kt pt] (.Tuple [a, b] k2 pt2) pos) (tS Γ W cl fun E => match f E with
    | .ok xs E1 => (g xs E1).only
    | .ex c E1 => .ex c E1
    | .bad => .bad) :=
  (ps_par hc hN hi hj hij hx hy ha hw hs).conseq fun Dn σ H h => tOs_mono (par_core hn Dn σ H h) fun vs H1 ⟨l, q, _⟩ => by
    obtain ⟨v, r, rfl, w, r', rfl, rfl, q2⟩ := hu vs σ H1 _ q
    exact ⟨v, w, rfl, q2⟩
theorem ps_par3E {i j l : Nat} {x y z : Str} {a b c : Expr} {px py pz pt : Pos} {kt k2 pt2} {f : En → OR} {g : List (Bool × D) → En → Out} (hn : ∀ E xs E1, f E = .ok xs E1 → xs.length = 3) (hc : X.calm = true) (hN : X.N.Nodup) (hi : X.N[i]? = some x) (hj : X.N[j]? = some y) (hl : X.N[l]? = some z) (hij : i ≠ j) (hil : i ≠ l) (hjl : j ≠ l)
    (hx : X.env.scope.names.lookup x = some .local) (hy : X.env.scope.names.lookup y = some .local) (hz : X.env.scope.names.lookup z = some .local) (ha : PA X [a, b, c] (tOs Γ W cl f)) (hu : ∀ vs σ H Q, tGOs Γ W cl g vs σ H Q → gCons (gName i) (gCons (gName j) (gCons (gName l) gNil)) vs σ H Q)
    (hw : swappedStores [.Tuple [.Name x px, .Name y py, .Name z pz] kt pt] (.Tuple [a, b, c] k2 pt2) X.env = pure (some [x, y, z]))
    (hs : swapsWithSole [.Tuple [.Name x px, .Name y py, .Name z pz] kt pt] (.Tuple [a, b, c] k2 pt2) pos.line X.env = pure false) :
    PS X (.Assign [.Tuple [.Name x px, .Name y py, .Name z pz] kt pt] (.Tuple [a, b, c] k2 pt2) pos) (tS Γ W cl fun E => match f E with
    | .ok xs E1 => (g xs E1).only
    | .ex c E1 => .ex c E1
    | .bad => .bad) :=
  (ps_par3 hc hN hi hj hl hij hil hjl hx hy hz ha hw hs).conseq fun Dn σ H h => tOs_mono (par_core hn Dn σ H h) fun vs H1 ⟨_, q, _⟩ => by
    obtain ⟨v, r, rfl, w, r', rfl, w2, r2, rfl, rfl, q2⟩ := hu vs σ H1 _ q
    exact ⟨v, w, w2, rfl, q2⟩
theorem ps_augE {i : Nat} {x : Str} {op : Operator} {p : P2} {p0 : Pos} (hK : X.K = Γ.K) (hp : (p = .add ∧ op = .Add) ∨ (p = .sub ∧ op = .Sub)) (hN : X.N.Nodup) (hi : X.N[i]? = some x) (hx : Loc X.env.scope x) (he : PE X e (tO Γ W cl (asVar A) fa)) (hf : X.fn x = true ∨ X.env.scope.names.lookup x = some .local) :
    PS X (.AugAssign (.Name x p0) op e pos) (tS Γ W cl fun E => match gt E i with
    | some s => (opB (asVar A) fa E fun y E1 => augOp Γ.G p s.d y E1).out fun o d E1 => storeS E1 i false d
    | none => .bad) := by
  have key : ∀ (f : Int → Int → Int), (∀ k j, pr2 Γ.G p (.int k) (.int j) = some (false, .int (f k j))) → ∀ Dn σ H, tS Γ W cl (fun E => match gt E i with
    | some s => (opB (asVar A) fa E fun y E1 => augOp Γ.G p s.d y E1).out fun o d E1 => storeS E1 i false d
    | none => .bad) Dn σ H → tAug i (tO Γ W cl (asVar A) fa) (ipI f) Dn σ H := by
    intro f hpf Dn σ H ⟨E, C, re, pp⟩
    dsimp only at pp
    cases g : gt E i with
    | none => rw [g] at pp; exact pp.elim
    | some s =>
      rw [g] at pp
      dsimp only at pp
      obtain ⟨v, hv, sr⟩ := re.slot i s g
      refine ⟨v, hv, ?_⟩
      have p2 : Post Γ W cl σ H C E (fun v H1 => Dn.nx (σ.set i (some v)) H1) (opB (asVar A) fa E fun y E1 => augOp Γ.G p s.d y E1) := PostS.out pp fun o d v E1 H1 t vr q => by
        obtain ⟨r1, rp⟩ := vr.share
        unfold storeS at q
        cases hl : locked E1 i with
        | true => rw [hl] at q; exact q.elim
        | false =>
          rw [hl, if_neg Bool.false_ne_true] at q
          by_cases hi : i < E1.length
          · rw [if_pos hi] at q
            obtain ⟨r2, t2⟩ := r1.store hl rp
            exact q _ H1 (t.trans t2) r2
          · rw [if_neg hi] at q; exact q.elim
      refine tO_of re p2 fun y w E1 H1 hy r1 t p1 => ?_
      unfold augOp at p1
      refine fin1_of r1 hy p1 fun F b o d' hF ob hg q => ?_
      cases hd : s.d with
      | int k =>
        have eb : pr2 Γ.G p (.int k) b = some (o, d') := by
          rw [hd] at hg
          rcases hp with ⟨rfl, _⟩ | ⟨rfl, _⟩ <;> exact hg
        have ev : v = .int k := (hd ▸ sr.ob).int
        cases b with
        | int j =>
          rw [hpf] at eb
          cases eb
          cases ob.int
          exact ⟨k, j, ev, rfl, q.int⟩
        | _ => rcases hp with ⟨rfl, _⟩ | ⟨rfl, _⟩ <;> cases eb
      | _ => rw [hd] at hg; rcases hp with ⟨rfl, _⟩ | ⟨rfl, _⟩ <;> cases hg
  rcases hp with ⟨rfl, rfl⟩ | ⟨rfl, rfl⟩
  · exact (ps_aug hN hi hx he ip_add hf).conseq (key _ fun k j => rfl)
  · exact (ps_aug hN hi hx he ip_sub hf).conseq (key _ fun k j => rfl)

/-! ### loops -/
theorem own_unlock {lk : List Nat} {j : Nat} {d : D} (h : gt E j = some (.own d)) : gt (unlockAll lk E) j = some (.own d) := by
  induction lk generalizing E with
  | nil => exact h
  | cons i lk ih =>
    refine ih ?_
    rw [gt_unlock]
    by_cases e : j = i
    · subst e; rw [if_pos rfl, h]
    · rw [if_neg e]; exact h
theorem VRO.unlock {lk : List Nat} {o : Bool} {d : D} {v : V} {E3 E4 : En} {σ4 σ5 : L2.St} {H4 H5 : Hp} (l : LK Γ lk E σ H E1 H1) (t3 : Tr E1 σ H1 E3 σ4 H4) (r3 : RE Γ H4 C E3 σ4) (t4 : Tr E3 σ4 H4 E4 σ5 H5) (h : VRO Γ E3 σ4 H4 H5 C o d v E4 σ5) :
    Tr E σ H (unlockAll lk E4) σ5 H5 ∧ VRO Γ E σ H H5 C o d v (unlockAll lk E4) σ5 := by
  cases o with
  | false =>
    obtain ⟨r, rp⟩ := h
    obtain ⟨t, r', f⟩ := l C E4 σ5 H5 (t3.trans t4) r
    exact ⟨t, r', rp.stay (.weak fun a z => (f a).mp z)⟩
  | true =>
    obtain ⟨p, rfl, n, nc, r, cn⟩ := h
    obtain ⟨t, r', f⟩ := l _ E4 σ5 H5 (t3.trans t4) r
    refine ⟨t, p, rfl, ?_, nc, r', cn.stay (.weak fun a z => (f a).mp z) id⟩
    obtain ⟨t0, _, _⟩ := l C E3 σ4 H4 t3 r3
    rcases n with ⟨j, d', g, e⟩ | n
    · exact t0.own j p d' (own_unlock g) e
    · exact .inr (none_back t0 n)
theorem for_of {fw : En → IR} {ft : D → En → Out} {fb : En → Out} : ∀ Dn σ H, tS Γ W cl (fun E => (fw E).for_ fun xs E1 => forL ft fb xs E1) Dn σ H → tFor (tW Γ W cl fw) (tG Γ W cl (fun _ => True) ft) (tS Γ W cl fb) Dn σ H := by
  intro Dn σ H ⟨E, C, re, p⟩
  refine ⟨E, C, re, ?_⟩
  dsimp only at p
  cases hw : fw E with
  | bad => rw [hw] at p; exact p
  | ex c E1 => rw [hw] at p; exact fun H' t r => p σ H' t r
  | ok xs lk E1 =>
    rw [hw] at p
    intro J H1 r1 jw lk1 th
    dsimp only [IR.for_] at p
    have p : ∃ r0, r0 = forL ft fb xs E1 ∧ PostS Γ W cl σ H C E Dn (r0.map (unlockAll lk)) := ⟨_, rfl, p⟩
    obtain ⟨r0, er0, p⟩ := p
    refine ⟨fun i m σ2 H2 => m = xs.length - i ∧ i ≤ xs.length ∧ ∃ E2, RE Γ H2 C E2 σ2 ∧ Tr E1 σ H1 E2 σ2 H2 ∧ r0 = forL ft fb (xs.drop i) E2, ⟨xs.length, by simp, Nat.zero_le _, E1, r1, .refl, er0⟩, ?_⟩
    rintro i m σ2 H2 ⟨rfl, hi, E2, r2, t2, e0⟩
    obtain ⟨jw1, jw2⟩ := jw C E2 σ2 H2 (fun a z => .inl z) t2 r2
    have bad : r0 ≠ .bad := fun z => by rw [z] at p; exact p
    by_cases hlt : i < xs.length
    · have ei : xs[i]? = some xs[i] := List.getElem?_eq_getElem hlt
      obtain ⟨go, yl⟩ := jw1 i _ ei
      rw [List.drop_eq_getElem_cons hlt] at e0
      unfold forL at e0
      refine .inr ⟨go, fun σ5 H5 => ∃ E5, RE Γ H5 C E5 σ5 ∧ Tr E1 σ H1 E5 σ5 H5 ∧ r0 = forL ft fb (xs.drop (i + 1)) E5, fun σ' H' n => ⟨xs.length - (i + 1), by omega, rfl, hlt, n⟩, fun x H3 y => ?_⟩
      obtain ⟨sm, rx⟩ := yl x H3 y
      have t3 : Tr E2 σ2 H2 E2 σ2 H3 := .grow sm
      have r3 : RE Γ H3 C E2 σ2 := r2.grow sm (fun a z => .inl z) fun a z => t3.there a (r2.cH a z)
      refine ⟨E2, C, xs[i], r3, rx, ?_⟩
      cases ht : ft xs[i] E2 with
      | nx E3 =>
        rw [ht] at e0
        dsimp only at e0
        intro σ4 H4 t4 r4 _
        have t14 : Tr E1 σ H1 E3 σ4 H4 := (t2.trans t3).trans t4
        refine ⟨E3, C, r4, ?_⟩
        cases hb : fb E3 with
        | nx E4 => rw [hb] at e0; exact fun σ5 H5 t5 r5 => ⟨E4, r5, t14.trans t5, e0⟩
        | ct E4 => rw [hb] at e0; exact fun σ5 H5 t5 r5 => ⟨E4, r5, t14.trans t5, e0⟩
        | bk E4 =>
          rw [hb] at e0
          dsimp only at e0
          subst e0
          intro σ5 H5 t5 r5
          obtain ⟨t6, r6, _⟩ := lk1 C E4 σ5 H5 (t14.trans t5) r5
          exact p σ5 H5 t6 r6
        | rt o d E4 =>
          rw [hb] at e0
          dsimp only at e0
          subst e0
          intro v σ5 H5 t5 vr
          obtain ⟨t6, v6⟩ := VRO.unlock lk1 t14 r4 t5 vr
          exact p v σ5 H5 t6 v6
        | ex c E4 =>
          rw [hb] at e0
          dsimp only at e0
          subst e0
          intro σ5 H5 t5 r5
          obtain ⟨t6, r6, _⟩ := lk1 C E4 σ5 H5 (t14.trans t5) r5
          exact p σ5 H5 t6 r6
        | bad => rw [hb] at e0; exact absurd e0 bad
      | ex c E3 =>
        rw [ht] at e0
        dsimp only at e0
        subst e0
        intro σ4 H4 t4 r4 _
        obtain ⟨t6, r6, _⟩ := lk1 C E3 σ4 H4 ((t2.trans t3).trans t4) r4
        exact p σ4 H4 t6 r6
      | _ => rw [ht] at e0; exact absurd e0 bad
    · have ei : i = xs.length := by omega
      subst ei
      rw [List.drop_length] at e0
      unfold forL at e0
      subst e0
      obtain ⟨t6, r6, _⟩ := lk1 C E2 σ2 H2 t2 r2
      exact .inl ⟨jw2, p σ2 H2 t6 r6⟩
theorem ps_forE {tg iter : Expr} {body : List Stmt} {fw : En → IR} {ft : D → En → Out} {fb : En → Out} (hp : PassesOwn (model X.prog X.w) X.A X.env X.xe) (hc : X.calm = true) (hi : PI X tg iter (tW Γ W cl fw)) (hg : PG X tg (tG Γ W cl (fun _ => True) ft)) (hb : PSs X body (tS Γ W cl fb))
    (hs : ∀ x, foldedSetIterable iter X.env x = pure x) : PS X (.For tg iter body [] pos) (tS Γ W cl fun E => (fw E).for_ fun xs E1 => forL ft fb xs E1) := (ps_for hp hc hi hg hb hs).conseq for_of
theorem while_of {fc : En → ER} {fb : En → Out} : ∀ Dn σ H, tS Γ W cl (whileE fc fb) Dn σ H → tWhile (tIT Γ W cl fc) (tS Γ W cl fb) Dn σ H := by
  intro Dn σ H ⟨E, C, re, p⟩
  have p : ∃ n, PostS Γ W cl σ H C E Dn (whileN fc fb n E) := by
    unfold whileE at p
    split at p
    · exact ⟨_, p⟩
    · exact p.elim
  obtain ⟨n, p⟩ := p
  refine ⟨fun m σ2 H2 => ∃ E2 C2, RE Γ H2 C2 E2 σ2 ∧ PostS Γ W cl σ2 H2 C2 E2 Dn (whileN fc fb m E2), ⟨n, E, C, re, p⟩, ?_⟩
  rintro m σ2 H2 ⟨E2, C2, r2, p⟩
  cases m with
  | zero => exact p.elim
  | succ m =>
    refine ⟨E2, C2, r2, ?_⟩
    unfold whileN at p
    cases hc : fc E2 with
    | bad => rw [hc] at p; exact p
    | ex c E3 => rw [hc] at p; exact fun H' t r => p σ2 H' t r
    | ok o d E3 =>
      rw [hc] at p
      cases d with
      | bl b =>
        intro H3 t3 r3
        cases b with
        | false => rw [if_neg Bool.false_ne_true]; exact p σ2 H3 t3 r3
        | true =>
          rw [if_pos rfl]
          dsimp only at p
          refine ⟨fun σ' H' => ∃ E' C', RE Γ H' C' E' σ' ∧ PostS Γ W cl σ' H' C' E' Dn (whileN fc fb m E'), fun σ' H' q => ⟨m, Nat.lt_succ_self m, q⟩, E3, C2, r3, ?_⟩
          cases hb : fb E3 with
          | nx E4 => rw [hb] at p; exact fun σ5 H5 t5 r5 => ⟨E4, C2, r5, PostS.step (r := whileN fc fb m E4) p (t3.trans t5)⟩
          | ct E4 => rw [hb] at p; exact fun σ5 H5 t5 r5 => ⟨E4, C2, r5, PostS.step (r := whileN fc fb m E4) p (t3.trans t5)⟩
          | bk E4 => rw [hb] at p; exact fun σ5 H5 t5 r5 => p σ5 H5 (t3.trans t5) r5
          | rt o d E4 => rw [hb] at p; exact fun v σ5 H5 t5 vr => p v σ5 H5 (t3.trans t5) (vr.step t3)
          | ex c E4 => rw [hb] at p; exact fun σ5 H5 t5 r5 => p σ5 H5 (t3.trans t5) r5
          | bad => rw [hb] at p; exact p.elim
      | _ => exact p.elim
theorem ps_whileE' {body : List Stmt} {fc : En → ER} {fb : En → Out} (hp : PassesOwn (model X.prog X.w) X.A X.env X.xe) (hc : PT X c (tIT Γ W cl fc)) (hb : PSs X body (tS Γ W cl fb)) : PS X (.While c body [] pos) (tS Γ W cl (whileE fc fb)) := (ps_while hp hc hb).conseq while_of
end
end Rx
set_option maxHeartbeats 1000000
/-! RxS: does a term tell an expression? -/
namespace Rx
open PySem PySem.Spec PyProof.Rows L2
/-- what is known of the names -/
structure KX where
  N : List Str
  sc : Scope
  fn : Str → Bool
  gc : List Str
  fns : List (Str × Nat)
  bl : List Str
def KX.vis (k : KX) (x : Str) : Bool := match k.sc.names.lookup x with
  | some .local => true
  | some .cell => true
  | some .free => true
  | _ => false
def KX.gl (k : KX) (x : Str) : Bool := match k.sc.names.lookup x with
  | some .globalImplicit => true
  | _ => false
/-- may be stored -/
def KX.sto (k : KX) (x : Str) : Bool := match k.sc.names.lookup x with
  | some .local => true
  | some .cell => k.fn x
  | _ => false
def okN (x : Str) : Bool := !(x == ("__debug__" : Str)) && !(x == ("__classdict__" : Str)) && !(x == ("__name__" : Str))
def KX.var (k : KX) (i : Nat) (x : Str) : Bool := decide (k.N[i]? = some x) && k.vis x && okN x
/-- a built-in's name, not taken by the module -/
def KX.blt (k : KX) (x : Str) (n : String) : Bool := decide (x = (n : Str)) && k.gl x && k.bl.contains x && okN x
def tyNs : List String := ["tuple", "list", "int", "bool", "str"]
def ownOf (N : List Str) (vs : List Nat) : List (Str × Nat) := vs.map fun v => (N.getD v ⟨#[]⟩, v)
def KX.blk (k : KX) (scope : Scope) : KX := { k with sc := relS scope k.sc, fn := fun x => scope.names.lookup x == some .cell }
def Tms.len : Tms → Nat
  | .nil => 0
  | .cons _ r => r.len + 1
mutual
def chkE : Tm → Expr → KX → Bool
  | .cst d, e, k => (match e with
    | .Constant c _ _ => cstOk d c
    | _ => false)
  | .var i, e, k => (match e with
    | .Name x _ => k.var i x
    | _ => false)
  | .glob j, e, k => (match e with
    | .Name x _ => decide (k.gc[j]? = some x) && k.gl x && okN x
    | _ => false)
  | .no, e, k => (match e with
    | .Call .. => true
    | _ => false)
  | .idx i a, e, k => (match e with
    | .Call (.Attribute (.Name x _) nm apos) [a'] [] cpos => decide (nm = ("index" : Str)) && k.var i x && (apos.endLine == cpos.line) && chkE a a' k
    | _ => false)
  | .rng a b, e, k => (match e with
    | .Call (.Name x _) [.Call (.Name y _) [b'] [] _] [] _ => k.blt x "list" && k.blt y "range" && (match a with
      | .cst (.int i) => decide (i = 0)
      | _ => false) && chkE b b' k
    | .Call (.Name x _) [.Call (.Name y _) [a', b'] [] _] [] _ => k.blt x "list" && k.blt y "range" && (chkE a a' k && chkE b b' k)
    | _ => false)
  | .p1 p a, e, k => (match e with
    | .UnaryOp .USub a' _ => decide (p = .neg) && chkE a a' k
    | .Call (.Name x _) [a'] [] _ => (match p.fv with
      | some (n, _) => k.blt x n && chkE a a' k
      | none => false)
    | _ => false)
  | .p2 p a b, e, k => (match e with
    | .BinOp a' op b' _ => decide (p.op = some op) && (chkE a a' k && chkE b b' k)
    | .Subscript a' b' _ => decide (p = .item) && (chkE a a' k && chkE b b' k)
    | .Call (.Name x _) [a', b'] [] _ => (match p.fn with
      | some (n, _) => k.blt x n && (chkE a a' k && chkE b b' k)
      | none => false)
    | _ => false)
  | .cmp c a b, e, k => (match e with
    | .Compare a' [op] [b'] _ => decide (c.op = op) && !behindInMarks op b' && (chkE a a' k && chkE b b' k)
    | _ => false)
  | .chain c c' a b d, e, k => (match e with
    | .Compare a' [op, op'] [b', d'] _ => decide (c.op = op) && decide (c'.op = op') && !lastMarks [op, op'] [b', d'] && (chkE a a' k && chkE b b' k && chkE d d' k)
    | _ => false)
  | .and a b, e, k => (match e with
    | .BoolOp .And (a' :: b' :: r) pos => chkE a a' k && chkE b (.BoolOp .And (b' :: r) pos) k
    | _ => false)
  | .or a b, e, k => (match e with
    | .BoolOp .Or (a' :: b' :: r) pos => chkE a a' k && chkE b (.BoolOp .Or (b' :: r) pos) k
    | _ => false)
  | .one a, e, k => (match e with
    | .BoolOp _ [a'] _ => chkE a a' k
    | _ => false)
  | .not a, e, k => (match e with
    | .UnaryOp .Not a' _ => chkE a a' k
    | _ => false)
  | .ifx c a b, e, k => (match e with
    | .IfExp c' a' b' _ => chkE c c' k && (chkE a a' k && chkE b b' k)
    | _ => false)
  | .tup ts, e, k => (match e with
    | .Tuple es _ _ => decide (ts.len ≤ 64) && chkEs ts es k
    | _ => false)
  | .lst ts, e, k => (match e with
    | .List es _ => decide (ts.len ≤ 64) && chkEs ts es k
    | _ => false)
  | .dict0 t, e, k => (match e with
    | .Dict [] [] _ => true
    | _ => false)
  | .slice a lo hi, e, k => (match e with
    | .Subscript a' (.Slice lo' hi' none _) _ => chkE a a' k && (chkB lo lo' k && chkB hi hi' k)
    | _ => false)
  | .isinst a ty, e, k => (match e with
    | .Call (.Name x _) [a', .Name y _] [] _ => k.blt x "isinstance" && k.blt y ty && tyNs.contains ty && chkE a a' k
    | _ => false)
  | .call f ts, e, k => (match e with
    | .Call (.Name x _) (e' :: es) [] _ => decide (k.fns[f]? = some (x, ts.len)) && k.gl x && okN x && chkEs ts (e' :: es) k
    | _ => false)
  | .meth m i ts, e, k => (match e with
    | .Call (.Attribute (.Name x _) nm apos) es [] cpos => decide (nm = (m.id : Str)) && k.var i x && (apos.endLine == cpos.line) && decide (ts.len ≤ 20) && chkEs ts es k
    | _ => false)
  | .lc e g it c vs, ex, k => (match ex with
    | .ListComp elt [⟨tg, iter, ifs, as⟩] scope _ => decide (as = 0) && blkC k.N k.sc scope (ownOf k.N vs) && (chkI it iter tg k && (chkG g tg (k.blk scope) (some vs) && (chkE e elt (k.blk scope) && (match c with
      | none => (match ifs with
        | [] => true
        | _ => false)
      | some c => (match ifs with
        | [c'] => chkE c c' (k.blk scope)
        | _ => false)))))
    | _ => false)
  | .lcd e g i itm c vs, ex, k => (match ex with
    | .ListComp elt [⟨tg, iter, ifs, as⟩] scope _ => decide (as = 0) && blkC k.N k.sc scope (ownOf k.N vs) && ((match iter with
      | .Name x _ => !itm && k.var i x
      | .Call (.Attribute (.Name x _) nm apos) [] [] cpos => itm && decide (nm = ("items" : Str)) && k.var i x && (apos.endLine == cpos.line) && (match tg with
        | .Tuple .. => true
        | _ => false)
      | _ => false) && (chkG g tg (k.blk scope) (some vs) && (chkE e elt (k.blk scope) && (match c with
      | none => (match ifs with
        | [] => true
        | _ => false)
      | some c => (match ifs with
        | [c'] => chkE c c' (k.blk scope)
        | _ => false)))))
    | _ => false)
def chkEs : Tms → List Expr → KX → Bool
  | .nil, es, k => (match es with
    | [] => true
    | _ => false)
  | .cons t r, es, k => (match es with
    | e :: es => chkE t e k && chkEs r es k
    | [] => false)
def chkB : Bd → Option Expr → KX → Bool
  | .no, e, k => (match e with
    | none => true
    | _ => false)
  | .at t, e, k => (match e with
    | some e => chkE t e k
    | none => false)
def chkI : It → Expr → Expr → KX → Bool
  | .seq a, e, tg, k => chkE a e k
  | .range1 a, e, tg, k => (match e with
    | .Call (.Name x _) [a'] [] _ => k.blt x "range" && chkE a a' k
    | _ => false)
  | .range2 a b, e, tg, k => (match e with
    | .Call (.Name x _) [a', b'] [] _ => k.blt x "range" && (chkE a a' k && chkE b b' k)
    | _ => false)
  | .enum a, e, tg, k => (match e, tg with
    | .Call (.Name x _) [a'] [] _, .Tuple _ _ _ => k.blt x "enumerate" && chkE a a' k
    | _, _ => false)
  | .zip a b, e, tg, k => (match e, tg with
    | .Call (.Name x _) [a', b'] [] _, .Tuple _ _ _ => k.blt x "zip" && (chkE a a' k && chkE b b' k)
    | _, _ => false)
def chkG : Tg → Expr → KX → Option (List Nat) → Bool
  | .nm i, e, k, ch => (match e with
    | .Name x _ => decide (k.N[i]? = some x) && k.sto x && (match ch with
      | none => true
      | some l => l.contains i)
    | _ => false)
  | .tup gs, e, k, ch => (match e with
    | .Tuple es _ _ => decide (gs.len = es.length) && chkGs gs es k ch
    | _ => false)
  | .sub i ix, e, k, ch => (match e with
    | .Subscript (.Name x _) ix' _ => k.var i x && chkE ix ix' k
    | _ => false)
def chkGs : Tgs → List Expr → KX → Option (List Nat) → Bool
  | .nil, es, k, ch => (match es with
    | [] => true
    | _ => false)
  | .cons g r, es, k, ch => (match es with
    | e :: es => chkG g e k ch && chkGs r es k ch
    | [] => false)
end
def isComp : Expr → Bool
  | .ListComp .. => true
  | _ => false
/-- is a name stored while a list comprehension still runs? -/
def lateB (k : KX) (x : Str) (p0 : Pos) : Expr → Bool
  | .ListComp _ _ scope cpos => (k.sc.names.lookup x == some .local) && (p0.line == cpos.line) && !(scope.names.any fun (n, k) => n == x && (k == .local || k == .cell))
  | _ => false
/-- a target that may be stored from the right -/
def swT (k : KX) (l : Nat) : Expr → Bool
  | .Name x p => (k.sc.names.lookup x == some .local) && p.line == l
  | _ => false
def lineOf : List Expr → Nat
  | e :: _ => e.pos.line
  | [] => 0
def nmOf : Expr → Option Str
  | .Name x _ => some x
  | _ => none
/-- 2, 3: so many names, stored from the right; 0: from the left; 9: not told -/
def swM (k : KX) (ts es : List Expr) : Nat := match ts with
  | [a, b] => if es.all (foldedForSure 8) then 0 else if swT k (lineOf ts) a && swT k (lineOf ts) b then (if decide (nmOf a = nmOf b) || es.all (constantsAlone 8) then 9 else 2) else 0
  | [a, b, c] => if es.all (foldedForSure 8) then 0 else if swT k (lineOf ts) a && swT k (lineOf ts) b && swT k (lineOf ts) c then (if decide (nmOf a = nmOf b) || decide (nmOf a = nmOf c) || decide (nmOf b = nmOf c) || es.all (constantsAlone 8) then 9 else 3) else 0
  | _ => 0
def Tgs.nms : Tgs → Bool
  | .nil => true
  | .cons (.nm _) r => r.nms
  | _ => false
mutual
def chkS : St → Stmt → KX → List Str → Bool
  | .asg g a, s, k, ex => (match s with
    | .Assign [tg] e pos => chkE a e k && (match g with
      | .nm i => (match tg with
        | .Name x p0 => decide (k.N[i]? = some x) && k.sto x
        | _ => false)
      | g => chkG g tg k none && (match tg, e with
        | .Tuple .., .Tuple .. => false
        | .Tuple .., _ => true
        | .Subscript .., _ => true
        | _, _ => false))
    | _ => false)
  | .par gs ts, s, k, ex => (match s with
    | .Assign [.Tuple tgs _ _] (.Tuple es _ _) pos => decide (ts.len ≤ 64) && decide (gs.len = ts.len) && decide (tgs.length = ts.len) && decide (es.length = ts.len) && chkEs ts es k && chkGs gs tgs k none && (swM k tgs es == 0 || (swM k tgs es != 9 && gs.nms))
    | _ => false)
  | .aug i p a, s, k, ex => (match s with
    | .AugAssign (.Name x _) op e _ => (decide (p = .add ∧ op = .Add) || decide (p = .sub ∧ op = .Sub)) && decide (k.N[i]? = some x) && k.sto x && chkE a e k
    | _ => false)
  | .augs i ix p a, s, k, ex => false
  | .expr a, s, k, ex => (match s with
    | .Expr e _ => !isComp e && chkE a e k
    | _ => false)
  | .ite c a b, s, k, ex => (match s with
    | .If c' a' b' _ => chkE c c' k && (chkSs a a' k ex && chkSs b b' k ex)
    | _ => false)
  | .for_ g it b, s, k, ex => (match s with
    | .For tg iter body [] _ => chkI it iter tg k && chkG g tg k none && chkSs b body k ex
    | _ => false)
  | .while_ c b, s, k, ex => (match s with
    | .While c' body [] _ => chkE c c' k && chkSs b body k ex
    | _ => false)
  | .ret a, s, k, ex => (match s with
    | .Return (some e) _ => chkE a e k
    | .Return none _ => (match a with
      | .cst .non => true
      | _ => false)
    | _ => false)
  | .brk, s, k, ex => (match s with
    | .Break _ => true
    | _ => false)
  | .cnt, s, k, ex => (match s with
    | .Continue _ => true
    | _ => false)
  | .pass, s, k, ex => (match s with
    | .Pass _ => true
    | .Expr (.Constant (.str _) _ _) _ => true
    | _ => false)
  | .raise c, s, k, ex => (match s with
    | .Raise (some (.Call (.Name x _) [.Constant (.str _) _ _] [] _)) none _ => decide (x = c) && ex.contains x && k.gl x && okN x
    | _ => false)
  | .try_ b c d, s, k, ex => (match s with
    | .Try body [.ExceptHandler (some (.Name x _)) none [.Return (some (.Constant kk _ _)) _] _] [] [] _ => decide (x = c) && ex.contains x && k.gl x && okN x && cstOk d kk && chkSs b body k ex
    | _ => false)
def chkSs : Sts → List Stmt → KX → List Str → Bool
  | .nil, ss, k, ex => (match ss with
    | [] => true
    | _ => false)
  | .cons s r, ss, k, ex => (match ss with
    | s' :: ss => chkS s s' k ex && chkSs r ss k ex
    | [] => false)
end
end Rx
set_option maxHeartbeats 2000000
/-! RxT: a term that tells an expression computes what the expression computes. -/
namespace Rx
open PySem PySem.Spec PyProof.Rows L2
/-- the context is as the checker takes it -/
structure XOk (Γ : Gm) (cl : Cl) (F : Nat → List Sl → CR) (rk : Nat) (W : WX) (k : KX) (X : Cx) : Prop where
  hK : X.K = Γ.K
  N : X.N = k.N
  nd : X.N.Nodup
  sc : X.env.scope = k.sc
  fn : X.fn = k.fn
  calm : X.calm = true
  room : Room rk X.A
  tk : Takes X W
  free : ∀ x, k.bl.contains x = true → X.mg x = none
  glob : ∀ (j : Nat) x, k.gc[j]? = some x → ∃ d v u, Γ.G[j]? = some d ∧ X.mg x = some u ∧ RelV v u ∧ GlobOk Γ d v
  fns : ∀ (f : Nat) x n, k.fns[f]? = some (x, n) → ∃ fa fd ps, FnOk X.prog X.w X.K X.mg X.base (L2.CX X.prog X.w) rk fa fd ps (spC Γ cl n (F f)) ∧ X.mg x = some (.ref fa) ∧ PySem.W.keepIn X.K (.ref fa) = true ∧ Binds X.K fd ps []
section
variable {Γ : Gm} {cl : Cl} {F : Nat → List Sl → CR} {rk : Nat} {W : WX} {k : KX} {X : Cx}
theorem okN_inv {x : Str} (h : okN x = true) : (x == ("__debug__" : Str)) = false ∧ (x == ("__classdict__" : Str)) = false ∧ x ≠ ("__name__" : Str) := by
  unfold okN at h
  simp only [Bool.and_eq_true, Bool.not_eq_true'] at h
  refine ⟨h.1.1, h.1.2, fun e => ?_⟩
  have := h.2
  rw [e] at this
  simp at this
theorem XOk.vis (o : XOk Γ cl F rk W k X) {x : Str} (h : k.vis x = true) : Vis X.env.scope x := by
  unfold KX.vis at h
  unfold Vis
  rw [o.sc]
  split at h
  · rename_i e; exact .inl e
  · rename_i e; exact .inr (.inl e)
  · rename_i e; exact .inr (.inr e)
  · cases h
theorem XOk.gl (o : XOk Γ cl F rk W k X) {x : Str} (h : k.gl x = true) : Gl X x := by
  unfold KX.gl at h
  show X.env.scope.names.lookup x = _
  rw [o.sc]
  split at h
  · rename_i e; exact e
  · cases h
theorem XOk.sto (o : XOk Γ cl F rk W k X) {x : Str} (h : k.sto x = true) : L2.Loc X.env.scope x ∧ (X.fn x = true ∨ X.env.scope.names.lookup x = some .local) := by
  unfold KX.sto at h
  unfold L2.Loc
  rw [o.sc, o.fn]
  split at h
  · rename_i e; exact ⟨.inl e, .inr e⟩
  · rename_i e; exact ⟨.inr e, .inl h⟩
  · cases h
theorem XOk.var (o : XOk Γ cl F rk W k X) {i : Nat} {x : Str} (h : k.var i x = true) : X.N[i]? = some x ∧ Vis X.env.scope x ∧ (x == ("__debug__" : Str)) = false ∧ (x == ("__classdict__" : Str)) = false := by
  unfold KX.var at h
  simp only [Bool.and_eq_true, decide_eq_true_eq] at h
  obtain ⟨h1, h2, _⟩ := okN_inv h.2
  exact ⟨by rw [o.N]; exact h.1.1, o.vis h.1.2, h1, h2⟩
theorem XOk.blt (o : XOk Γ cl F rk W k X) {x : Str} {n : String} (h : k.blt x n = true) : x = (n : Str) ∧ Gl X x ∧ X.mg x = none ∧ x ≠ ("__name__" : Str) ∧ (x == ("__debug__" : Str)) = false := by
  unfold KX.blt at h
  simp only [Bool.and_eq_true, decide_eq_true_eq] at h
  obtain ⟨h1, _, h3⟩ := okN_inv h.2
  exact ⟨h.1.1.1, o.gl h.1.1.2, o.free x h.1.2, h3, h1⟩
/-! ### no stars -/
def isStar : Expr → Bool
  | .Starred .. => true
  | _ => false
theorem star_of {e : Expr} {es : List Expr} {env : Env} (h : isStar e = false) : starEach (e :: es) env = (false, eval e env) :: starEach es env := by
  cases e <;> first | rfl | cases h
theorem assign_of {e : Expr} {es : List Expr} {env : Env} (h : isStar e = false) : assignEach (e :: es) env = (false, assign e env) :: assignEach es env := by
  cases e <;> first | rfl | cases h
theorem chkE_star {t : Tm} {e : Expr} (h : chkE t e k = true) : isStar e = false := by
  cases e with
  | Starred x p => cases t <;> first | cases h | (rename_i z _; cases z <;> cases h) | (rename_i z _ _; cases z <;> cases h)
  | _ => rfl
theorem chkG_star {t : Tg} {e : Expr} {ch : Option (List Nat)} (h : chkG t e k ch = true) : isStar e = false := by
  cases e with
  | Starred x p => cases t <;> cases h
  | _ => rfl
/-- a plain list of expressions -/
def Stars (es : List Expr) : Prop := ∀ e ∈ es, isStar e = false
theorem chkEs_star : ∀ {ts : Tms} {es : List Expr}, chkEs ts es k = true → Stars es ∧ es.length = ts.len
  | .nil, [], _ => ⟨fun e h => by simp at h, rfl⟩
  | .nil, _ :: _, h => by cases h
  | .cons t r, [], h => by cases h
  | .cons t r, e :: es, h => by
    simp only [chkEs, Bool.and_eq_true] at h
    obtain ⟨h1, h2⟩ := chkEs_star h.2
    refine ⟨fun e' m => ?_, by simp [Tms.len, h2]⟩
    rcases List.mem_cons.mp m with rfl | m
    · exact chkE_star h.1
    · exact h1 e' m
theorem stars_any {pos : Pos} {env : Env} : ∀ {es : List Expr}, Stars es → (backTo pos (starEach es env)).any (·.1) = false ∧ (backTo pos (starEach es env)).all (fun x => !x.1) = true
  | [], _ => ⟨rfl, rfl⟩
  | e :: es, h => by
    obtain ⟨h1, h2⟩ := stars_any (pos := pos) (env := env) (es := es) fun e' m => h e' (by simp [m])
    rw [star_of (h e (by simp))]
    unfold backTo at h1 h2 ⊢
    constructor
    · simpa using h1
    · simpa using h2
theorem bootP1 : ∀ (p : P1) (n : String) (f : Value), p.fv = some (n, f) → bootBuiltins (n : Str) = some f
  | .len, _, _, rfl => boot_len
  | .tupleOf, _, _, rfl => boot_tuple
  | .listOf, _, _, rfl => boot_list
  | .sum, _, _, rfl => boot_sum
  | .max1, _, _, rfl => boot_max
  | .min1, _, _, rfl => boot_min
  | .abs, _, _, rfl => by decide +kernel
  | .int, _, _, rfl => boot_int
  | .bool, _, _, rfl => boot_bool
  | .all, _, _, rfl => boot_all
  | .any, _, _, rfl => boot_any
  | .sorted, _, _, rfl => boot_sorted
theorem bootP2 : ∀ (p : P2) (n id : String), p.fn = some (n, id) → bootBuiltins (n : Str) = some (.builtin id)
  | .max2, _, _, rfl => boot_max
  | .min2, _, _, rfl => boot_min
theorem bootTy {ty : String} (h : tyNs.contains ty = true) : bootBuiltins (ty : Str) = some (.type ty) := by
  have h : ty = "tuple" ∨ ty = "list" ∨ ty = "int" ∨ ty = "bool" ∨ ty = "str" := by simpa [tyNs] using h
  rcases h with rfl | rfl | rfl | rfl | rfl
  · exact boot_tuple
  · exact boot_list
  · exact boot_int
  · exact boot_bool
  · exact boot_str
theorem plainIx_of {t : Tm} {e : Expr} (h : chkE t e k = true) : PlainIx e := by
  cases e with
  | Slice lo hi st p => cases t <;> first | cases h | (rename_i z _; cases z <;> cases h) | (rename_i z _ _; cases z <;> cases h)
  | _ => intro o i; rfl
theorem _root_.L2.PTs.conseq {es : List Expr} {t t' : TT} (h : PTs X es t) (i : ∀ σ H Q, t' σ H Q → t σ H Q) : PTs X es t' := ⟨fun pins s σ H Q I q => h.run pins s σ H Q I (i σ H Q q)⟩
theorem XOk.bu (o : XOk Γ cl F rk W k X) : X.A.units + 65 < cLine := by have := o.room.un; omega
/-- into a comprehension's block -/
theorem XOk.blk (o : XOk Γ cl F rk W k X) (s : Shared) (H : Hp) (scope : Scope) (Cc : Addr) (cs : List (Str × Addr)) (fp : List Addr) : XOk Γ cl F rk W0 (k.blk scope) (X.blk s H scope (compEnvC scope cs Cc X.env) fp) where
  hK := o.hK
  N := o.N
  nd := o.nd
  sc := by
    show relS scope X.env.scope = relS scope k.sc
    rw [o.sc]
  fn := rfl
  calm := o.calm
  room := o.room
  tk := fun u s' ⟨a, B, sI, pins, σ, H, cls, d, _, _, _, _, _, _, _, _, w⟩ => w.elim
  free := o.free
  glob := o.glob
  fns := o.fns
/-- an operand -/
theorem opd_of (o : XOk Γ cl F rk W k X) {t : Tm} {e : Expr} (h : chkE t e k = true) (ih : PE X e (tI Γ W cl (ev F Γ.G t))) : PE X e (tO Γ W cl (asVar t) (ev F Γ.G t)) := by
  cases t with
  | var i =>
    cases e with
    | Name x p =>
      obtain ⟨h1, h2, h3, h4⟩ := o.var (show k.var i x = true from h)
      exact pe_var h1 h2 h3 h4
    | _ => cases h
  | _ => exact ih
noncomputable def bdOf (F : Nat → List Sl → CR) (G : List D) : Bd → Option (Option Nat × (En → ER))
  | .no => none
  | .at t => some (asVar t, ev F G t)
theorem bdOf_var {G : List D} {b : Bd} : ∀ u f, bdOf F G b = some (u, f) → ∃ A : Tm, u = asVar A := fun u f e => by
  cases b with
  | no => cases e
  | «at» t => cases e; exact ⟨t, rfl⟩
theorem bord_eq {G : List D} {b : Bd} {E : En} {kk : Option Int → En → ER} : bord F G b E kk = bordE (bdOf F G b) E kk := by
  cases b <;> rw [bord] <;> rfl
/-- which slots a target may store -/
def chP : Option (List Nat) → Nat → Prop
  | none, _ => True
  | some l, j => j ∈ l
theorem evs_len {G : List D} : ∀ {ts : Tms} {E : En} {as : List Sl} {bk : List (Option (Nat × Bool))} {E' : En}, evs F G ts E = .ok as bk E' → as.length = ts.len
  | .nil, E, as, bk, E', h => by rw [evs] at h; cases h; rfl
  | .cons t r, E, as, bk, E', h => by
    rw [evs] at h
    unfold argD at h
    split at h
    · rename_i o d E1 _
      cases q : evs F G r E1 with
      | ok as2 bk2 E2 =>
        rw [q] at h
        have h : AR.ok (.val d :: as2) (none :: bk2) E2 = AR.ok as bk E' := h
        cases h
        have := evs_len q
        simp [Tms.len, this]
      | ex c E2 => rw [q] at h; cases h
      | bad => rw [q] at h; cases h
    · cases h
    · cases h
theorem bind_len {r : AR} {s : Sl} {b : Option (Nat × Bool)} {as : List Sl} {bk : List (Option (Nat × Bool))} {E' : En} {n : Nat} (h : (r.bind fun as bk E' => .ok (s :: as) (b :: bk) E') = .ok as bk E') (hr : ∀ as bk E', r = .ok as bk E' → as.length = n) : as.length = n + 1 := by
  cases r with
  | ok as2 bk2 E2 =>
    have h : AR.ok (s :: as2) (b :: bk2) E2 = AR.ok as bk E' := h
    injection h with h1 _ _
    rw [← h1, List.length_cons, hr as2 bk2 E2 rfl]
  | ex c E2 => cases h
  | bad => cases h
theorem args_len {G : List D} : ∀ {ts : Tms} {E : En} {as : List Sl} {bk : List (Option (Nat × Bool))} {E' : En}, args F G ts E = .ok as bk E' → as.length = ts.len
  | .nil, E, as, bk, E', h => by rw [args] at h; cases h; rfl
  | .cons t r, E, as, bk, E', h => by
    rw [args] at h
    split at h
    · rename_i i _
      unfold argV at h
      split at h
      · exact bind_len h fun as bk E' q => args_len q
      · exact bind_len h fun as bk E' q => args_len q
      · exact bind_len h fun as bk E' q => args_len q
      · exact bind_len h fun as bk E' q => args_len q
      · cases h
    · unfold argD at h
      split at h
      · exact bind_len h fun as bk E' q => args_len q
      · cases h
      · cases h
theorem _root_.L2.PE.cg {e : Expr} {f g : En → ER} (hp : PE X e (tI Γ W cl g)) (h : ∀ E, f E = g E) : PE X e (tI Γ W cl f) := by
  rw [show f = g from funext h]; exact hp
theorem _root_.L2.PT.cg {e : Expr} {f g : En → ER} (hp : PT X e (tIT Γ W cl g)) (h : ∀ E, f E = g E) : PT X e (tIT Γ W cl f) := by
  rw [show f = g from funext h]; exact hp
theorem _root_.L2.PW.cg {e : Expr} {f g : En → ER} (hp : PW X e (tIT Γ W cl g)) (h : ∀ E, f E = g E) : PW X e (tIT Γ W cl f) := by
  rw [show f = g from funext h]; exact hp
def isBo : Expr → Bool
  | .BoolOp .. => true
  | _ => false
/-- the tests whose value is asked -/
def plainTm : Tm → Bool
  | .and _ _ => false
  | .or _ _ => false
  | .one _ => false
  | .not _ => false
  | .cmp _ _ _ => false
  | .chain _ _ _ _ _ => false
  | .ifx _ _ _ => false
  | _ => true
theorem plain_ex {t : Tm} {e : Expr} (hp : plainTm t = true) (h : chkE t e k = true) : isBo e = false ∧ ∀ env whole, isTrue e env whole = (do let v ← whole; standAt e.pos; holding [v] (truthy v)) := by
  cases e with
  | BoolOp op vs p => cases t <;> first | (cases hp; done) | (cases h; done) | (rename_i z _; cases z <;> (cases h; done)) | (rename_i z _ _; cases z <;> (cases h; done))
  | IfExp a b c p => cases t <;> first | (cases hp; done) | (cases h; done) | (rename_i z _; cases z <;> (cases h; done)) | (rename_i z _ _; cases z <;> (cases h; done))
  | Compare a b c p => cases t <;> first | (cases hp; done) | (cases h; done) | (rename_i z _; cases z <;> (cases h; done)) | (rename_i z _ _; cases z <;> (cases h; done))
  | UnaryOp op a p =>
    cases op with
    | Not => cases t <;> first | (cases hp; done) | (cases h; done) | (rename_i z _; cases z <;> (cases h; done)) | (rename_i z _ _; cases z <;> (cases h; done))
    | _ => exact ⟨rfl, fun _ _ => rfl⟩
  | _ => exact ⟨rfl, fun _ _ => rfl⟩
theorem tst_plain {t : Tm} {G : List D} (hp : plainTm t = true) (E : En) : tst F G t E = truthOf (asVar t) (ev F G t) E := by
  cases t <;> first | (cases hp; done) | (rw [tst] <;> (intros; rename_i z; cases z))
end
end Rx
set_option maxHeartbeats 4000000
/-! RxU: expressions, walks, targets: the whole. -/
namespace Rx
open PySem PySem.Spec PyProof.Rows L2
variable {Γ : Gm} {cl : Cl} {F : Nat → List Sl → CR} {rk : Nat}
theorem tst_of {W : WX} {k : KX} {X : Cx} (o : XOk Γ cl F rk W k X) {t : Tm} {e : Expr} (hp : plainTm t = true) (h : chkE t e k = true) (ih : PE X e (tI Γ W cl (ev F Γ.G t))) : PT X e (tIT Γ W cl (tst F Γ.G t)) ∧ (isBo e = true → PW X e (tIT Γ W cl (tst F Γ.G t))) := by
  obtain ⟨h1, h2⟩ := plain_ex hp h
  refine ⟨(pt_tru o.hK (opd_of o h ih) fun whole => h2 _ _).cg fun E => tst_plain hp E, fun z => ?_⟩
  rw [h1] at z; cases z
noncomputable def compC (F : Nat → List Sl → CR) (G : List D) : Option Tm → En → ER
  | none => fun E => .ok false (.bl true) E
  | some c => tst F G c
theorem folded_of {k : KX} {it : It} {iter tg : Expr} {env : Env} (h : chkI it iter tg k = true) : ∀ x, foldedSetIterable iter env x = pure x := by
  cases iter with
  | Set es n p => cases it <;> first | (cases h; done) | (rename_i a; cases a <;> first | (cases h; done) | (rename_i z _; cases z <;> (cases h; done)) | (rename_i z _ _; cases z <;> (cases h; done)))
  | _ => intro x; rfl
theorem chkGs_star {k : KX} {ch : Option (List Nat)} : ∀ {gs : Tgs} {es : List Expr}, chkGs gs es k ch = true → Stars es ∧ es.length = gs.len
  | .nil, [], _ => ⟨fun e h => by simp at h, rfl⟩
  | .nil, _ :: _, h => by cases h
  | .cons t r, [], h => by cases h
  | .cons t r, e :: es, h => by
    simp only [chkGs, Bool.and_eq_true] at h
    obtain ⟨h1, h2⟩ := chkGs_star h.2
    refine ⟨fun e' m => ?_, by simp [Tgs.len, h2]⟩
    rcases List.mem_cons.mp m with rfl | m
    · exact chkG_star h.1
    · exact h1 e' m
theorem assign_plain {env : Env} : ∀ {es : List Expr}, Stars es → (assignEach es env).length = es.length ∧ (assignEach es env).findIdx? (·.1) = none
  | [], _ => ⟨rfl, rfl⟩
  | e :: es, h => by
    obtain ⟨h1, h2⟩ := assign_plain (env := env) (es := es) fun e' m => h e' (by simp [m])
    rw [assign_of (h e (by simp))]
    refine ⟨by simp [h1], ?_⟩
    rw [List.findIdx?_cons]
    simp [h2]
theorem assign_sub {k : KX} {t : Tm} {o ix : Expr} {pos : Pos} {env : Env} (hp : PlainIx ix) (h : chkE t ix k = true) : ∀ v, assign (.Subscript o ix pos) env v = (do
      let ov ← holding [v] (eval o env)
      let iv ← holding [v, ov] (eval ix env)
      standAt pos
      holding [v, ov, iv] (setItem ov iv v)
      release [v, ov, iv] []) := by
  cases ix with
  | Slice lo hi st p => cases t <;> first | (cases h; done) | (rename_i z _; cases z <;> (cases h; done)) | (rename_i z _ _; cases z <;> (cases h; done))
  | _ => intro v; rfl
mutual
theorem ev_ok : ∀ (t : Tm) {W : WX} {k : KX} {X : Cx} {e : Expr}, XOk Γ cl F rk W k X → chkE t e k = true → PE X e (tI Γ W cl (ev F Γ.G t))
  | .cst d, W, k, X, e, o, h => by
    unfold chkE at h
    split at h
    · exact (pe_cst h).cg fun E => by rw [ev]
    · cases h
  | .var i, W, k, X, e, o, h => by
    unfold chkE at h
    split at h
    · obtain ⟨h1, h2, h3, h4⟩ := o.var h
      exact (pe_take h1 h2 h3 h4).cg fun E => by rw [ev]
    · cases h
  | .glob j, W, k, X, e, o, h => by
    unfold chkE at h
    split at h
    · simp only [Bool.and_eq_true, decide_eq_true_eq] at h
      obtain ⟨d, v, u, h1, h2, h3, h4⟩ := o.glob j _ h.1.1
      exact (pe_globE (o.gl h.1.2) h2 h3 (okN_inv h.2).1 h1 h4).cg fun E => by rw [ev]
    · cases h
  | .no, W, k, X, e, o, h => by
    have e0 : (fun E => ev F Γ.G .no E) = fun _ => ER.bad := by
      funext E
      rw [ev]
    show PE X e (tI Γ W cl fun E => ev F Γ.G .no E)
    rw [e0]
    exact ⟨fun pins s σ H Q I ⟨E, C, re, p⟩ => p.elim⟩
  | .idx i a, W, k, X, e, o, h => by
    unfold chkE at h
    split at h
    · simp only [Bool.and_eq_true, decide_eq_true_eq] at h
      obtain ⟨⟨⟨rfl, h1⟩, h2⟩, h3⟩ := h
      obtain ⟨v1, v2, v3, v4⟩ := o.var h1
      have s1 := star_of (es := []) (env := X.env) (chkE_star h3)
      exact (pe_idxE o.hK v1 v2 v3 v4 rfl h2 (opd_of o h3 (ev_ok a o h3)) s1 (by rw [s1]; rfl)).cg fun E => by rw [ev]
    · cases h
  | .rng a b, W, k, X, e, o, h => by
    unfold chkE at h
    split at h
    · simp only [Bool.and_eq_true] at h
      obtain ⟨⟨⟨h1, h2⟩, h3⟩, h4⟩ := h
      split at h3
      · rename_i i
        have hi : i = 0 := of_decide_eq_true h3
        subst hi
        obtain ⟨rfl, a1, a2, a3, a4⟩ := o.blt h1
        obtain ⟨rfl, b1, b2, b3, b4⟩ := o.blt h2
        exact ((pe_listRg o.calm a1 a2 (prg_1 b1 b2 (ev_ok b o h4) (star_of (chkE_star h4)))).conseq rng1_of).cg fun E => by rw [ev, ev]; first | done | rfl
      · cases h3
    · simp only [Bool.and_eq_true] at h
      obtain ⟨⟨h1, h2⟩, h3, h4⟩ := h
      obtain ⟨rfl, a1, a2, a3, a4⟩ := o.blt h1
      obtain ⟨rfl, b1, b2, b3, b4⟩ := o.blt h2
      exact ((pe_listRg o.calm a1 a2 (prg_2 b1 b2 (ev_ok a o h3) (ev_ok b o h4) (star_of (chkE_star h3)) (star_of (chkE_star h4)) (by rw [star_of (chkE_star h4)]; rfl))).conseq rng2_of).cg fun E => by rw [ev]; first | done | rfl
    · cases h
  | .p1 p a, W, k, X, e, o, h => by
    unfold chkE at h
    split at h
    · simp only [Bool.and_eq_true, decide_eq_true_eq] at h
      obtain ⟨rfl, h⟩ := h
      exact (pe_negE o.hK (opd_of o h (ev_ok a o h))).cg fun E => by rw [ev]
    · split at h
      · rename_i n f hf
        simp only [Bool.and_eq_true] at h
        obtain ⟨rfl, h1, h2, h3, h4⟩ := o.blt h.1
        exact (pe_callE1 (p := p) o.hK o.bu o.calm hf h1 h2 (bootP1 p n f hf) h3 h4 (opd_of o h.2 (ev_ok a o h.2)) (star_of (chkE_star h.2))).cg fun E => by rw [ev]
      · cases h
    · cases h
  | .p2 p a b, W, k, X, e, o, h => by
    unfold chkE at h
    split at h
    · simp only [Bool.and_eq_true, decide_eq_true_eq] at h
      exact (pe_opE o.hK h.1 (opd_of o h.2.1 (ev_ok a o h.2.1)) (opd_of o h.2.2 (ev_ok b o h.2.2))).cg fun E => by rw [ev]
    · simp only [Bool.and_eq_true, decide_eq_true_eq] at h
      obtain ⟨rfl, h1, h2⟩ := h
      exact (pe_itemE o.hK (by have := o.bu; omega) (plainIx_of h2) (opd_of o h1 (ev_ok a o h1)) (opd_of o h2 (ev_ok b o h2))).cg fun E => by rw [ev]
    · split at h
      · rename_i n f hf
        simp only [Bool.and_eq_true] at h
        obtain ⟨rfl, h1, h2, h3, h4⟩ := o.blt h.1
        exact (pe_callE2 (p := p) o.hK o.calm hf h1 h2 (bootP2 p n f hf) h3 h4 (opd_of o h.2.1 (ev_ok a o h.2.1)) (opd_of o h.2.2 (ev_ok b o h.2.2)) (by rw [star_of (chkE_star h.2.1), star_of (chkE_star h.2.2)]; rfl) (by rw [star_of (chkE_star h.2.2)]; rfl)).cg fun E => by rw [ev]
      · cases h
    · cases h
  | .cmp c a b, W, k, X, e, o, h => by
    unfold chkE at h
    split at h
    · simp only [Bool.and_eq_true, decide_eq_true_eq, Bool.not_eq_true'] at h
      exact (pe_cmpE o.hK o.bu h.1.1 (opd_of o h.2.1 (ev_ok a o h.2.1)) (opd_of o h.2.2 (ev_ok b o h.2.2)) h.1.2).cg fun E => by rw [ev]
    · cases h
  | .chain c c' a b d, W, k, X, e, o, h => by
    unfold chkE at h
    split at h
    · simp only [Bool.and_eq_true, decide_eq_true_eq, Bool.not_eq_true'] at h
      exact (pe_chainE o.hK o.bu h.1.1.1 h.1.1.2 (opd_of o h.2.1.1 (ev_ok a o h.2.1.1)) (opd_of o h.2.1.2 (ev_ok b o h.2.1.2)) (opd_of o h.2.2 (ev_ok d o h.2.2)) h.1.2).cg fun E => by rw [ev]
    · cases h
  | .and a b, W, k, X, e, o, h => by
    unfold chkE at h
    split at h
    · simp only [Bool.and_eq_true] at h
      exact ((pe_and (ev_ok a o h.1) (ev_ok b o h.2)).conseq andV_of).cg fun E => by rw [ev]
    · cases h
  | .or a b, W, k, X, e, o, h => by
    unfold chkE at h
    split at h
    · simp only [Bool.and_eq_true] at h
      exact ((pe_or (ev_ok a o h.1) (ev_ok b o h.2)).conseq orV_of).cg fun E => by rw [ev]
    · cases h
  | .one a, W, k, X, e, o, h => by
    unfold chkE at h
    split at h
    · exact (pe_one (ev_ok a o h)).cg fun E => by rw [ev]
    · cases h
  | .not a, W, k, X, e, o, h => by
    unfold chkE at h
    split at h
    · exact (pe_notE o.hK (opd_of o h (ev_ok a o h))).cg fun E => by rw [ev]
    · cases h
  | .ifx c a b, W, k, X, e, o, h => by
    unfold chkE at h
    split at h
    · simp only [Bool.and_eq_true] at h
      exact ((pe_ifExp (tst_ok c o h.1).1 (ev_ok a o h.2.1) (ev_ok b o h.2.2)).conseq ifx_of).cg fun E => by rw [ev]
    · cases h
  | .tup ts, W, k, X, e, o, h => by
    unfold chkE at h
    split at h
    · simp only [Bool.and_eq_true, decide_eq_true_eq] at h
      exact (pe_tupE (fun E as bk E' q => by rw [evs_len q]; exact Nat.le_trans h.1 (by decide)) (evs_ok ts o h.2)).cg fun E => by rw [ev]
    · cases h
  | .lst ts, W, k, X, e, o, h => by
    unfold chkE at h
    split at h
    · simp only [Bool.and_eq_true, decide_eq_true_eq] at h
      exact (pe_lstE (fun E as bk E' q => by rw [evs_len q]; exact Nat.le_trans h.1 (by decide)) (evs_ok ts o h.2)).cg fun E => by rw [ev]
    · cases h
  | .dict0 t, W, k, X, e, o, h => by
    unfold chkE at h
    split at h
    · exact pe_dictE.cg fun E => by rw [ev]
    · cases h
  | .slice a lo hi, W, k, X, e, o, h => by
    unfold chkE at h
    split at h
    · simp only [Bool.and_eq_true] at h
      exact (pe_sliceE o.hK bdOf_var bdOf_var (opd_of o h.1 (ev_ok a o h.1)) (bord_ok lo o h.2.1) (bord_ok hi o h.2.2)).cg fun E => by
        rw [ev]
        simp only [bord_eq]
    · cases h
  | .isinst a ty, W, k, X, e, o, h => by
    unfold chkE at h
    split at h
    · simp only [Bool.and_eq_true] at h
      obtain ⟨rfl, x1, x2, x3, x4⟩ := o.blt h.1.1.1
      obtain ⟨rfl, y1, y2, y3, y4⟩ := o.blt h.1.1.2
      exact (pe_isinstE o.hK x1 x2 boot_isinstance x3 x4 y1 y2 (bootTy h.1.2) y3 y4 (opd_of o h.2 (ev_ok a o h.2)) (star_of (chkE_star h.2))).cg fun E => by rw [ev]
    · cases h
  | .call f ts, W, k, X, e, o, h => by
    unfold chkE at h
    split at h
    · simp only [Bool.and_eq_true, decide_eq_true_eq] at h
      obtain ⟨fa, fd, ps, h1, h2, h3, h4⟩ := o.fns f _ _ h.1.1.1
      obtain ⟨st, _⟩ := chkEs_star h.2
      exact (pe_callF h1 o.room o.tk (o.gl h.1.1.2) h2 h3 h4 (fun E as bk E' q => args_len q) (okN_inv h.1.2).1 (args_ok ts o h.2) (star_of (st _ (by simp))) (stars_any fun e' m => st e' (by simp [m])).1).cg fun E => by rw [ev]
    · cases h
  | .meth m i ts, W, k, X, e, o, h => by
    unfold chkE at h
    split at h
    · simp only [Bool.and_eq_true, decide_eq_true_eq] at h
      obtain ⟨v1, v2, v3, v4⟩ := o.var h.1.1.1.2
      obtain ⟨st, ln⟩ := chkEs_star h.2
      refine (pe_methE o.hK h.1.1.1.1 v1 v2 v3 v4 rfl h.1.1.2 (evs_ok ts o h.2) (fun e0 => ?_) (fun e' r e0 => ?_)).cg fun E => by rw [ev]
      · subst e0
        cases ts with
        | nil => funext E; rw [evs]
        | cons _ _ => simp [Tms.len] at ln
      · subst e0
        have s1 := star_of (es := r) (env := X.env) (st e' (by simp))
        have s2 := stars_any (pos := ‹Pos›) (env := X.env) (es := r) fun e2 m => st e2 (by simp [m])
        refine ⟨s1, (stars_any fun e2 m => st e2 (by simp [m])).1, ?_⟩
        have a1 := (stars_any (pos := (by assumption : Pos)) (env := X.env) st).2
        simp only [Bool.and_eq_true, decide_eq_true_eq]
        refine ⟨⟨(stars_any st).2, rfl⟩, ?_⟩
        have := h.1.2
        rw [ln]
        simp
        omega
    · cases h
  | .lc el g it c vs, W, k, X, e, o, h => by
    unfold chkE at h
    split at h
    · rename_i elt tg iter ifs as scope pos
      simp only [Bool.and_eq_true, decide_eq_true_eq] at h
      obtain ⟨⟨rfl, hb⟩, hi, hg, he, hc⟩ := h
      have vs_eq : (ownOf k.N vs).map (·.2) = vs := by
        unfold ownOf
        rw [List.map_map]
        exact List.map_id' vs
      have hb' : blkC X.N X.env.scope scope (ownOf k.N vs) = true := by rw [o.N, o.sc]; exact hb
      have base := pe_lc (X := X) (ifs := ifs) (tt := tIT Γ W0 cl (compC F Γ.G c)) (te := tI Γ W0 cl (ev F Γ.G el)) (g := tG Γ W0 cl (chP (some vs)) (tgt F Γ.G g)) (pos := pos) o.calm o.nd (walk_ok it o hi) (blkOk_by hb')
        (fun s H Cc cs fp => tgt_ok g (o.blk s H scope Cc cs fp) hg)
        (fun s H Cc cs fp => by
          cases c with
          | none =>
            cases ifs with
            | nil => exact pts_nil.conseq fun σ H Q ⟨E, C, re, p⟩ => PostT.bl re p
            | cons _ _ => cases hc
          | some c =>
            cases ifs with
            | nil => cases hc
            | cons c' r =>
              cases r with
              | nil => exact pts_one (tst_ok c (o.blk s H scope Cc cs fp) hc).1
              | cons _ _ => cases hc)
        (fun s H Cc cs fp => ev_ok el (o.blk s H scope Cc cs fp) he) (folded_of hi)
      rw [vs_eq] at base
      exact (base.conseq lc_of).cg fun E => by
        cases c <;> (rw [ev]; try rfl)
    · cases h
  | .lcd el g i itm c vs, W, k, X, e, o, h => by
    unfold chkE at h
    split at h
    · rename_i elt tg iter ifs as scope pos
      simp only [Bool.and_eq_true, decide_eq_true_eq] at h
      obtain ⟨⟨rfl, hb⟩, hi, hg, he, hc⟩ := h
      have vs_eq : (ownOf k.N vs).map (·.2) = vs := by
        unfold ownOf
        rw [List.map_map]
        exact List.map_id' vs
      have hb' : blkC X.N X.env.scope scope (ownOf k.N vs) = true := by rw [o.N, o.sc]; exact hb
      have base := fun {P : En → L2.St → Hp → Prop} {fw : En → IR} (hw : PI X tg iter (tWP Γ W cl P fw)) (hs : ∀ x, foldedSetIterable iter X.env x = pure x) => pe_lc (X := X) (ifs := ifs) (tt := tIT Γ W0 cl (compC F Γ.G c)) (te := tI Γ W0 cl (ev F Γ.G el)) (g := tG Γ W0 cl (chP (some vs)) (tgt F Γ.G g)) (pos := pos) o.calm o.nd hw (blkOk_by hb')
        (fun s H Cc cs fp => tgt_ok g (o.blk s H scope Cc cs fp) hg)
        (fun s H Cc cs fp => by
          cases c with
          | none =>
            cases ifs with
            | nil => exact pts_nil.conseq fun σ H Q ⟨E, C, re, p⟩ => PostT.bl re p
            | cons _ _ => cases hc
          | some c =>
            cases ifs with
            | nil => cases hc
            | cons c' r =>
              cases r with
              | nil => exact pts_one (tst_ok c (o.blk s H scope Cc cs fp) hc).1
              | cons _ _ => cases hc)
        (fun s H Cc cs fp => ev_ok el (o.blk s H scope Cc cs fp) he) hs
      rw [vs_eq] at base
      split at hi
      · rename_i x p0
        simp only [Bool.and_eq_true, Bool.not_eq_true'] at hi
        obtain ⟨hm, hv⟩ := hi
        subst hm
        obtain ⟨v1, v2, v3, v4⟩ := o.var hv
        exact ((pe_lock (PE.ex fun z : Bool × List Key × List D × Addr × Obj × List (Key × V) => base (pi_keysE (i := i) (d := z.2.2.2.1) (od := z.2.2.2.2.1) (kvs := z.2.2.2.2.2) (ks := z.2.1) (ds := z.2.2.1) (b := z.1) (pe_var v1 v2 v3 v4)) fun _ => rfl)).conseq lcd_of).cg fun E => by
          cases c <;> (rw [ev]; try rfl)
      · rename_i x p1 nm apos cpos
        simp only [Bool.and_eq_true, decide_eq_true_eq] at hi
        obtain ⟨⟨⟨⟨hm, rfl⟩, hv⟩, hline⟩, ht⟩ := hi
        subst hm
        obtain ⟨v1, v2, v3, v4⟩ := o.var hv
        cases tg with
        | Tuple elts kk tpos =>
          exact ((pe_lock (PE.ex fun z : Bool × List Key × List D × Addr × Obj × List (Key × V) => base (pi_itemsE (i := i) (d := z.2.2.2.1) (od := z.2.2.2.2.1) (kvs := z.2.2.2.2.2) (ks := z.2.1) (ds := z.2.2.1) (b := z.1) (pe_var v1 v2 v3 v4) rfl hline) fun _ => rfl)).conseq lcd_of).cg fun E => by
            cases c <;> (rw [ev]; try rfl)
        | _ => cases ht
      · cases hi
    · cases h
theorem tst_ok : ∀ (t : Tm) {W : WX} {k : KX} {X : Cx} {e : Expr}, XOk Γ cl F rk W k X → chkE t e k = true → PT X e (tIT Γ W cl (tst F Γ.G t)) ∧ (isBo e = true → PW X e (tIT Γ W cl (tst F Γ.G t)))
  | .and a b, W, k, X, e, o, h => by
    unfold chkE at h
    split at h
    · simp only [Bool.and_eq_true] at h
      have := ((pw_and (tst_ok a o h.1).1 ((tst_ok b o h.2).2 rfl)).conseq and_of).cg (f := tst F Γ.G (.and a b)) fun E => by rw [tst]
      exact ⟨this.pt, fun _ => this⟩
    · cases h
  | .or a b, W, k, X, e, o, h => by
    unfold chkE at h
    split at h
    · simp only [Bool.and_eq_true] at h
      have := ((pw_or (tst_ok a o h.1).1 ((tst_ok b o h.2).2 rfl)).conseq or_of).cg (f := tst F Γ.G (.or a b)) fun E => by rw [tst]
      exact ⟨this.pt, fun _ => this⟩
    · cases h
  | .one a, W, k, X, e, o, h => by
    unfold chkE at h
    split at h
    · rename_i op a' p
      have : PW X (.BoolOp op [a'] p) (tIT Γ W cl (tst F Γ.G (.one a))) := by
        cases op with
        | And => exact (pw_and1 (tst_ok a o h).1).cg fun E => by rw [tst]
        | Or => exact (pw_or1 (tst_ok a o h).1).cg fun E => by rw [tst]
      exact ⟨this.pt, fun _ => this⟩
    · cases h
  | .not a, W, k, X, e, o, h => by
    unfold chkE at h
    split at h
    · exact ⟨((pt_not (tst_ok a o h).1).conseq not_of).cg fun E => by rw [tst], fun z => by cases z⟩
    · cases h
  | .cmp c a b, W, k, X, e, o, h => by
    unfold chkE at h
    split at h
    · simp only [Bool.and_eq_true, decide_eq_true_eq, Bool.not_eq_true'] at h
      exact ⟨(pt_cmpE o.hK o.bu h.1.1 (opd_of o h.2.1 (ev_ok a o h.2.1)) (opd_of o h.2.2 (ev_ok b o h.2.2)) h.1.2).cg fun E => by rw [tst], fun z => by cases z⟩
    · cases h
  | .chain c c' a b d, W, k, X, e, o, h => by
    unfold chkE at h
    split at h
    · simp only [Bool.and_eq_true, decide_eq_true_eq, Bool.not_eq_true'] at h
      exact ⟨(pt_chainE o.hK o.bu h.1.1.1 h.1.1.2 (opd_of o h.2.1.1 (ev_ok a o h.2.1.1)) (opd_of o h.2.1.2 (ev_ok b o h.2.1.2)) (opd_of o h.2.2 (ev_ok d o h.2.2)) h.1.2).cg fun E => by rw [tst], fun z => by cases z⟩
    · cases h
  | .ifx c a b, W, k, X, e, o, h => by
    unfold chkE at h
    split at h
    · simp only [Bool.and_eq_true] at h
      exact ⟨((pt_ifExp (tst_ok c o h.1).1 (tst_ok a o h.2.1).1 (tst_ok b o h.2.2).1).conseq ifT_of).cg fun E => by rw [tst], fun z => by cases z⟩
    · cases h
  | .cst d, W, k, X, e, o, h => tst_of o rfl h (ev_ok (.cst d) o h)
  | .var i, W, k, X, e, o, h => tst_of o rfl h (ev_ok (.var i) o h)
  | .glob j, W, k, X, e, o, h => tst_of o rfl h (ev_ok (.glob j) o h)
  | .no, W, k, X, e, o, h => tst_of o rfl h (ev_ok .no o h)
  | .idx i a, W, k, X, e, o, h => tst_of o rfl h (ev_ok (.idx i a) o h)
  | .rng a b, W, k, X, e, o, h => tst_of o rfl h (ev_ok (.rng a b) o h)
  | .p1 p a, W, k, X, e, o, h => tst_of o rfl h (ev_ok (.p1 p a) o h)
  | .p2 p a b, W, k, X, e, o, h => tst_of o rfl h (ev_ok (.p2 p a b) o h)
  | .tup ts, W, k, X, e, o, h => tst_of o rfl h (ev_ok (.tup ts) o h)
  | .lst ts, W, k, X, e, o, h => tst_of o rfl h (ev_ok (.lst ts) o h)
  | .dict0 t, W, k, X, e, o, h => tst_of o rfl h (ev_ok (.dict0 t) o h)
  | .slice a lo hi, W, k, X, e, o, h => tst_of o rfl h (ev_ok (.slice a lo hi) o h)
  | .isinst a ty, W, k, X, e, o, h => tst_of o rfl h (ev_ok (.isinst a ty) o h)
  | .call f ts, W, k, X, e, o, h => tst_of o rfl h (ev_ok (.call f ts) o h)
  | .meth m i ts, W, k, X, e, o, h => tst_of o rfl h (ev_ok (.meth m i ts) o h)
  | .lc el g it c vs, W, k, X, e, o, h => tst_of o rfl h (ev_ok (.lc el g it c vs) o h)
  | .lcd el g i itm c vs, W, k, X, e, o, h => tst_of o rfl h (ev_ok (.lcd el g i itm c vs) o h)
theorem evs_ok : ∀ (ts : Tms) {W : WX} {k : KX} {X : Cx} {es : List Expr}, XOk Γ cl F rk W k X → chkEs ts es k = true → PA X es (tV Γ W cl (evs F Γ.G ts))
  | .nil, W, k, X, es, o, h => by
    cases es with
    | nil =>
      rw [show evs F Γ.G .nil = fun E => .ok [] [] E from by funext E; rw [evs]]
      exact pa_nilV
    | cons _ _ => cases h
  | .cons t r, W, k, X, es, o, h => by
    cases es with
    | nil => cases h
    | cons e es =>
      simp only [chkEs, Bool.and_eq_true] at h
      rw [show evs F Γ.G (.cons t r) = fun E => argD (ev F Γ.G t E) (evs F Γ.G r) from by funext E; rw [evs]]
      exact pa_consV (ev_ok t o h.1) (evs_ok r o h.2) (star_of (chkE_star h.1))
theorem args_ok : ∀ (ts : Tms) {W : WX} {k : KX} {X : Cx} {es : List Expr}, XOk Γ cl F rk W k X → chkEs ts es k = true → PA X es (tL Γ W cl (args F Γ.G ts))
  | .nil, W, k, X, es, o, h => by
    cases es with
    | nil =>
      rw [show args F Γ.G .nil = fun E => .ok [] [] E from by funext E; rw [args]]
      exact pa_nilL
    | cons _ _ => cases h
  | .cons t r, W, k, X, es, o, h => by
    cases es with
    | nil => cases h
    | cons e es =>
      simp only [chkEs, Bool.and_eq_true] at h
      cases q : asVar t with
      | none =>
        rw [show args F Γ.G (.cons t r) = fun E => argD (ev F Γ.G t E) (args F Γ.G r) from by funext E; rw [args, q]]
        exact pa_consL (ev_ok t o h.1) (args_ok r o h.2) (star_of (chkE_star h.1))
      | some i =>
        rw [show args F Γ.G (.cons t r) = fun E => argV E i (args F Γ.G r) from by funext E; rw [args, q]]
        have h1 := opd_of o h.1 (ev_ok t o h.1)
        rw [q] at h1
        exact pa_varL h1 (args_ok r o h.2) (star_of (chkE_star h.1))
theorem bord_ok : ∀ (b : Bd) {W : WX} {k : KX} {X : Cx} {e : Option Expr}, XOk Γ cl F rk W k X → chkB b e k = true → PO X e (tBd Γ W cl (bdOf F Γ.G b))
  | .no, W, k, X, e, o, h => by
    cases e with
    | none => exact po_none
    | some _ => cases h
  | .at t, W, k, X, e, o, h => by
    cases e with
    | none => cases h
    | some e =>
      simp only [chkB] at h
      exact po_some (opd_of o h (ev_ok t o h))
theorem walk_ok : ∀ (it : It) {W : WX} {k : KX} {X : Cx} {e tg : Expr}, XOk Γ cl F rk W k X → chkI it e tg k = true → PI X tg e (tW Γ W cl (walk F Γ.G it))
  | .seq a, W, k, X, e, tg, o, h => by
    simp only [chkI] at h
    rw [show walk F Γ.G (.seq a) = fun E => _ from by funext E; rw [walk]]
    exact pi_seqE o.hK (opd_of o h (ev_ok a o h))
  | .range1 a, W, k, X, e, tg, o, h => by
    unfold chkI at h
    split at h
    · simp only [Bool.and_eq_true] at h
      obtain ⟨hx, h1, h2, h3, h4⟩ := o.blt h.1
      rw [show walk F Γ.G (.range1 a) = fun E => _ from by funext E; rw [walk]]
      exact pi_range1E hx h1 h2 (star_of (chkE_star h.2)) (ev_ok a o h.2)
    · cases h
  | .range2 a b, W, k, X, e, tg, o, h => by
    unfold chkI at h
    split at h
    · simp only [Bool.and_eq_true] at h
      obtain ⟨hx, h1, h2, h3, h4⟩ := o.blt h.1
      rw [show walk F Γ.G (.range2 a b) = fun E => _ from by funext E; rw [walk]]
      exact pi_range2E hx h1 h2 (by rw [star_of (chkE_star h.2.1), star_of (chkE_star h.2.2)]; rfl) (star_of (chkE_star h.2.2)) (ev_ok a o h.2.1) (ev_ok b o h.2.2)
    · cases h
  | .enum a, W, k, X, e, tg, o, h => by
    unfold chkI at h
    split at h
    · simp only [Bool.and_eq_true] at h
      obtain ⟨hx, h1, h2, h3, h4⟩ := o.blt h.1
      rw [show walk F Γ.G (.enum a) = fun E => _ from by funext E; rw [walk]]
      exact pi_enumE o.hK hx h1 h2 (star_of (chkE_star h.2)) (opd_of o h.2 (ev_ok a o h.2))
    · cases h
  | .zip a b, W, k, X, e, tg, o, h => by
    unfold chkI at h
    split at h
    · simp only [Bool.and_eq_true] at h
      obtain ⟨hx, h1, h2, h3, h4⟩ := o.blt h.1
      rw [show walk F Γ.G (.zip a b) = fun E => _ from by funext E; rw [walk]]
      exact pi_zipE o.hK hx h1 h2 (by rw [star_of (chkE_star h.2.1), star_of (chkE_star h.2.2)]; rfl) (star_of (chkE_star h.2.2)) (opd_of o h.2.1 (ev_ok a o h.2.1)) (opd_of o h.2.2 (ev_ok b o h.2.2))
    · cases h
theorem tgt_ok : ∀ (g : Tg) {W : WX} {k : KX} {X : Cx} {e : Expr} {ch : Option (List Nat)}, XOk Γ cl F rk W k X → chkG g e k ch = true → PG X e (tG Γ W cl (chP ch) (tgt F Γ.G g))
  | .nm i, W, k, X, e, ch, o, h => by
    unfold chkG at h
    split at h
    · simp only [Bool.and_eq_true, decide_eq_true_eq] at h
      obtain ⟨s1, s2⟩ := o.sto h.1.2
      rw [show tgt F Γ.G (.nm i) = fun d E => storeS E i false d from by funext d E; rw [tgt]]
      refine pg_nmE o.nd (by rw [o.N]; exact h.1.1) s1 s2 ?_
      cases ch with
      | none => trivial
      | some l => simpa [chP] using h.2
    · cases h
  | .tup gs, W, k, X, e, ch, o, h => by
    unfold chkG at h
    split at h
    · simp only [Bool.and_eq_true, decide_eq_true_eq] at h
      rw [show tgt F Γ.G (.tup gs) = fun d E => _ from by funext d E; rw [tgt]]
      obtain ⟨st, ln⟩ := chkGs_star h.2
      exact pg_tupE o.hK o.calm (tgts_ok gs o h.2) (by rw [(assign_plain st).1, h.1]) (assign_plain st).2
    · cases h
  | .sub i ix, W, k, X, e, ch, o, h => by
    unfold chkG at h
    split at h
    · simp only [Bool.and_eq_true] at h
      obtain ⟨v1, v2, v3, v4⟩ := o.var h.1
      rw [show tgt F Γ.G (.sub i ix) = fun d E => _ from by funext d E; rw [tgt]]
      exact pg_subE o.hK (by have := o.bu; omega) v1 v2 v3 v4 (opd_of o h.2 (ev_ok ix o h.2)) (assign_sub (plainIx_of h.2) h.2)
    · cases h
theorem tgts_ok : ∀ (gs : Tgs) {W : WX} {k : KX} {X : Cx} {es : List Expr} {ch : Option (List Nat)}, XOk Γ cl F rk W k X → chkGs gs es k ch = true → PGs X es (tGs Γ W cl (chP ch) (tgts F Γ.G gs))
  | .nil, W, k, X, es, ch, o, h => by
    cases es with
    | nil =>
      rw [show tgts F Γ.G .nil = fun ds E => match ds with
        | [] => .nx E
        | _ => .bad from by funext ds E; cases ds <;> simp only [tgts]]
      exact pgs_nilE
    | cons _ _ => cases h
  | .cons g r, W, k, X, es, ch, o, h => by
    cases es with
    | nil => cases h
    | cons e es =>
      simp only [chkGs, Bool.and_eq_true] at h
      rw [show tgts F Γ.G (.cons g r) = fun ds E => match ds with
        | x :: xs => (tgt F Γ.G g x E).then (tgts F Γ.G r xs)
        | [] => .bad from by funext ds E; cases ds <;> simp only [tgts]]
      exact pgs_consE (tgt_ok g o h.1) (tgts_ok r o h.2) (by rw [assign_of (chkG_star h.1)]; rfl)
end
end Rx
set_option maxHeartbeats 2000000
/-! RxV0: which stores run from the right; which names are stored late. -/
namespace Rx
open PySem PySem.Spec PyProof.Rows L2
theorem sw_no {k : KX} {t : Tm} {e : Expr} {tg : Option Expr} {l : Nat} {env : Env} (hc : isComp e = false) (h : chkE t e k = true) : swapsWith e tg l env = pure false := by
  cases e with
  | ListComp => cases hc
  | SetComp a b c d => cases t <;> first | (cases h; done) | (rename_i z _; cases z <;> (cases h; done)) | (rename_i z _ _; cases z <;> (cases h; done))
  | DictComp a b c d e => cases t <;> first | (cases h; done) | (rename_i z _; cases z <;> (cases h; done)) | (rename_i z _ _; cases z <;> (cases h; done))
  | _ => rfl
theorem sw_late {k : KX} {x : Str} {p0 : Pos} {elt : Expr} {gs : List Comprehension} {scope : Scope} {pos : Pos} {l : Nat} {env : Env} (hk : env.scope.kind = .function) (hs : env.scope = k.sc) :
    swapsWith (.ListComp elt gs scope pos) (some (.Name x p0)) l env = pure (lateB k x p0 (.ListComp elt gs scope pos)) := by
  have hb : env.blockKind = .function := by unfold Env.blockKind; rw [hk]; rfl
  unfold swapsWith lateB
  simp only [hb]
  show pure (true && (env.scope.names.lookup x == some .local) && _ && _) = _
  rw [hs]
  rfl
/-- the model's choice of names to be stored from the right, one by one -/
def swF (env : Env) (line : Nat) : Expr → Option Str
  | .Name id pos => if env.kindOf id == some .local && pos.line == line then some id else none
  | _ => none
theorem swF_eq {k : KX} {env : Env} {l : Nat} {e : Expr} (hs : env.scope = k.sc) : swF env l e = if swT k l e then nmOf e else none := by
  cases e with
  | Name x p =>
    show (if (env.scope.names.lookup x == some .local) && p.line == l then some x else none) = if (k.sc.names.lookup x == some .local) && p.line == l then some x else none
    rw [hs]
  | _ => rfl
theorem swp_eq {ts es : List Expr} {k1 k2 : Nat} {p1 p2 : Pos} {env : Env} (hk : env.scope.kind = .function) (hl : es.length = ts.length) (st : Stars es) : swappedStores [.Tuple ts k1 p1] (.Tuple es k2 p2) env =
    (if !(ts.length == 2 || ts.length == 3) then pure none else
      let names := ts.filterMap (swF env (lineOf ts))
      if names.length != ts.length || names.eraseDups.length != names.length then pure none
      else if es.all (foldedForSure 8) then pure none
      else if es.all (constantsAlone 8) then (do unsupported "assign.tuple-of-constant-expressions:order-of-the-stores"; return some names)
      else pure (some names)) := by
  have hb : env.blockKind = .function := by unfold Env.blockKind; rw [hk]; rfl
  unfold swappedStores
  simp only [hb, hl]
  have hf : ∀ g : Expr → Option Str, (∀ x, g x = swF env (lineOf ts) x) → List.filterMap g ts = List.filterMap (swF env (lineOf ts)) ts := fun g h => by rw [funext h]
  have hln : (Option.map (fun x : Expr => x.pos.line) ts.head?).getD 0 = lineOf ts := by cases ts <;> rfl
  rw [hln, hf]
  · have z : (ts.length != ts.length) = false := by simp
    have z2 : (ScopeKind.function != ScopeKind.function) = false := by decide
    have ha : ∀ g : Expr → Bool, (∀ x, g x = isStar x) → es.any g = false := fun g h => by
      rw [List.any_eq_false]
      intro e m
      rw [h, st e m]
      decide
    rw [z, z2, Bool.or_false, Bool.or_false, ha]
    rotate_left
    · intro x; cases x <;> rfl
    simp only [Bool.false_eq_true, if_false]
  · intro x
    cases x <;> rfl
theorem fm_lt {α β : Type} {f : α → Option β} : ∀ {ts : List α}, (∃ t ∈ ts, f t = none) → (ts.filterMap f).length ≠ ts.length
  | [], h => by obtain ⟨t, m, _⟩ := h; cases m
  | a :: ts, h => by
    rw [List.filterMap_cons]
    cases q : f a with
    | none =>
      have := List.length_filterMap_le f ts
      simp
      omega
    | some b =>
      obtain ⟨t, m, e⟩ := h
      rcases List.mem_cons.mp m with rfl | m
      · rw [q] at e; cases e
      · have := fm_lt ⟨t, m, e⟩
        simpa using this
theorem swp0 {k : KX} {ts es : List Expr} {k1 k2 : Nat} {p1 p2 : Pos} {env : Env} (hk : env.scope.kind = .function) (hs : env.scope = k.sc) (hl : es.length = ts.length) (st : Stars es) (h : swM k ts es = 0) : swappedStores [.Tuple ts k1 p1] (.Tuple es k2 p2) env = pure none := by
  rw [swp_eq hk hl st]
  have bad : (∃ t ∈ ts, swT k (lineOf ts) t = false) → (if !(ts.length == 2 || ts.length == 3) then pure none else
      let names := ts.filterMap (swF env (lineOf ts))
      if names.length != ts.length || names.eraseDups.length != names.length then pure none
      else if es.all (foldedForSure 8) then pure none
      else if es.all (constantsAlone 8) then (do unsupported "assign.tuple-of-constant-expressions:order-of-the-stores"; return some names)
      else pure (some names) : Sem (Option (List Str))) = pure none := fun ⟨t, m, e⟩ => by
    have := fm_lt (f := swF env (lineOf ts)) ⟨t, m, by rw [swF_eq hs, e]; rfl⟩
    have z : ((ts.filterMap (swF env (lineOf ts))).length != ts.length) = true := by simpa using this
    simp only [z, Bool.true_or, if_true]
    split <;> rfl
  have fold : es.all (foldedForSure 8) = true → (if !(ts.length == 2 || ts.length == 3) then pure none else
      let names := ts.filterMap (swF env (lineOf ts))
      if names.length != ts.length || names.eraseDups.length != names.length then pure none
      else if es.all (foldedForSure 8) then pure none
      else if es.all (constantsAlone 8) then (do unsupported "assign.tuple-of-constant-expressions:order-of-the-stores"; return some names)
      else pure (some names) : Sem (Option (List Str))) = pure none := fun hf => by
    simp only [hf, if_true]
    split
    · rfl
    · split <;> rfl
  match ts with
  | [] => rfl
  | [_] => rfl
  | [a, b] =>
    unfold swM at h
    dsimp only at h
    by_cases hf : es.all (foldedForSure 8) = true
    · exact fold hf
    · rw [if_neg hf] at h
      split at h
      · split at h <;> cases h
      · rename_i n
        apply bad
        cases ha : swT k (lineOf [a, b]) a with
        | false => exact ⟨a, by simp, ha⟩
        | true => cases hb : swT k (lineOf [a, b]) b with
          | false => exact ⟨b, by simp, hb⟩
          | true => rw [ha, hb] at n; exact absurd rfl n
  | [a, b, c] =>
    unfold swM at h
    dsimp only at h
    by_cases hf : es.all (foldedForSure 8) = true
    · exact fold hf
    · rw [if_neg hf] at h
      split at h
      · split at h <;> cases h
      · rename_i n
        apply bad
        cases ha : swT k (lineOf [a, b, c]) a with
        | false => exact ⟨a, by simp, ha⟩
        | true => cases hb : swT k (lineOf [a, b, c]) b with
          | false => exact ⟨b, by simp, hb⟩
          | true => cases hc : swT k (lineOf [a, b, c]) c with
            | false => exact ⟨c, by simp, hc⟩
            | true => rw [ha, hb, hc] at n; exact absurd rfl n
  | _ :: _ :: _ :: _ :: _ => rfl
theorem swp2 {k : KX} {a b : Expr} {es : List Expr} {k1 k2 : Nat} {p1 p2 : Pos} {env : Env} (hk : env.scope.kind = .function) (hs : env.scope = k.sc) (hl : es.length = 2) (st : Stars es) (h : swM k [a, b] es ≠ 0) (h9 : swM k [a, b] es ≠ 9) :
    ∃ x y px py, a = .Name x px ∧ b = .Name y py ∧ k.sc.names.lookup x = some .local ∧ k.sc.names.lookup y = some .local ∧ x ≠ y ∧ swappedStores [.Tuple [a, b] k1 p1] (.Tuple es k2 p2) env = pure (some [x, y]) := by
  rw [swp_eq hk hl st]
  unfold swM at h h9
  dsimp only at h h9
  by_cases hf : es.all (foldedForSure 8) = true
  · rw [if_pos hf] at h; exact absurd rfl h
  · rw [if_neg hf] at h h9
    have hf : es.all (foldedForSure 8) = false := by simpa using hf
    split at h
    · rename_i hab
      rw [if_pos hab] at h9
      simp only [Bool.and_eq_true] at hab
      obtain ⟨ha, hb⟩ := hab
      split at h9
      · exact absurd rfl h9
      · rename_i n
        simp only [Bool.or_eq_true, decide_eq_true_eq, not_or] at n
        cases a with
        | Name x px => cases b with
          | Name y py =>
            have hxy : x ≠ y := fun e => n.1 (by rw [e]; rfl)
            refine ⟨x, y, px, py, rfl, rfl, ?_, ?_, hxy, ?_⟩
            · have : ((k.sc.names.lookup x == some .local) && _) = true := ha
              simp only [Bool.and_eq_true, beq_iff_eq] at this
              exact this.1
            · have : ((k.sc.names.lookup y == some .local) && _) = true := hb
              simp only [Bool.and_eq_true, beq_iff_eq] at this
              exact this.1
            · have fm : [Expr.Name x px, Expr.Name y py].filterMap (swF env (lineOf [Expr.Name x px, Expr.Name y py])) = [x, y] := by
                simp only [List.filterMap_cons, swF_eq hs, ha, hb, nmOf, if_true, List.filterMap_nil]
              have hd : (([x, y].eraseDups).length != [x, y].length) = false := by
                simp [List.eraseDups_cons, Ne.symm hxy]
              have nc : es.all (constantsAlone 8) = false := by
                cases q : es.all (constantsAlone 8) with
                | true => exact absurd q n.2
                | false => rfl
              simp only [fm, hd, hf, nc]
              rfl
          | _ => cases hb
        | _ => cases ha
    · exact absurd rfl h
theorem swp3 {k : KX} {a b c : Expr} {es : List Expr} {k1 k2 : Nat} {p1 p2 : Pos} {env : Env} (hk : env.scope.kind = .function) (hs : env.scope = k.sc) (hl : es.length = 3) (st : Stars es) (h : swM k [a, b, c] es ≠ 0) (h9 : swM k [a, b, c] es ≠ 9) :
    ∃ x y z px py pz, a = .Name x px ∧ b = .Name y py ∧ c = .Name z pz ∧ k.sc.names.lookup x = some .local ∧ k.sc.names.lookup y = some .local ∧ k.sc.names.lookup z = some .local ∧ x ≠ y ∧ x ≠ z ∧ y ≠ z ∧ swappedStores [.Tuple [a, b, c] k1 p1] (.Tuple es k2 p2) env = pure (some [x, y, z]) := by
  rw [swp_eq hk hl st]
  unfold swM at h h9
  dsimp only at h h9
  by_cases hf : es.all (foldedForSure 8) = true
  · rw [if_pos hf] at h; exact absurd rfl h
  · rw [if_neg hf] at h h9
    have hf : es.all (foldedForSure 8) = false := by simpa using hf
    split at h
    · rename_i hab
      rw [if_pos hab] at h9
      simp only [Bool.and_eq_true] at hab
      obtain ⟨⟨ha, hb⟩, hc⟩ := hab
      split at h9
      · exact absurd rfl h9
      · rename_i n
        simp only [Bool.or_eq_true, decide_eq_true_eq, not_or] at n
        cases a with
        | Name x px => cases b with
          | Name y py => cases c with
            | Name z pz =>
              have hxy : x ≠ y := fun e => n.1.1.1 (by rw [e]; rfl)
              have hxz : x ≠ z := fun e => n.1.1.2 (by rw [e]; rfl)
              have hyz : y ≠ z := fun e => n.1.2 (by rw [e]; rfl)
              refine ⟨x, y, z, px, py, pz, rfl, rfl, rfl, ?_, ?_, ?_, hxy, hxz, hyz, ?_⟩
              · have : ((k.sc.names.lookup x == some .local) && _) = true := ha
                simp only [Bool.and_eq_true, beq_iff_eq] at this
                exact this.1
              · have : ((k.sc.names.lookup y == some .local) && _) = true := hb
                simp only [Bool.and_eq_true, beq_iff_eq] at this
                exact this.1
              · have : ((k.sc.names.lookup z == some .local) && _) = true := hc
                simp only [Bool.and_eq_true, beq_iff_eq] at this
                exact this.1
              · have fm : [Expr.Name x px, Expr.Name y py, Expr.Name z pz].filterMap (swF env (lineOf [Expr.Name x px, Expr.Name y py, Expr.Name z pz])) = [x, y, z] := by
                  simp only [List.filterMap_cons, swF_eq hs, ha, hb, hc, nmOf, if_true, List.filterMap_nil]
                have hd : (([x, y, z].eraseDups).length != [x, y, z].length) = false := by
                  simp [List.eraseDups_cons, Ne.symm hxy, Ne.symm hxz, Ne.symm hyz]
                have nc : es.all (constantsAlone 8) = false := by
                  cases q : es.all (constantsAlone 8) with
                  | true => exact absurd q n.2
                  | false => rfl
                simp only [fm, hd, hf, nc]
                rfl
            | _ => cases hc
          | _ => cases hb
        | _ => cases ha
    · exact absurd rfl h
end Rx
set_option maxHeartbeats 4000000
/-! RxV: statements: the whole. -/
namespace Rx
open PySem PySem.Spec PyProof.Rows L2
structure XOkS (Γ : Gm) (cl : Cl) (F : Nat → List Sl → CR) (rk : Nat) (W : WX) (k : KX) (ex : List Str) (X : Cx) : Prop where
  ok : XOk Γ cl F rk W k X
  kind : X.env.scope.kind = .function
  pass : PassesOwn (model X.prog X.w) X.A X.env X.xe
  exc : ∀ x, ex.contains x = true → ∀ X' : Cx, X'.K = X.K → X'.mg = X.mg → Gl X' x → (x == ("__debug__" : Str)) = false → ∀ p m j p2 pos, PMk X' (.Call (.Name x p) [.Constant (.str m) j p2] [] pos) (fun _ H Q => Q (cl x) none H)
  cls : ∀ x, ex.contains x = true → X.mg x = some (cl x) ∧ PySem.W.exmOne X.K (cl x) (cl x) = some true
  stk : X.stack = X.env :: X.outer
  frm : X.env.frame = some X.env.locals
variable {Γ : Gm} {cl : Cl} {F : Nat → List Sl → CR} {rk : Nat} {W : WX} {k : KX} {ex : List Str} {X : Cx}
/-- within a try's body -/
theorem XOkS.tr (o : XOkS Γ cl F rk W k ex X) {W' : WX} {pn : List (Addr × Obj)} {xe : Value → Shared → Prop} (tk : Takes (X.tr pn xe) W') (pa : PassesOwn (model X.prog X.w) X.A X.env xe) : XOkS Γ cl F rk W' k ex (X.tr pn xe) where
  ok := ⟨o.ok.hK, o.ok.N, o.ok.nd, o.ok.sc, o.ok.fn, o.ok.calm, o.ok.room, tk, o.ok.free, o.ok.glob, o.ok.fns⟩
  kind := o.kind
  pass := pa
  exc := o.exc
  cls := o.cls
  stk := o.stk
  frm := o.frm
def cstV : Const → V
  | .none => .non
  | .bool b => .bl b
  | .int i => .int i
  | .str x => .str x
  | _ => .non
theorem pe_cstV {X : Cx} {d : D} {kk : Const} {j : Nat} {pos : Pos} (h : cstOk d kk = true) : PE X (.Constant kk j pos) (fun _ H Q => Q (cstV kk) H) ∧ ∀ (H : Hp) (C : Addr → Prop), Rep Γ H C d (cstV kk) := by
  cases d with
  | non => cases kk with
    | none => exact ⟨pe_non, fun _ _ => .non⟩
    | _ => cases h
  | bl b => cases kk with
    | bool c => exact ⟨pe_bl, fun _ _ => by rw [eq_of_beq h]; exact .bl c⟩
    | _ => cases h
  | int b => cases kk with
    | int c => exact ⟨pe_int, fun _ _ => by rw [eq_of_beq h]; exact .int c⟩
    | _ => cases h
  | str b => cases kk with
    | str c => exact ⟨pe_str, fun _ _ => by rw [of_decide_eq_true h]; exact .str c⟩
    | _ => cases h
  | _ => cases kk <;> cases h
/-- try: .. except x: return a constant -/
theorem ps_tryE {f : En → Out} {x : Str} {d : D} {kk : Const} {body : List Stmt} {np pos pos' rp cp : Pos} {j : Nat} (hs : X.stack = X.env :: X.outer) (hf : X.env.frame = some X.env.locals) (hc : Names X x (cl x)) (hm : PySem.W.exmOne X.K (cl x) (cl x) = some true) (tk : Takes X W) (hd : cstOk d kk = true)
    (hb : ∀ (W' : WX) (pn : List (Addr × Obj)) (xe : Value → Shared → Prop), Takes (X.tr pn xe) W' → PassesOwn (model X.prog X.w) X.A X.env xe → PSs (X.tr pn xe) body (tS Γ W' cl f)) :
    PS X (.Try body [.ExceptHandler (some (.Name x np)) none [.Return (some (.Constant kk j cp)) rp] pos'] [] [] pos) (tS Γ W cl fun E => match f E with
      | .ex c' E1 => if c' = x then .rt false d E1 else .bad
      | r => r) := by
  have hv := (pe_cstV (Γ := Γ) (X := X) (j := j) (pos := cp) hd).2
  refine (ps_try_only (c := cl x) (Wout := W) (ts := fun _ _ _ => tRet (fun _ H Q => Q (cstV kk) H)) hs hf hc tk (fun W' pn xe t p => hb W' pn xe t p) fun a oe cls d' pn _ _ => pss_one (ps_ret (pe_cstV (Γ := Γ) hd).1)).conseq fun Dn σ H ⟨E, C, re, p⟩ => ⟨E, C, re, ?_⟩
  · dsimp only at p
    cases q : f E with
    | ex c' E1 =>
      rw [q] at p
      dsimp only at p
      by_cases hcx : c' = x
      · rw [if_pos hcx] at p
        subst hcx
        intro σ' H' t r
        exact ⟨true, hm, fun _ a _ => p _ σ' H' t ⟨r, hv _ _⟩, fun z => by cases z⟩
      · rw [if_neg hcx] at p
        exact p.elim
    | nx E1 => rw [q] at p; exact p
    | bk E1 => rw [q] at p; exact p
    | ct E1 => rw [q] at p; exact p
    | rt o d' E1 => rw [q] at p; exact p
    | bad => rw [q] at p; exact p
theorem _root_.L2.PS.cg {st : Stmt} {f g : En → Out} (hp : PS X st (tS Γ W cl g)) (h : ∀ E, f E = g E) : PS X st (tS Γ W cl f) := by
  rw [show f = g from funext h]; exact hp
theorem _root_.L2.PS.exK {α : Type} {st : Stmt} {t : α → TS} (h : ∀ k, PS X st (t k)) : PS X st fun D σ H => ∃ k, t k D σ H := ⟨fun pins s σ H D I ⟨k, q⟩ => (h k).run pins s σ H D I q⟩
/-- name = [..], stored while the block still stands -/
theorem set_late {i : Nat} {x : Str} {a : Tm} {elt : Expr} {gs : List Comprehension} {scope : Scope} {pos spos p0 : Pos} (o : XOkS Γ cl F rk W k ex X) (h : chkE a (.ListComp elt gs scope pos) k = true) (hN : k.N[i]? = some x) (hl : lateB k x p0 (.ListComp elt gs scope pos) = true) :
    PS X (.Assign [.Name x p0] (.ListComp elt gs scope pos) spos) (tS Γ W cl fun E => (ev F Γ.G a E).out fun o d E1 => (storeS E1 i o d).only) := by
  have sw := sw_late (l := spos.line) (x := x) (p0 := p0) (elt := elt) (gs := gs) (scope := scope) (pos := pos) o.kind o.ok.sc
  rw [hl] at sw
  have lx : X.env.scope.names.lookup x = some .local := by
    rw [o.ok.sc]
    have : ((k.sc.names.lookup x == some .local) && (p0.line == pos.line) && _) = true := hl
    simp only [Bool.and_eq_true, beq_iff_eq] at this
    exact this.1.1
  cases a with
  | lc el g it c vs =>
    unfold chkE at h
    split at h
    · rename_i elt tg iter ifs as scope pos q
      cases q
      simp only [Bool.and_eq_true, decide_eq_true_eq] at h
      obtain ⟨⟨rfl, hb⟩, hi, hg, he, hc⟩ := h
      have vs_eq : (ownOf k.N vs).map (·.2) = vs := by
        unfold ownOf
        rw [List.map_map]
        exact List.map_id' vs
      have hb' : blkC X.N X.env.scope scope (ownOf k.N vs) = true := by rw [o.ok.N, o.ok.sc]; exact hb
      have base := ps_setLc (X := X) (i := i) (ifs := ifs) (tt := tIT Γ W0 cl (compC F Γ.G c)) (te := tI Γ W0 cl (ev F Γ.G el)) (g := tG Γ W0 cl (chP (some vs)) (tgt F Γ.G g)) (pos := pos) o.ok.calm o.ok.nd (by rw [o.ok.N]; exact hN) lx sw (walk_ok it o.ok hi) (blkOk_by hb')
        (fun s H Cc cs fp => tgt_ok g (o.ok.blk s H scope Cc cs fp) hg)
        (fun s H Cc cs fp => by
          cases c with
          | none =>
            cases ifs with
            | nil => exact pts_nil.conseq fun σ H Q ⟨E, C, re, p⟩ => PostT.bl re p
            | cons _ _ => cases hc
          | some c =>
            cases ifs with
            | nil => cases hc
            | cons c' r =>
              cases r with
              | nil => exact pts_one (tst_ok c (o.ok.blk s H scope Cc cs fp) hc).1
              | cons _ _ => cases hc)
        (fun s H Cc cs fp => ev_ok el (o.ok.blk s H scope Cc cs fp) he) (folded_of hi)
      rw [vs_eq] at base
      refine base.conseq fun Dn σ H h => ?_
      have ee : (fun E => (walk F Γ.G it E).comp vs fun xs E1 => compL vs (tgt F Γ.G g) (compC F Γ.G c) (ev F Γ.G el) xs [] E1) = ev F Γ.G (.lc el g it c vs) := by
        funext E
        cases c <;> (rw [ev]; try rfl)
      have h2 := set_of Dn σ H h
      rw [← ee] at h2
      exact lc_of σ H _ h2
    · cases h
  | lcd el g di itm c vs =>
    unfold chkE at h
    split at h
    · rename_i elt tg iter ifs as scope pos q
      cases q
      simp only [Bool.and_eq_true, decide_eq_true_eq] at h
      obtain ⟨⟨rfl, hb⟩, hi, hg, he, hc⟩ := h
      have vs_eq : (ownOf k.N vs).map (·.2) = vs := by
        unfold ownOf
        rw [List.map_map]
        exact List.map_id' vs
      have hb' : blkC X.N X.env.scope scope (ownOf k.N vs) = true := by rw [o.ok.N, o.ok.sc]; exact hb
      have base := fun {P : En → L2.St → Hp → Prop} {fw : En → IR} (hw : PI X tg iter (tWP Γ W cl P fw)) (hs : ∀ x, foldedSetIterable iter X.env x = pure x) => ps_setLc (X := X) (i := i) (ifs := ifs) (tt := tIT Γ W0 cl (compC F Γ.G c)) (te := tI Γ W0 cl (ev F Γ.G el)) (g := tG Γ W0 cl (chP (some vs)) (tgt F Γ.G g)) (pos := pos) o.ok.calm o.ok.nd (by rw [o.ok.N]; exact hN) lx sw hw (blkOk_by hb')
        (fun s H Cc cs fp => tgt_ok g (o.ok.blk s H scope Cc cs fp) hg)
        (fun s H Cc cs fp => by
          cases c with
          | none =>
            cases ifs with
            | nil => exact pts_nil.conseq fun σ H Q ⟨E, C, re, p⟩ => PostT.bl re p
            | cons _ _ => cases hc
          | some c =>
            cases ifs with
            | nil => cases hc
            | cons c' r =>
              cases r with
              | nil => exact pts_one (tst_ok c (o.ok.blk s H scope Cc cs fp) hc).1
              | cons _ _ => cases hc)
        (fun s H Cc cs fp => ev_ok el (o.ok.blk s H scope Cc cs fp) he) hs
      rw [vs_eq] at base
      have ee : ∀ E, ev F Γ.G (.lcd el g di itm c vs) E = (match dkAt E di with
          | some (ks, ds) => ((IR.ok (rowsK itm ks ds) [] (lockS E di)).comp vs fun xs E1 => compL vs (tgt F Γ.G g) (compC F Γ.G c) (ev F Γ.G el) xs [] E1).unl di
          | none => .bad) := fun E => by
        cases c <;> (rw [ev]; try rfl)
      have fin : ∀ {t : Bool × List Key × List D × Addr × Obj × List (Key × V) → TE}, (∀ σ H Q, tI Γ W cl (ev F Γ.G (.lcd el g di itm c vs)) σ H Q → tLockE (fun σ H Q => ∃ z, t z σ H Q) σ H Q) → (∀ z, PS X (.Assign [.Name x p0] (.ListComp elt [⟨tg, iter, ifs, 0⟩] scope pos) spos) (tAsg (t z) (gName i))) →
          PS X (.Assign [.Name x p0] (.ListComp elt [⟨tg, iter, ifs, 0⟩] scope pos) spos) (tS Γ W cl fun E => (ev F Γ.G (.lcd el g di itm c vs) E).out fun o d E1 => (storeS E1 i o d).only) := fun {t} h1 h2 => by
        refine (ps_lock (PS.exK h2)).conseq fun Dn σ H h => ?_
        obtain ⟨d, u, hd, hm, hz⟩ := h1 σ H _ (set_of Dn σ H h)
        exact ⟨d, u, hd, hm, hz⟩
      have lc' : ∀ σ H Q, tI Γ W cl (ev F Γ.G (.lcd el g di itm c vs)) σ H Q → _ := fun σ H Q ⟨E, C, re, p⟩ => lcd_of (Γ := Γ) (W := W) (cl := cl) (i := di) (itm := itm) (ft := tgt F Γ.G g) (fc := compC F Γ.G c) (fe := ev F Γ.G el) (vs := vs) σ H Q ⟨E, C, re, by rw [ee] at p; exact p⟩
      split at hi
      · rename_i x' p1
        simp only [Bool.and_eq_true, Bool.not_eq_true'] at hi
        obtain ⟨hm, hv⟩ := hi
        subst hm
        obtain ⟨v1, v2, v3, v4⟩ := o.ok.var hv
        exact fin lc' fun z => base (pi_keysE (i := di) (d := z.2.2.2.1) (od := z.2.2.2.2.1) (kvs := z.2.2.2.2.2) (ks := z.2.1) (ds := z.2.2.1) (b := z.1) (pe_var v1 v2 v3 v4)) fun _ => rfl
      · rename_i x' p1 nm apos cpos
        simp only [Bool.and_eq_true, decide_eq_true_eq] at hi
        obtain ⟨⟨⟨⟨hm, rfl⟩, hv⟩, hline⟩, ht⟩ := hi
        subst hm
        obtain ⟨v1, v2, v3, v4⟩ := o.ok.var hv
        cases tg with
        | Tuple elts kk tpos =>
          exact fin lc' fun z => base (pi_itemsE (i := di) (d := z.2.2.2.1) (od := z.2.2.2.2.1) (kvs := z.2.2.2.2.2) (ks := z.2.1) (ds := z.2.2.1) (b := z.1) (pe_var v1 v2 v3 v4) rfl hline) fun _ => rfl
        | _ => cases ht
      · cases hi
    · cases h
  | p1 p a => cases p <;> cases h
  | p2 p a b => cases p <;> cases h
  | _ => cases h
theorem evos_len {G : List D} : ∀ {ts : Tms} {E : En} {xs : List (Bool × D)} {E' : En}, evos F G ts E = .ok xs E' → xs.length = ts.len
  | .nil, E, xs, E', h => by rw [evos] at h; cases h; rfl
  | .cons t r, E, xs, E', h => by
    rw [evos] at h
    split at h
    · split at h
      · rename_i xs2 E2 q
        cases h
        simp [Tms.len, evos_len q]
      · cases h
      · cases h
    · cases h
    · cases h
theorem evos_ok : ∀ (ts : Tms) {es : List Expr}, XOk Γ cl F rk W k X → chkEs ts es k = true → PA X es (tOs Γ W cl (evos F Γ.G ts))
  | .nil, es, o, h => by
    cases es with
    | nil =>
      rw [show evos F Γ.G .nil = fun E => .ok [] E from by funext E; rw [evos]]
      exact pa_nilO
    | cons _ _ => cases h
  | .cons t r, es, o, h => by
    cases es with
    | nil => cases h
    | cons e es =>
      simp only [chkEs, Bool.and_eq_true] at h
      rw [show evos F Γ.G (.cons t r) = fun E => _ from by funext E; rw [evos]]
      exact pa_consO (ev_ok t o h.1) (evos_ok r o h.2) (star_of (chkE_star h.1))
/-- targets, one after another -/
theorem gos_ok : ∀ (gs : Tgs) {es : List Expr}, XOk Γ cl F rk W k X → chkGs gs es k none = true → ∃ u, PGs X es u ∧ ∀ vs σ H Q, tGOs Γ W cl (tgtOs F Γ.G gs) vs σ H Q → u vs σ H Q
  | .nil, es, o, h => by
    cases es with
    | nil =>
      refine ⟨_, pgs_nil, ?_⟩
      rw [show tgtOs F Γ.G .nil = fun xs E => match xs with
        | [] => .nx E
        | _ => .bad from by funext xs E; cases xs <;> simp only [tgtOs]]
      exact gos_nil
    | cons _ _ => cases h
  | .cons g r, es, o, h => by
    cases es with
    | nil => cases h
    | cons e es =>
      simp only [chkGs, Bool.and_eq_true] at h
      obtain ⟨u, hu1, hu2⟩ := gos_ok r o h.2
      have hs : (assignEach (e :: es) X.env).map (·.2) = assign e X.env :: (assignEach es X.env).map (·.2) := by rw [assign_of (chkG_star h.1)]; rfl
      have oth : (∀ o d E, tgtO F Γ.G g o d E = tgt F Γ.G g d E) → ∃ u, PGs X (e :: es) u ∧ ∀ vs σ H Q, tGOs Γ W cl (tgtOs F Γ.G (.cons g r)) vs σ H Q → u vs σ H Q := fun ho => by
        refine ⟨_, pgs_cons (tgt_ok (ch := none) g o h.1) hu1 hs, ?_⟩
        rw [show tgtOs F Γ.G (.cons g r) = fun xs E => match xs with
          | x :: xs => (tgt F Γ.G g x.2 E).only.then (tgtOs F Γ.G r xs)
          | [] => .bad from by funext xs E; cases xs <;> simp only [tgtOs, ho]]
        exact gos_tg (e := e) hu2
      cases g with
      | nm i =>
        have h1 := h.1
        unfold chkG at h1
        split at h1
        · simp only [Bool.and_eq_true, decide_eq_true_eq] at h1
          obtain ⟨s1, s2⟩ := o.sto h1.1.2
          refine ⟨_, pgs_cons (pg_name o.nd (by rw [o.N]; exact h1.1.1) s1 s2) hu1 hs, ?_⟩
          rw [show tgtOs F Γ.G (.cons (.nm i) r) = fun xs E => match xs with
            | x :: xs => (storeS E i x.1 x.2).only.then (tgtOs F Γ.G r xs)
            | [] => .bad from by funext xs E; cases xs <;> simp only [tgtOs, tgtO]]
          exact gos_nm hu2
        · cases h1
      | tup gs => exact oth fun _ _ _ => rfl
      | sub i ix => exact oth fun _ _ _ => rfl
theorem tgtOs_nm {G : List D} {i : Nat} {r : Tgs} : tgtOs F G (.cons (.nm i) r) = fun xs E => match xs with
    | x :: xs => (storeS E i x.1 x.2).only.then (tgtOs F G r xs)
    | [] => .bad := by funext xs E; cases xs <;> simp only [tgtOs, tgtO]
theorem tgtOs_nil {G : List D} : tgtOs F G .nil = fun xs E => match xs with
    | [] => .nx E
    | _ => .bad := by funext xs E; cases xs <;> simp only [tgtOs]
theorem nm_inv {i : Nat} {x : Str} {px : Pos} {ch : Option (List Nat)} (o : XOk Γ cl F rk W k X) (h : chkG (.nm i) (.Name x px) k ch = true) : X.N[i]? = some x := by
  simp only [chkG, Bool.and_eq_true, decide_eq_true_eq] at h
  rw [o.N]; exact h.1.1
theorem ix_ne {i j : Nat} {x y : Str} (h1 : X.N[i]? = some x) (h2 : X.N[j]? = some y) (n : x ≠ y) : i ≠ j := fun e => by
  subst e; rw [h1] at h2; exact n (Option.some.inj h2)
mutual
theorem st_ok : ∀ (s : St) {W : WX} {X : Cx} {st : Stmt}, XOkS Γ cl F rk W k ex X → chkS s st k ex = true → PS X st (tS Γ W cl (exec F Γ.G s))
  | .asg g a, W, X, st, o, h => by
    unfold chkS at h
    split at h
    · rename_i tg e pos
      simp only [Bool.and_eq_true] at h
      obtain ⟨ha, h⟩ := h
      have oth : chkG g tg k none = true → (∀ o d E, tgtO F Γ.G g o d E = tgt F Γ.G g d E) → swapsWithSole [tg] e pos.line X.env = pure false → swappedStores [tg] e X.env = pure none → PS X (.Assign [tg] e pos) (tS Γ W cl (exec F Γ.G (.asg g a))) := fun hg ho hs hw =>
        (ps_asgE (ev_ok a o.ok ha) (tgt_ok (ch := none) g o.ok hg) hs hw (by rw [assign_of (chkG_star hg)]; rfl)).cg fun E => by
          rw [exec]
          simp only [ho]
      cases g with
      | nm i =>
        dsimp only at h
        split at h
        · rename_i x p0
          simp only [Bool.and_eq_true, decide_eq_true_eq] at h
          obtain ⟨s1, s2⟩ := o.ok.sto h.2
          have hN : X.N[i]? = some x := by rw [o.ok.N]; exact h.1
          have eq : ∀ E, exec F Γ.G (.asg (.nm i) a) E = (ev F Γ.G a E).out fun o d E1 => (storeS E1 i o d).only := fun E => by
            rw [exec]; rfl
          have plain : swapsWith e (some (.Name x p0)) pos.line X.env = pure false → PS X (.Assign [.Name x p0] e pos) (tS Γ W cl (exec F Γ.G (.asg (.nm i) a))) := fun hs =>
            (ps_setE o.ok.nd hN s1 (ev_ok a o.ok ha) hs s2).cg eq
          cases hc : isComp e with
          | false => exact plain (sw_no hc ha)
          | true =>
            cases e with
            | ListComp elt gs scope cpos =>
              cases hl : lateB k x p0 (.ListComp elt gs scope cpos) with
              | true => exact (set_late o ha h.1 hl).cg eq
              | false => exact plain (by rw [sw_late o.kind o.ok.sc, hl])
            | _ => cases hc
        · cases h
      | tup gs =>
        simp only [Bool.and_eq_true] at h
        obtain ⟨hg, h⟩ := h
        cases tg with
        | Tuple ts k1 p1 =>
          refine oth hg (fun _ _ _ => rfl) ?_ ?_
          · cases e <;> rfl
          · cases e <;> first | rfl | cases h
        | _ => cases hg
      | sub i ix =>
        simp only [Bool.and_eq_true] at h
        obtain ⟨hg, h⟩ := h
        cases tg with
        | Subscript a1 b1 p1 =>
          refine oth hg (fun _ _ _ => rfl) ?_ ?_
          · cases e <;> rfl
          · rfl
        | _ => cases hg
    · cases h
  | .par gs ts, W, X, st, o, h => by
    unfold chkS at h
    split at h
    · rename_i tgs k1 p1 es k2 p2 pos
      simp only [Bool.and_eq_true, decide_eq_true_eq] at h
      obtain ⟨⟨⟨⟨⟨⟨hz, h1⟩, h2⟩, h3⟩, hes⟩, hgs⟩, hm⟩ := h
      obtain ⟨st1, _⟩ := chkEs_star hes
      obtain ⟨st2, _⟩ := chkGs_star hgs
      have hs : swapsWithSole [.Tuple tgs k1 p1] (.Tuple es k2 p2) pos.line X.env = pure false := rfl
      have pa := evos_ok (W := W) ts o.ok hes
      cases q0 : (swM k tgs es == 0) with
      | true =>
        have q0 : swM k tgs es = 0 := by simpa using q0
        obtain ⟨u, hu1, hu2⟩ := gos_ok (W := W) gs o.ok hgs
        exact (ps_parE (n := ts.len) (Nat.le_trans hz (by decide)) (fun E xs E1 q => evos_len q) o.ok.calm pa hu1 hu2 (by rw [(assign_plain st2).1, h2]) (assign_plain st2).2 hs (swp0 o.kind o.ok.sc (by rw [h3, h2]) st1 q0) rfl).cg fun E => by first | (rw [exec]; done) | (rw [exec]; rfl)
      | false =>
        rw [q0, Bool.false_or, Bool.and_eq_true] at hm
        obtain ⟨h9, hnm⟩ := hm
        have q0 : swM k tgs es ≠ 0 := by simpa using q0
        have q9 : swM k tgs es ≠ 9 := by simpa using h9
        match tgs, h2 with
        | [], _ => exact absurd rfl q0
        | [_], _ => exact absurd rfl q0
        | [a, b], h2 =>
          obtain ⟨x, y, px, py, rfl, rfl, lx, ly, hxy, hw⟩ := swp2 (k1 := k1) (k2 := k2) (p1 := p1) (p2 := p2) o.kind o.ok.sc (by rw [h3]; exact h2.symm) st1 q0 q9
          match gs, h1, hgs, hnm with
          | .cons (.nm i) (.cons (.nm j) .nil), h1, hgs, _ =>
            simp only [chkGs, Bool.and_eq_true] at hgs
            have i1 := nm_inv o.ok hgs.1
            have j1 := nm_inv o.ok hgs.2.1
            match es, h3, st1, hs, hw, pa with
            | [ea, eb], h3, st1, hs, hw, pa =>
              refine (ps_par2E (g := tgtOs F Γ.G (.cons (.nm i) (.cons (.nm j) .nil))) (fun E xs E1 q => by rw [evos_len q, ← h2]; rfl) o.ok.calm o.ok.nd i1 j1 (ix_ne i1 j1 hxy) (by rw [o.ok.sc]; exact lx) (by rw [o.ok.sc]; exact ly) pa ?_ hw hs).cg fun E => by first | (rw [exec]; done) | (rw [exec]; rfl)
              rw [tgtOs_nm, tgtOs_nm, tgtOs_nil]
              exact gos_nm (gos_nm gos_nil)
            | [], h3, _, _, _, _ => simp at h3 h2; omega
            | [_], h3, _, _, _, _ => simp at h3 h2; omega
            | _ :: _ :: _ :: _, h3, _, _, _, _ => simp at h3 h2; omega
          | .nil, h1, hgs, _ => cases hgs
          | .cons (.nm i) .nil, h1, hgs, _ => simp [chkGs] at hgs
          | .cons (.nm i) (.cons (.nm j) (.cons g r)), h1, hgs, _ => simp [chkGs] at hgs
          | .cons (.tup _) _, _, _, hn => cases hn
          | .cons (.sub _ _) _, _, _, hn => cases hn
          | .cons (.nm i) (.cons (.tup _) _), _, _, hn => cases hn
          | .cons (.nm i) (.cons (.sub _ _) _), _, _, hn => cases hn
        | [a, b, c], h2 =>
          obtain ⟨x, y, z, px, py, pz, rfl, rfl, rfl, lx, ly, lz, hxy, hxz, hyz, hw⟩ := swp3 (k1 := k1) (k2 := k2) (p1 := p1) (p2 := p2) o.kind o.ok.sc (by rw [h3]; exact h2.symm) st1 q0 q9
          match gs, h1, hgs, hnm with
          | .cons (.nm i) (.cons (.nm j) (.cons (.nm l) .nil)), h1, hgs, _ =>
            simp only [chkGs, Bool.and_eq_true] at hgs
            have i1 := nm_inv o.ok hgs.1
            have j1 := nm_inv o.ok hgs.2.1
            have l1 := nm_inv o.ok hgs.2.2.1
            match es, h3, st1, hs, hw, pa with
            | [ea, eb, ec], h3, st1, hs, hw, pa =>
              refine (ps_par3E (g := tgtOs F Γ.G (.cons (.nm i) (.cons (.nm j) (.cons (.nm l) .nil)))) (fun E xs E1 q => by rw [evos_len q, ← h2]; rfl) o.ok.calm o.ok.nd i1 j1 l1 (ix_ne i1 j1 hxy) (ix_ne i1 l1 hxz) (ix_ne j1 l1 hyz) (by rw [o.ok.sc]; exact lx) (by rw [o.ok.sc]; exact ly) (by rw [o.ok.sc]; exact lz) pa ?_ hw hs).cg fun E => by first | (rw [exec]; done) | (rw [exec]; rfl)
              rw [tgtOs_nm, tgtOs_nm, tgtOs_nm, tgtOs_nil]
              exact gos_nm (gos_nm (gos_nm gos_nil))
            | [], h3, _, _, _, _ => simp at h3 h2; omega
            | [_], h3, _, _, _, _ => simp at h3 h2; omega
            | [_, _], h3, _, _, _, _ => simp at h3 h2; omega
            | _ :: _ :: _ :: _ :: _, h3, _, _, _, _ => simp at h3 h2; omega
          | .nil, h1, hgs, _ => cases hgs
          | .cons (.nm i) .nil, h1, hgs, _ => simp [chkGs] at hgs
          | .cons (.nm i) (.cons (.nm j) .nil), h1, hgs, _ => simp [chkGs] at hgs
          | .cons (.nm i) (.cons (.nm j) (.cons (.nm l) (.cons g r))), h1, hgs, _ => simp [chkGs] at hgs
          | .cons (.tup _) _, _, _, hn => cases hn
          | .cons (.sub _ _) _, _, _, hn => cases hn
          | .cons (.nm i) (.cons (.tup _) _), _, _, hn => cases hn
          | .cons (.nm i) (.cons (.sub _ _) _), _, _, hn => cases hn
          | .cons (.nm i) (.cons (.nm j) (.cons (.tup _) _)), _, _, hn => cases hn
          | .cons (.nm i) (.cons (.nm j) (.cons (.sub _ _) _)), _, _, hn => cases hn
        | _ :: _ :: _ :: _ :: _, _ => exact absurd rfl q0
    · cases h
  | .aug i p a, W, X, st, o, h => by
    unfold chkS at h
    split at h
    · simp only [Bool.and_eq_true, Bool.or_eq_true, decide_eq_true_eq] at h
      obtain ⟨⟨⟨hp, hN⟩, hx⟩, ha⟩ := h
      obtain ⟨s1, s2⟩ := o.ok.sto hx
      exact (ps_augE o.ok.hK hp o.ok.nd (by rw [o.ok.N]; exact hN) s1 (opd_of o.ok ha (ev_ok a o.ok ha)) s2).cg fun E => by rw [exec]; try rfl
    · cases h
  | .augs i ix p a, W, X, st, o, h => by cases h
  | .expr a, W, X, st, o, h => by
    unfold chkS at h
    split at h
    · simp only [Bool.and_eq_true, Bool.not_eq_true'] at h
      exact (ps_exprE (ev_ok a o.ok h.2) (sw_no h.1 h.2)).cg fun E => by rw [exec]; try rfl
    · cases h
  | .ite c a b, W, X, st, o, h => by
    unfold chkS at h
    split at h
    · simp only [Bool.and_eq_true] at h
      exact (ps_ifE (tst_ok c o.ok h.1).1 (sts_ok a o h.2.1) (sts_ok b o h.2.2)).cg fun E => by rw [exec]; try rfl
    · cases h
  | .for_ g it b, W, X, st, o, h => by
    unfold chkS at h
    split at h
    · simp only [Bool.and_eq_true] at h
      exact (ps_forE o.pass o.ok.calm (walk_ok it o.ok h.1.1) (tgt_ok (ch := none) g o.ok h.1.2) (sts_ok b o h.2) (folded_of h.1.1)).cg fun E => by rw [exec]; try rfl
    · cases h
  | .while_ c b, W, X, st, o, h => by
    unfold chkS at h
    split at h
    · simp only [Bool.and_eq_true] at h
      exact (ps_whileE' o.pass (tst_ok c o.ok h.1).1 (sts_ok b o h.2)).cg fun E => by rw [exec]; try rfl
    · cases h
  | .ret a, W, X, st, o, h => by
    unfold chkS at h
    split at h
    · rename_i e pos
      cases a with
      | var i =>
        cases e with
        | Name x p =>
          obtain ⟨h1, h2, h3, h4⟩ := o.ok.var (show k.var i x = true from h)
          exact (ps_retVarE (pe_var h1 h2 h3 h4)).cg fun E => by rw [exec]; try rfl
        | _ => cases h
      | _ => exact (ps_retE (ev_ok _ o.ok h)).cg fun E => by rw [exec]; intros; rename_i z; cases z
    · cases a with
      | cst d =>
        cases d with
        | non => exact ps_retNE.cg fun E => by rw [exec, ev]; rfl; intros; rename_i z; cases z
        | _ => cases h
      | _ => cases h
    · cases h
  | .brk, W, X, st, o, h => by
    unfold chkS at h
    split at h
    · exact ps_brkE.cg fun E => by rw [exec]; try rfl
    · cases h
  | .cnt, W, X, st, o, h => by
    unfold chkS at h
    split at h
    · exact ps_cntE.cg fun E => by rw [exec]; try rfl
    · cases h
  | .pass, W, X, st, o, h => by
    unfold chkS at h
    split at h
    · exact ps_passE.cg fun E => by rw [exec]; try rfl
    · exact ps_docE.cg fun E => by rw [exec]; try rfl
    · cases h
  | .raise c, W, X, st, o, h => by
    unfold chkS at h
    split at h
    · simp only [Bool.and_eq_true, decide_eq_true_eq] at h
      obtain ⟨⟨⟨rfl, h1⟩, h2⟩, h3⟩ := h
      exact (ps_raiseE (ps_raise o.ok.calm o.ok.tk (o.exc _ h1 X rfl rfl (o.ok.gl h2) (okN_inv h3).1 _ _ _ _ _))).cg fun E => by rw [exec]; try rfl
    · cases h
  | .try_ b c d, W, X, st, o, h => by
    unfold chkS at h
    split at h
    · simp only [Bool.and_eq_true, decide_eq_true_eq] at h
      obtain ⟨⟨⟨⟨⟨rfl, h1⟩, h2⟩, h3⟩, h4⟩, h5⟩ := h
      obtain ⟨c1, c2⟩ := o.cls _ h1
      exact (ps_tryE o.stk o.frm ⟨o.ok.gl h2, (okN_inv h3).1, .inl c1⟩ c2 o.ok.tk h4 fun W' pn xe tk pa => sts_ok b (o.tr tk pa) h5).cg fun E => by rw [exec]; first | done | rfl | (cases execs F Γ.G b E <;> rfl)
    · cases h
theorem sts_ok : ∀ (s : Sts) {W : WX} {X : Cx} {st : List Stmt}, XOkS Γ cl F rk W k ex X → chkSs s st k ex = true → PSs X st (tS Γ W cl (execs F Γ.G s))
  | .nil, W, X, st, o, h => by
    cases st with
    | nil =>
      rw [show execs F Γ.G .nil = fun E => .nx E from by funext E; rw [execs]]
      exact pss_nilE
    | cons _ _ => cases h
  | .cons s r, W, X, st, o, h => by
    cases st with
    | nil => cases h
    | cons s' st =>
      simp only [chkSs, Bool.and_eq_true] at h
      rw [show execs F Γ.G (.cons s r) = fun E => (exec F Γ.G s E).then (execs F Γ.G r) from by funext E; rw [execs]]
      exact pss_consE (st_ok s o h.1) (sts_ok r o h.2)
end
end Rx
set_option maxHeartbeats 2000000
/-! RxX: defs; the law. -/
namespace Rx
open PySem PySem.Spec PyProof.Rows L2
variable {Γ : Gm} {cl : Cl} {σ σ' : L2.St} {H H' : Hp} {C C2 : Addr → Prop} {E E' : En} {as : List Sl} {vs : List V}
/-- arguments: shared, or lent -/
def VR2 (as : List Sl) : Prop := ∀ (k : Nat) s, as[k]? = some s → (∃ d, s = .val d) ∨ ∃ d, s = .ref d
theorem gt_app {n j : Nat} {s : Sl} : gt (asE as ++ List.replicate n none) j = some s ↔ as[j]? = some s := by
  rw [← gt_asE]
  unfold gt asE
  by_cases h : j < as.length
  · rw [List.getElem?_append_left (by simpa using h)]
  · rw [List.getElem?_append_right (by simpa using h), List.getElem?_replicate, List.getElem?_eq_none (l := as.map some) (by simp; omega)]
    by_cases h2 : j - (List.map some as).length < n
    · rw [if_pos h2]
    · rw [if_neg h2]
theorem at_start {N : List Str} {j : Nat} {v : V} : (start N vs)[j]? = some (some v) ↔ vs[j]? = some v := by
  unfold L2.start
  by_cases h : j < vs.length
  · rw [List.getElem?_append_left (by simpa using h)]
    exact at_vsS
  · rw [List.getElem?_append_right (by simpa using h), List.getElem?_replicate, List.getElem?_eq_none (l := vs) (by omega)]
    split <;> simp
theorem oa_app {N : List Str} {n j : Nat} {p : Addr} : OA (asE as ++ List.replicate n none) (start N vs) j p ↔ OA (asE as) (vsS vs) j p := by
  unfold OA
  simp only [gt_app, gt_asE, at_start, at_vsS]
theorem fz_app {N : List Str} {n : Nat} {a : Addr} : Fz C (asE as ++ List.replicate n none) (start N vs) a ↔ Fz C (asE as) (vsS vs) a := by
  unfold Fz
  simp only [oa_app]
theorem mu_app {N : List Str} {n : Nat} {a : Addr} : Mu (asE as ++ List.replicate n none) (start N vs) a ↔ Mu (asE as) (vsS vs) a := by
  unfold Mu
  simp only [gt_app, gt_asE, at_start, at_vsS]
theorem re_app {N : List Str} {n : Nat} (r : RE Γ H C (asE as) (vsS vs)) (hl : as.length + n = N.length) : RE Γ H C (asE as ++ List.replicate n none) (start N vs) := by
  have l : as.length = vs.length := by have := r.len; simpa using this
  have st : Stay H H (Fz C (asE as) (vsS vs)) (Fz C (asE as ++ List.replicate n none) (start N vs)) fun _ => False := .weak fun a z => fz_app.mp z
  refine ⟨?_, fun j s g => ?_, fun i j p h1 h2 => r.inj i j p (oa_app.mp h1) (oa_app.mp h2), fun j p h => r.dis j p (oa_app.mp h), r.cH⟩
  · unfold L2.start
    simp
    omega
  · obtain ⟨v, e, q⟩ := r.slot j s (gt_asE.mpr (gt_app.mp g))
    refine ⟨v, at_start.mpr (at_vsS.mp e), ?_⟩
    cases s with
    | val d => exact Rep.stay q st
    | rfz d => exact Rep.stay q st
    | own d => obtain ⟨p', e', c⟩ := q; exact ⟨p', e', c.stay st id⟩
    | ref d => obtain ⟨p', e', c⟩ := q; exact ⟨p', e', c.stay st id⟩
    | lck b d => obtain ⟨p', e', c⟩ := q; exact ⟨p', e', c.stay st id⟩
theorem last_len : ∀ (as : List Sl) (E : En), (lastPs as E).length = as.length
  | [], _ => rfl
  | .ref _ :: as, E => by simp [lastPs, last_len as]
  | .val _ :: as, E => by simp [lastPs, last_len as]
  | .own _ :: as, E => by simp [lastPs, last_len as]
  | .rfz _ :: as, E => by simp [lastPs, last_len as]
  | .lck _ _ :: as, E => by simp [lastPs, last_len as]
theorem gt_succ {x : Option Sl} {E : En} {j : Nat} : gt (x :: E) (j + 1) = gt E j := rfl
theorem gt_tail {E : En} {j : Nat} : gt E.tail j = gt E (j + 1) := by
  cases E <;> rfl
theorem gt_last : ∀ {as : List Sl} {E : En} {j : Nat} {s : Sl}, gt (lastPs as E) j = some s → (∃ d0, as[j]? = some (.ref d0)) ∧ gt E j = some s ∧ ((∃ d, s = .ref d) ∨ ∃ d, s = .rfz d)
  | [], E, j, s, h => by simp [lastPs, gt] at h
  | a :: as, E, 0, s, h => by
    cases a with
    | ref d0 =>
      have h : gt (lastH E :: lastPs as E.tail) 0 = some s := h
      refine ⟨⟨d0, rfl⟩, ?_⟩
      have h : lastH E = some s := by
        unfold gt at h
        cases q : lastH E with
        | none => rw [q] at h; cases h
        | some z => rw [q] at h; exact h
      unfold lastH at h
      split at h
      · cases h; exact ⟨rfl, .inl ⟨_, rfl⟩⟩
      · cases h; exact ⟨rfl, .inr ⟨_, rfl⟩⟩
      · cases h
    | _ => cases h
  | a :: as, E, j + 1, s, h => by
    have h : gt (lastPs as E.tail) j = some s := by cases a <;> exact h
    obtain ⟨h1, h2, h3⟩ := gt_last h
    exact ⟨h1, by rw [← gt_tail]; exact h2, h3⟩
/-- the parameters' last states -/
theorem last_ok {N : List Str} {n : Nat} (vr : VR2 as) (r0 : RE Γ H C (asE as) (vsS vs)) (t : Tr (asE as ++ List.replicate n none) (start N vs) H E' σ' H') (r : RE Γ H' C2 E' σ') :
    Tr (asE as) (vsS vs) H (lastPs as E') (vsS vs) H' ∧ RE Γ H' C2 (lastPs as E') (vsS vs) ∧ ∀ a, Fz C2 (lastPs as E') (vsS vs) a → Fz C2 E' σ' a := by
  have l : as.length = vs.length := by have := r0.len; simpa using this
  have sig : ∀ j v s, gt (lastPs as E') j = some s → ((vsS vs)[j]? = some (some v) ↔ σ'[j]? = some (some v)) := fun j v s g => by
    obtain ⟨h1, h2, h3⟩ := gt_last g
    have e : σ'[j]? = (start N vs)[j]? := by
      rcases h3 with ⟨d, rfl⟩ | ⟨d, rfl⟩
      · exact (t.ref j d h2).2
      · exact (t.rfz j d h2).2
    rw [e, at_start, at_vsS]
  have oa : ∀ j p, OA (lastPs as E') (vsS vs) j p → OA E' σ' j p := fun j p ⟨s, g, o, e⟩ => ⟨s, (gt_last g).2.1, o, (sig j _ s g).mp e⟩
  have fz : ∀ a, Fz C2 (lastPs as E') (vsS vs) a → Fz C2 E' σ' a := fun a z => z.imp id fun ⟨j, z⟩ => ⟨j, oa j a z⟩
  have st : Stay H' H' (Fz C2 E' σ') (Fz C2 (lastPs as E') (vsS vs)) fun _ => False := .weak fz
  refine ⟨⟨fun a o n e => t.keep a o (fun m => n (mu_app.mp m)) e, t.there, fun j p d g _ => ?_, fun j b d g => ?_, fun j b d g => ?_, fun j d g => ?_, fun j d g => ?_⟩, ⟨?_, fun j s g => ?_, fun i j p h1 h2 => r.inj i j p (oa i p h1) (oa j p h2), fun j p h => r.dis j p (oa j p h), r.cH⟩, fz⟩
  · obtain ⟨_, _, ⟨_, z⟩ | ⟨_, z⟩⟩ := gt_last g <;> cases z
  · rcases vr j _ (gt_asE.mp g) with ⟨_, z⟩ | ⟨_, z⟩ <;> cases z
  · obtain ⟨_, _, ⟨_, z⟩ | ⟨_, z⟩⟩ := gt_last g <;> cases z
  · obtain ⟨⟨d0, h1⟩, _, _⟩ := gt_last g
    exact ⟨⟨d0, gt_asE.mpr h1⟩, rfl⟩
  · obtain ⟨⟨d0, h1⟩, _, _⟩ := gt_last g
    exact ⟨⟨d0, .inl (gt_asE.mpr h1)⟩, rfl⟩
  · rw [last_len]; simp [l]
  · obtain ⟨h1, h2, h3⟩ := gt_last g
    obtain ⟨v, e, q⟩ := r.slot j s h2
    refine ⟨v, (sig j v s g).mpr e, ?_⟩
    rcases h3 with ⟨d, rfl⟩ | ⟨d, rfl⟩
    · obtain ⟨p', e', c⟩ := q; exact ⟨p', e', c.stay st id⟩
    · exact Rep.stay q st
/-- a body's run gives the def's promise -/
theorem run_of {F : Nat → List Sl → CR} {f : Df} {N : List Str} {Q : VK} {Ex : XK} (hN : f.m = N.length) (hn : f.n ≤ f.m) (vr : VR2 as) (r0 : RE Γ H C (asE as) (vsS vs)) (p : PostC Γ cl vs H C as Q Ex (runDf F Γ.G f as)) :
    tS Γ (fun c d _ H => Ex c d H) cl (execs F Γ.G f.body) { nx := fun _ H' => Q .non H', rt := Q } (start N vs) H := by
  unfold runDf at p
  split at p
  · rename_i hl
    refine ⟨asE as ++ List.replicate (f.m - f.n) none, C, re_app r0 (by omega), ?_⟩
    split at p
    · rename_i E' q
      rw [q]
      intro σ' H' t r
      obtain ⟨t2, r2, _⟩ := last_ok vr r0 t r
      exact p .non H' t2 ⟨r2, .non⟩
    · rename_i o d E' q
      rw [q]
      intro v σ' H' t vro
      cases o with
      | false =>
        obtain ⟨r, rp⟩ := vro
        obtain ⟨t2, r2, fz⟩ := last_ok vr r0 t r
        exact p v H' t2 ⟨r2, rp.stay (.weak fz)⟩
      | true =>
        obtain ⟨pp, rfl, n, nc, r, cn⟩ := vro
        obtain ⟨t2, r2, fz⟩ := last_ok vr r0 t r
        refine p _ H' t2 ⟨pp, rfl, ?_, nc, r2, cn.stay (.weak fz) id⟩
        rcases n with ⟨j, d', g, _⟩ | n
        · rcases vr j _ (gt_app.mp g) with ⟨_, z⟩ | ⟨_, z⟩ <;> cases z
        · exact n
    · rename_i c E' q
      rw [q]
      intro σ' H' t r
      obtain ⟨t2, r2, _⟩ := last_ok vr r0 t r
      exact p H' t2 r2
    · exact p.elim
  · exact p.elim

/-! ### a table of defs -/
/-- a def of the text, its parameters and its names -/
structure DX where
  d : He.DefD
  ps : List Str
  N : List Str
def chkF (gc bl ex : List Str) (fns : List (Str × Nat)) (x : DX) (f : Df) : Bool :=
  (match x.d.scope.kind with
    | .function => true
    | _ => false) && !x.d.scope.isCoroutine && !x.d.scope.isGenerator && decide x.N.Nodup && decide (x.N.take x.ps.length = x.ps) && (x.ps.all fun p => match x.d.scope.names.lookup p with
    | some .local => true
    | some .cell => true
    | _ => false) && (x.d.scope.names.all fun y => match y.2 with
    | .free => false
    | _ => true) && decide (f.n = x.ps.length) && decide (f.m = x.N.length) && chkSs f.body x.d.body ⟨x.N, x.d.scope, fun _ => true, gc, fns, bl⟩ ex
/-- what the top gives for all of them -/
structure TopX (P : Program) (w : World) (Γ : Gm) (cl : Cl) (mg : Str → Option Value) (base : Heap) (gc bl ex : List Str) (fs : List DX) (T : List Df) : Prop where
  len : fs.length = T.length
  chk : ∀ (f : Nat) x t, fs[f]? = some x → T[f]? = some t → chkF gc bl ex (fs.map fun x => (x.d.name, x.ps.length)) x t = true
  def_ : ∀ (f : Nat) x, fs[f]? = some x → ∃ fa fd, FunD Γ.K x.d.name x.d.qual x.d.params x.d.body x.d.scope [] [] fa fd ∧ mg x.d.name = some (.ref fa) ∧ Binds Γ.K fd x.ps []
  free : ∀ x, bl.contains x = true → mg x = none
  glob : ∀ (j : Nat) x, gc[j]? = some x → ∃ d v u, Γ.G[j]? = some d ∧ mg x = some u ∧ RelV v u ∧ GlobOk Γ d v
  exc : ∀ x, ex.contains x = true → ∀ X : Cx, X.K = Γ.K → X.mg = mg → Gl X x → (x == ("__debug__" : Str)) = false → ∀ p m j p2 pos, PMk X (.Call (.Name x p) [.Constant (.str m) j p2] [] pos) (fun _ H Q => Q (cl x) none H)
  cls : ∀ x, ex.contains x = true → mg x = some (cl x) ∧ PySem.W.exmOne Γ.K (cl x) (cl x) = some true
theorem defs_ok {P : Program} {w : World} {mg : Str → Option Value} {base : Heap} {gc bl ex : List Str} {fs : List DX} {T : List Df} (tx : TopX P w Γ cl mg base gc bl ex fs T) : ∀ (k f : Nat) (x : DX) (fa : Addr) (fd : FuncData), fs[f]? = some x →
    FunD Γ.K x.d.name x.d.qual x.d.params x.d.body x.d.scope [] [] fa fd → FnOk P w Γ.K mg base (L2.CX P w) k fa fd x.ps (spC Γ cl x.ps.length (callK T Γ.G k f))
  | 0, f, x, fa, fd, hf, F => ⟨fun vs H Q Ex h => h.1, fun A outer s H args us vs Q Ex _ _ _ _ h => by
      obtain ⟨_, as, C, _, _, p⟩ := h
      exact p.elim⟩
  | k + 1, f, x, fa, fd, hf, F => by
    have hlt : f < T.length := by rw [← tx.len]; exact (List.getElem?_eq_some_iff.mp hf).1
    have hT : T[f]? = some T[f] := List.getElem?_eq_getElem hlt
    have hc := tx.chk f x _ hf hT
    unfold chkF at hc
    simp only [Bool.and_eq_true, decide_eq_true_eq, Bool.not_eq_true', List.all_eq_true] at hc
    obtain ⟨⟨⟨⟨⟨⟨⟨⟨⟨c1, c2⟩, c3⟩, c4⟩, c5⟩, c6⟩, c7⟩, c8⟩, c9⟩, c10⟩ := hc
    have kf : x.d.scope.kind = .function := by
      split at c1
      · rename_i e; exact e
      · cases c1
    have S : FnScope x.N x.ps x.d.scope := by
      refine ⟨kf, c2, c3, c4, c5, fun y hy => ?_, fun y hy e => ?_⟩
      · have := c6 y hy
        split at this
        · rename_i e; exact .inl e
        · rename_i e; exact .inr e
        · cases this
      · have := c7 y hy
        rw [e] at this
        cases this
    refine F.ok S (fun vs H Q Ex h => h.1) fun cdv A outer s H vs Q Ex hr h => ?_
    obtain ⟨hl, as, C, vr, r0, p⟩ := h
    have p : PostC Γ cl vs H C as Q Ex (runDf (callK T Γ.G k) Γ.G T[f] as) := by
      have e : callK T Γ.G (k + 1) f as = runDf (callK T Γ.G k) Γ.G T[f] as := by
        rw [callK, hT]
      rw [← e]; exact p
    have psl : x.ps.length ≤ x.N.length := by rw [← c5, List.length_take]; omega
    refine ⟨_, sts_ok (W := fun c d _ H => Ex c d H) (rk := k) (F := callK T Γ.G k) (k := ⟨x.N, x.d.scope, fun _ => true, gc, fs.map fun x => (x.d.name, x.ps.length), bl⟩) (T[f]).body ⟨⟨rfl, rfl, c4, rfl, rfl, rfl, hr, takes_of rfl rfl rfl rfl, tx.free, tx.glob, fun f' y n hy => ?_⟩, kf, passes_of rfl, fun y hy X' hK hmg g hd => tx.exc y hy X' hK hmg g hd, tx.cls, rfl, rfl⟩ c10, run_of c9 (by rw [c8, c9]; exact psl) vr r0 p⟩
    rw [List.getElem?_map] at hy
    obtain ⟨x', hx', e⟩ := Option.map_eq_some_iff.mp hy
    cases e
    obtain ⟨fa', fd', F', m', b'⟩ := tx.def_ f' x' hx'
    exact ⟨fa', fd', x'.ps, defs_ok tx k f' x' fa' fd' hx' F', m', F'.kp, b'⟩
/-- the law's def: its promise for a script of ints -/
theorem law_sp {T : List Df} {k li n : Nat} (hz : n ≤ SZ) (h : ∀ ns : List Int, ns.length ≤ n → ∃ o ps, callK T Γ.G k li [.val (.frl (ns.map .int))] = .ok o (.bl true) ps) (H : Hp) (a : Addr) (ns : List Int) (hl : ns.length ≤ n) (hS : SqL Γ.K H a (ns.map V.int)) :
    spC Γ cl 1 (callK T Γ.G k li) [.ref a] H (fun v _ => v = .bl true) fun _ _ _ => False := by
  obtain ⟨o, ps, e⟩ := h ns hl
  have noA : ∀ (F : Addr → Prop) (v : V) i p, ¬ OA [some (.val (.frl (ns.map .int)))] [some v] i p := fun F v i p ⟨s, g, ow, _⟩ => by
    have g := gt_asE (as := [.val (.frl (ns.map .int))]).mp g
    cases i with
    | zero => cases g; cases ow
    | succ i => simp at g
  refine ⟨rfl, [.val (.frl (ns.map .int))], fun _ => False, fun k s hs => ?_, ⟨rfl, fun i s g => ?_, fun i j p h1 _ => (noA (fun _ => False) _ i p h1).elim, fun i p h1 => id, fun a z => z.elim⟩, ?_⟩
  · cases k with
    | zero => cases hs; exact .inl ⟨_, rfl⟩
    | succ k => simp at hs
  · have g := gt_asE (as := [.val (.frl (ns.map .int))]).mp g
    cases i with
    | zero =>
      cases g
      refine ⟨.ref a, rfl, ?_⟩
      refine .frl (vs := ns.map V.int) ?_ (by simp; omega) (by simp) fun i d v e1 e2 => ?_
      · rcases hS with hS | hS
        · refine .inl ⟨hS, fun z => ?_⟩
          rcases z with z | ⟨i, z⟩
          · exact z
          · exact noA (fun _ => False) _ i a z
        · exact .inr hS
      · rw [List.getElem?_map] at e1 e2
        obtain ⟨m, hm, rfl⟩ := Option.map_eq_some_iff.mp e1
        rw [hm] at e2
        cases e2
        exact .int m
    | succ i => simp at g
  · rw [e]
    intro v H' _ vr
    obtain ⟨_, rp⟩ := vr.share
    cases rp
    rfl
end Rx
set_option maxHeartbeats 2000000
/-! RxY: the top of a law's row. -/
namespace Rx
open PySem PySem.Spec PyProof.Rows L2
/-- a constant: a scalar, a tuple of such -/
def cD : He.Dv → D
  | .bl b => .bl b
  | .int i => .int i
  | .str x => .str x
  | _ => .non
def flatDv : He.Dv → Bool
  | .non => true
  | .bl _ => true
  | .int _ => true
  | .str _ => true
  | _ => false
theorem rep_flat {Γ : Gm} {H : Hp} {F : Addr → Prop} {d : He.Dv} (h : flatDv d = true) : Rep Γ H F (cD d) (d.v Γ.K) := by
  cases d with
  | non => exact .non
  | bl b => exact .bl b
  | int i => exact .int i
  | str x => exact .str x
  | _ => cases h
/-- the module's name x is a tuple of scalars -/
theorem tup_ok {Γ : Gm} {x : Str} {ds : List He.Dv} (c : He.tupB Γ.K x ds = true) (fl : ds.all flatDv = true) (z : ds.length ≤ SZ) (g : D.tup (ds.map cD) ∈ Γ.G) : GlobOk Γ (.tup (ds.map cD)) (.ref (He.ga Γ.K x)) := fun H F => by
  have k : KresT Γ.K (He.ga Γ.K x) (ds.map (He.Dv.v Γ.K)) := by
    rcases He.tupB_ok c (fun _ => none) with q | q
    · rcases q with q | ⟨o, q⟩ <;> cases q
    · exact q
  refine .tup (.inr ⟨k, g⟩) (by simpa using z) (by simp) fun i d v h1 h2 => ?_
  rw [List.getElem?_map] at h1 h2
  obtain ⟨e, he, rfl⟩ := Option.map_eq_some_iff.mp h1
  rw [he] at h2
  cases h2
  exact rep_flat (List.all_eq_true.mp fl e (List.mem_of_getElem? he))
/-- the head's word: facts by names, defs, and one more -/
def obsR (fa : List He.Fa) (fn : List He.DefD) (ex : PySem.W.Frag → Bool) (K : PySem.W.Frag) : He.AlD := ((fa.all fun f => f.ok K) && (fn.all fun d => d.ok K) && ex K, fn.map fun d => He.fnW K d.at_)
def SaysR (fa : List He.Fa) (fn : List He.DefD) (ex : PySem.W.Frag → Bool) (K : PySem.W.Frag) : Prop := obsR fa fn ex K = He.valD fn
def obsRG (n : Nat) (fa : List He.Fa) (fn : List He.DefD) (ex : PySem.W.Frag → Bool) (g : Addr → Option Obj) : He.AlD := obsR fa fn ex (He.frG g (He.asD g n))
def hookR (n : Nat) (fa : List He.Fa) (fn : List He.DefD) (ex : PySem.W.Frag → Bool) : PySem.W.Hook where
  α := He.AlD
  obs := fun s => obsRG n fa fn ex s.heap.get?
  val := fun _ => He.valD fn
  says := fun _ h => ∃ K : PySem.W.Frag, K.In h ∧ SaysR fa fn ex K
  of := fun _ _ e => ⟨_, He.frG_in, e⟩
  keeps := fun _ _ _ ⟨K, hK, c⟩ k => ⟨K, PySem.W.Frag.In.keeps hK k, c⟩
theorem obsRG_eq {n : Nat} {fa : List He.Fa} {fn : List He.DefD} {ex : PySem.W.Frag → Bool} {g : Addr → Option Obj} {s : Shared} (h : ∀ a, g a = s.heap.get? a) : obsRG n fa fn ex g = (hookR n fa fn ex).obs s := by
  have e : g = s.heap.get? := funext h
  rw [e] <;> rfl
section
variable {fa : List He.Fa} {fn : List He.DefD} {ex : PySem.W.Frag → Bool} {K : PySem.W.Frag}
theorem SaysR.all (c : SaysR fa fn ex K) : He.SaysD fa fn K ∧ ex K = true := by
  have c1 : ((fa.all fun f => f.ok K) && (fn.all fun d => d.ok K) && ex K) = true := congrArg (fun z : He.AlD => z.1) c
  have c2 : fn.map (fun d => He.fnW K d.at_) = fn.map He.DefD.val := congrArg (fun z : He.AlD => z.2) c
  obtain ⟨c3, c4⟩ := He.ba c1
  refine ⟨?_, c4⟩
  show (((fa.all fun f => f.ok K) && fn.all fun d => d.ok K, fn.map fun d => He.fnW K d.at_) : He.AlD) = (true, fn.map He.DefD.val)
  rw [c3, c2]
end
/-- the module's own error classes -/
theorem exc_all {K : PySem.W.Frag} {h : Heap} {mg : Str → Option Value} {fa : List He.Fa} {fn : List He.DefD} {ex : List Str} (X : K.In h) (G : h.Ns mainGlobals mg) (c : He.SaysD fa fn K) (h1 : ∀ x ∈ ex, He.Fa.glo x ∈ fa) (h2 : ∀ x ∈ ex, He.Fa.exc x ∈ fa) (h3 : ∀ x ∈ ex, He.Fa.exm x x true ∈ fa) :
    (∀ x, ex.contains x = true → ∀ X : Cx, X.K = K → X.mg = mg → Gl X x → (x == ("__debug__" : Str)) = false → ∀ p m j p2 pos, PMk X (.Call (.Name x p) [.Constant (.str m) j p2] [] pos) (fun _ H Q => Q (.ref (He.ga K x)) none H)) ∧
    (∀ x, ex.contains x = true → mg x = some (.ref (He.ga K x)) ∧ PySem.W.exmOne K (.ref (He.ga K x)) (.ref (He.ga K x)) = some true) := by
  have c1 := (He.ba (show ((fa.all fun f => f.ok K) && fn.all fun d => d.ok K) = true from congrArg (fun z : He.AlD => z.1) c)).1
  have ok : ∀ f, f ∈ fa → f.ok K = true := fun f m => List.all_eq_true.mp c1 _ m
  refine ⟨fun x hx X' hK hm g hd p m j p2 pos => ?_, fun x hx => ?_⟩
  · have mx : x ∈ ex := by simpa using hx
    obtain ⟨e1, e2, e3, e4⟩ := He.exc_ok (ok _ (h2 x mx))
    subst hK
    subst hm
    exact pmk_own PySem.F.excBase_ValueError e1 (He.glo_ok X G (ok _ (h1 x mx))) e2 (raises_own e3 e4) g hd
  · have mx : x ∈ ex := by simpa using hx
    exact ⟨He.glo_ok X G (ok _ (h1 x mx)), He.exm_ok (ok _ (h3 x mx))⟩
/-- a def that lets nothing out -/
theorem to0 {P : Program} {w : World} {K : PySem.W.Frag} {mg : Str → Option Value} {base : Heap} {k : Nat} {f : Addr} {fd : FuncData} {ps : List Str} {sp : Sp} (F : FnOk P w K mg base (L2.CX P w) k f fd ps sp) :
    FnOk P w K mg base (fun _ _ _ _ _ _ => False) k f fd ps (fun vs H Q _ => sp vs H Q fun _ _ _ => False) := by
  refine ⟨fun vs H Q E h => F.len vs H Q _ h, fun A outer s H args us vs Q E hr e0 hb hv h => ?_⟩
  refine codeAny_mono (F.run A outer s H args us vs Q _ hr e0 hb hv h) fun r s' q => ?_
  cases r with
  | error e =>
    obtain ⟨_, _, _, _, _, _, _, _, _, _, _, _, z⟩ := q
    exact z.elim
  | ok fl => cases fl <;> exact q
/-- all names are free -/
theorem frees {K : PySem.W.Frag} {h : Heap} {mg : Str → Option Value} {fa : List He.Fa} {fn : List He.DefD} {bl : List Str} (X : K.In h) (G : h.Ns mainGlobals mg) (c : He.SaysD fa fn K) (hb : ∀ x ∈ bl, He.Fa.free x ∈ fa) : ∀ x, bl.contains x = true → mg x = none := fun x hx => by
  have m : x ∈ bl := by simpa using hx
  have c1 := (He.ba (show ((fa.all fun f => f.ok K) && fn.all fun d => d.ok K) = true from congrArg (fun z : He.AlD => z.1) c)).1
  exact He.free_ok X G (List.all_eq_true.mp c1 _ (hb x m))
def chkAll (gc bl ex : List Str) (fns : List (Str × Nat)) : List DX → List Df → Bool
  | [], [] => true
  | x :: xs, t :: ts => chkF gc bl ex fns x t && chkAll gc bl ex fns xs ts
  | _, _ => false
theorem chkAll_len {gc bl ex : List Str} {fns : List (Str × Nat)} : ∀ {fs : List DX} {T : List Df}, chkAll gc bl ex fns fs T = true → fs.length = T.length
  | [], [], _ => rfl
  | x :: xs, t :: ts, h => by
    simp only [chkAll, Bool.and_eq_true] at h
    simp [chkAll_len h.2]
theorem chkAll_get {gc bl ex : List Str} {fns : List (Str × Nat)} : ∀ {fs : List DX} {T : List Df}, chkAll gc bl ex fns fs T = true → ∀ (f : Nat) x t, fs[f]? = some x → T[f]? = some t → chkF gc bl ex fns x t = true
  | [], [], _, f, x, t, e, _ => by simp at e
  | x :: xs, t :: ts, h, f, x', t', e1, e2 => by
    simp only [chkAll, Bool.and_eq_true] at h
    cases f with
    | zero => cases e1; cases e2; exact h.1
    | succ f => exact chkAll_get h.2 f x' t' e1 e2
end Rx
/-! RxP0: how a run is told. -/
namespace Rx
open PySem L2
theorem whileN_mono {c : En → ER} {b : En → Out} : ∀ {n m : Nat} {E : En}, whileN c b n E ≠ .bad → n ≤ m → whileN c b m E = whileN c b n E
  | 0, m, E, h, _ => absurd rfl h
  | n + 1, 0, E, h, l => absurd l (by omega)
  | n + 1, m + 1, E, h, l => by
    have ih : ∀ E, whileN c b n E ≠ .bad → whileN c b m E = whileN c b n E := fun E h => whileN_mono h (by omega)
    unfold whileN at h ⊢
    cases q : c E with
    | bad => rfl
    | ex c E => rfl
    | ok o d E1 =>
      rw [q] at h
      cases d with
      | bl k =>
        cases k with
        | false => rfl
        | true =>
          dsimp only at h ⊢
          cases q2 : b E1 with
          | nx E2 => rw [q2] at h; exact ih E2 h
          | ct E2 => rw [q2] at h; exact ih E2 h
          | _ => rfl
      | _ => rfl
theorem whileE_of {c : En → ER} {b : En → Out} {n : Nat} {E : En} {r : Out} (h : whileN c b n E = r) (hr : r ≠ .bad) : whileE c b E = r := by
  unfold whileE
  have hx : ∃ n, whileN c b n E ≠ .bad := ⟨n, by rw [h]; exact hr⟩
  rw [dif_pos hx]
  have hc := Classical.choose_spec hx
  rcases Nat.le_total n (Classical.choose hx) with l | l
  · rw [whileN_mono (by rw [h]; exact hr) l, h]
  · rw [← h]
    exact (whileN_mono hc l).symm
theorem whileN_step {c : En → ER} {b : En → Out} {n : Nat} {E E1 E2 : En} {o : Bool} (hc : c E = .ok o (.bl true) E1) (hb : b E1 = .nx E2) : whileN c b (n + 1) E = whileN c b n E2 := by
  rw [whileN, hc]
  simp only [hb]
theorem whileN_stop {c : En → ER} {b : En → Out} {n : Nat} {E E1 : En} {o : Bool} (hc : c E = .ok o (.bl false) E1) : whileN c b (n + 1) E = .nx E1 := by
  rw [whileN, hc]
theorem whileN_rt {c : En → ER} {b : En → Out} {n : Nat} {E E1 E2 : En} {o o2 : Bool} {d : D} (hc : c E = .ok o (.bl true) E1) (hb : b E1 = .rt o2 d E2) : whileN c b (n + 1) E = .rt o2 d E2 := by
  rw [whileN, hc]
  simp only [hb]
section
variable {F : Nat → List Sl → CR} {G : List D} {T : List Df} {k f : Nat} {as : List Sl} {s : St} {r : Sts} {E E1 E2 : En} {o : Bool} {d : D}
theorem execs_nx (h : exec F G s E = .nx E1) : execs F G (.cons s r) E = execs F G r E1 := by rw [execs, h]; rfl
theorem execs_rt (h : exec F G s E = .rt o d E1) : execs F G (.cons s r) E = .rt o d E1 := by rw [execs, h]; rfl
theorem execs_end : execs F G .nil E = .nx E := by rw [execs]
theorem exec_while {c : Tm} {b : Sts} {n : Nat} {R : Out} (h : whileN (tst F G c) (execs F G b) n E = R) (hr : R ≠ .bad) : exec F G (.while_ c b) E = R := by rw [exec]; exact whileE_of h hr
theorem run_callK {dd : Df} (h : T[f]? = some dd) : callK T G (k + 1) f as = runDf (callK T G k) G dd as := by rw [callK, h]
theorem run_rt {n m : Nat} {b : Sts} (hT : T[f]? = some ⟨n, m, b⟩) (hl : as.length = n) (h : execs (callK T G k) G b (as.map some ++ List.replicate (m - n) none) = .rt o d E1) : callK T G (k + 1) f as = .ok o d (lastPs as E1) := by
  rw [run_callK hT, runDf, if_pos hl, h]
theorem forL_cons {tg : D → En → Out} {body : En → Out} {x : D} {xs : List D} (ht : tg x E = .nx E1) (hb : body E1 = .nx E2) : forL tg body (x :: xs) E = forL tg body xs E2 := by
  rw [forL, ht]
  simp only [hb]
theorem forL_nil {tg : D → En → Out} {body : En → Out} : forL tg body [] E = .nx E := by rw [forL]
end
section
variable {vs : List Nat} {tg : D → En → Out} {c e : En → ER}
/-- a comprehension whose parts leave the other slots as they are -/
theorem comp_pure {p : D → Bool} {g : D → D} : ∀ {xs acc : List D} {E : En}, (∀ x ∈ xs, ∃ E1 E2 o, tg x (wipeE E vs) = .nx E1 ∧ c E1 = .ok o (.bl (p x)) E2 ∧ wipeE E2 vs = wipeE E vs ∧ (p x = true → ∃ o2 E3, e E2 = .ok o2 (g x) E3 ∧ wipeE E3 vs = wipeE E vs)) →
    acc.length + xs.length ≤ SZ → compL vs tg c e xs acc E = .ok true (.lst (acc ++ (xs.filter p).map g)) (wipeE E vs)
  | [], acc, E, _, _ => by simp [compL]
  | x :: xs, acc, E, h, hz => by
    obtain ⟨E1, E2, o, h1, h2, h3, h4⟩ := h x (by simp)
    simp only [List.length_cons] at hz
    unfold compL
    rw [h1]
    dsimp only
    rw [h2]
    cases hp : p x with
    | false =>
      dsimp only
      rw [comp_pure (p := p) (g := g) (E := E2) (fun y m => by rw [h3]; exact h y (by simp [m])) (by omega), h3, List.filter_cons_of_neg (by simp [hp])]
    | true =>
      obtain ⟨o2, E3, h5, h6⟩ := h4 hp
      dsimp only
      rw [h5]
      dsimp only
      rw [if_pos (by omega), comp_pure (p := p) (g := g) (E := E3) (fun y m => by rw [h6]; exact h y (by simp [m])) (by simp; omega), h6, List.filter_cons_of_pos (by simp [hp])]
      simp
/-- a comprehension whose element changes what I keeps -/
theorem comp_ex {I : En → Prop} {P : D → Prop} : ∀ {xs acc : List D} {E : En}, (∀ x ∈ xs, ∀ E, I (wipeE E vs) → ∃ E1 E2 E3 o o2 d, tg x (wipeE E vs) = .nx E1 ∧ c E1 = .ok o (.bl true) E2 ∧ e E2 = .ok o2 d E3 ∧ P d ∧ I (wipeE E3 vs)) →
    I (wipeE E vs) → acc.length + xs.length ≤ SZ → ∃ ds E', compL vs tg c e xs acc E = .ok true (.lst (acc ++ ds)) E' ∧ I E' ∧ (∀ d ∈ ds, P d) ∧ ds.length = xs.length
  | [], acc, E, _, hi, _ => ⟨[], wipeE E vs, by simp [compL], hi, by simp, rfl⟩
  | x :: xs, acc, E, h, hi, hz => by
    obtain ⟨E1, E2, E3, o, o2, d, h1, h2, h3, hP, hI⟩ := h x (by simp) E hi
    simp only [List.length_cons] at hz
    obtain ⟨ds, E', q1, q2, q3, q4⟩ := comp_ex (xs := xs) (acc := acc ++ [d]) (E := E3) (fun y m => h y (by simp [m])) hI (by simp; omega)
    refine ⟨d :: ds, E', ?_, q2, fun y m => ?_, by simp [q4]⟩
    · unfold compL
      rw [h1]
      dsimp only
      rw [h2]
      dsimp only
      rw [h3]
      dsimp only
      rw [if_pos (by omega), q1]
      simp
    · rcases List.mem_cons.mp m with rfl | m
      · exact hP
      · exact q3 y m
end
end Rx
namespace Law
def b0_0 : Rx.Sts := (.cons (.par (.cons (.nm 0) (.cons (.nm 1) .nil)) (.cons (.var 1) (.cons (.p2 .mod (.var 0) (.var 1)) .nil))) .nil)
def b0 : Rx.Sts := (.cons (.par (.cons (.nm 0) (.cons (.nm 1) .nil)) (.cons (.p1 .abs (.var 0)) (.cons (.p1 .abs (.var 1)) .nil))) (.cons (.while_ (.var 1) b0_0) (.cons (.ret (.var 0)) .nil)))
def b1 : Rx.Sts := (.cons (.asg (.nm 2) (.call 0 (.cons (.var 0) (.cons (.var 1) .nil)))) (.cons (.asg (.nm 3) (.ifx (.cmp .gt (.var 1) (.cst (.int 0))) (.cst (.int 1)) (.p1 .neg (.cst (.int 1))))) (.cons (.ret (.tup (.cons (.p2 .fdiv (.p2 .mul (.var 3) (.var 0)) (.var 2)) (.cons (.p2 .fdiv (.p2 .mul (.var 3) (.var 1)) (.var 2)) .nil)))) .nil)))
def b2_0 : Rx.Sts := (.cons (.ite (.cmp .le (.var 1) (.var 2)) (.cons (.ret (.var 3)) .nil) .nil) .nil)
def b2 : Rx.Sts := (.cons (.for_ (.tup (.cons (.nm 2) (.cons (.nm 3) .nil))) (.seq (.var 0)) b2_0) (.cons (.ret (.p2 .item (.p2 .item (.var 0) (.p1 .neg (.cst (.int 1)))) (.cst (.int 1)))) .nil))
def b3_0 : Rx.Tm := (.call 2 (.cons (.var 0) (.cons (.var 2) .nil)))
def b3 : Rx.Sts := (.cons (.ret (.p1 .sum (.lc b3_0 (.nm 2) (.range2 (.cst (.int 1)) (.p2 .add (.var 1) (.cst (.int 1)))) none [2]))) .nil)
def b4 : Rx.Sts := (.cons (.ret (.ifx (.var 1) (.p2 .mul (.var 1) (.call 2 (.cons (.var 0) (.cons (.var 1) .nil)))) (.cst (.int 0)))) .nil)
def b5 : Rx.Sts := (.cons (.ret (.call 1 (.cons (.call 3 (.cons (.var 0) (.cons (.var 1) .nil))) (.cons (.var 1) .nil)))) .nil)
def b6_0 : Rx.Sts := (.cons (.asg (.nm 8) (.call 7 (.cons (.var 0) (.cons (.p2 .sub (.var 1) (.var 7)) (.cons (.p2 .sub (.var 2) (.cst (.int 1))) (.cons (.var 7) (.cons (.var 3) .nil))))))) (.cons (.ite (.and (.cmp .isnot (.var 8) (.cst .non)) (.one (.cmp .eq (.p2 .add (.call 3 (.cons (.var 0) (.cons (.var 7) .nil))) (.var 8)) (.var 4)))) (.cons (.par (.cons (.nm 5) (.cons (.nm 4) .nil)) (.cons (.p2 .add (.var 5) (.tup (.cons (.var 7) .nil))) (.cons (.var 8) .nil))) (.cons (.par (.cons (.nm 1) (.cons (.nm 2) (.cons (.nm 6) .nil))) (.cons (.p2 .sub (.var 1) (.var 7)) (.cons (.p2 .sub (.var 2) (.cst (.int 1))) (.cons (.var 7) .nil)))) (.cons .brk .nil))) .nil) .nil))
def b6_1 : Rx.Sts := (.cons (.for_ (.nm 7) (.range2 (.var 6) (.p2 .add (.var 1) (.cst (.int 1)))) b6_0) .nil)
def b6 : Rx.Sts := (.cons (.asg (.nm 3) (.dict0 true)) (.cons (.asg (.nm 4) (.call 7 (.cons (.var 0) (.cons (.var 1) (.cons (.var 2) (.cons (.cst (.int 1)) (.cons (.var 3) .nil))))))) (.cons (.ite (.cmp .is (.var 4) (.cst .non)) (.cons (.raise "Missing") .nil) .nil) (.cons (.par (.cons (.nm 5) (.cons (.nm 6) .nil)) (.cons (.tup .nil) (.cons (.cst (.int 1)) .nil))) (.cons (.while_ (.cmp .gt (.var 1) (.cst (.int 0))) b6_1) (.cons (.ret (.var 5)) .nil))))))
def b7_0 : Rx.Sts := (.cons (.asg (.nm 7) (.call 7 (.cons (.var 0) (.cons (.p2 .sub (.var 1) (.var 6)) (.cons (.p2 .sub (.var 2) (.cst (.int 1))) (.cons (.var 6) (.cons (.var 4) .nil))))))) (.cons (.ite (.cmp .isnot (.var 7) (.cst .non)) (.cons (.expr (.meth .append 5 (.cons (.p2 .add (.call 3 (.cons (.var 0) (.cons (.var 6) .nil))) (.var 7)) .nil))) .nil) .nil) .nil))
def b7 : Rx.Sts := (.cons (.ite (.cmp .eq (.var 1) (.cst (.int 0))) (.cons (.ret (.cst (.int 0))) .nil) .nil) (.cons (.ite (.or (.cmp .eq (.var 2) (.cst (.int 0))) (.one (.cmp .gt (.var 3) (.var 1)))) (.cons (.ret (.cst .non)) .nil) .nil) (.cons (.ite (.cmp .notin (.tup (.cons (.var 1) (.cons (.var 2) (.cons (.var 3) .nil)))) (.var 4)) (.cons (.asg (.nm 5) (.lst .nil)) (.cons (.for_ (.nm 6) (.range2 (.var 3) (.p2 .add (.var 1) (.cst (.int 1)))) b7_0) (.cons (.asg (.sub 4 (.tup (.cons (.var 1) (.cons (.var 2) (.cons (.var 3) .nil))))) (.ifx (.var 5) (.p1 .min1 (.var 5)) (.cst .non))) .nil))) .nil) (.cons (.ret (.p2 .item (.var 4) (.tup (.cons (.var 1) (.cons (.var 2) (.cons (.var 3) .nil)))))) .nil))))
def b8_0 : Rx.Tm := (.cmp .le (.call 3 (.cons (.var 0) (.cons (.var 2) .nil))) (.call 3 (.cons (.var 1) (.cons (.var 2) .nil))))
def b8 : Rx.Sts := (.cons (.ret (.p1 .all (.lc b8_0 (.nm 2) (.range1 (.p2 .add (.glob 0) (.cst (.int 1)))) none [2]))) .nil)
def b9_0 : Rx.Tm := (.var 2)
def b9 : Rx.Sts := (.cons (.ret (.p1 .tupleOf (.lc b9_0 (.nm 2) (.range2 (.cst (.int 1)) (.p2 .add (.glob 0) (.cst (.int 1)))) (some (.cmp .eq (.call 3 (.cons (.var 0) (.cons (.var 2) .nil))) (.call 3 (.cons (.var 1) (.cons (.var 2) .nil))))) [2]))) .nil)
def b10 : Rx.Sts := (.cons (.ret (.chain .le .le (.p2 .item (.var 0) (.cst (.int 0))) (.var 1) (.p2 .item (.var 0) (.cst (.int 1))))) .nil)
def b11_0 : Rx.Tm := (.var 2)
def b11 : Rx.Sts := (.cons (.ret (.p1 .tupleOf (.lc b11_0 (.tup (.cons (.nm 2) (.cons (.nm 3) .nil))) (.enum (.var 0)) (some (.call 10 (.cons (.var 3) (.cons (.var 1) .nil)))) [2, 3]))) .nil)
def b12_0 : Rx.Tm := (.p1 .len (.call 11 (.cons (.var 0) (.cons (.var 1) .nil))))
def b12 : Rx.Sts := (.cons (.ret (.p1 .max1 (.p2 .add (.lst (.cons (.cst (.int 0)) .nil)) (.lc b12_0 (.tup (.cons (.nm 1) (.cons (.nm 2) (.cons (.nm 2) .nil)))) (.seq (.var 0)) none [1, 2])))) .nil)
def b13 : Rx.Sts := (.cons (.ret (.and (.cmp .le (.p2 .item (.var 0) (.cst (.int 0))) (.p2 .item (.var 1) (.cst (.int 1)))) (.one (.cmp .le (.p2 .item (.var 1) (.cst (.int 0))) (.p2 .item (.var 0) (.cst (.int 1))))))) .nil)
def b14_0 : Rx.Tm := (.call 13 (.cons (.p2 .item (.var 0) (.var 4)) (.cons (.p2 .item (.var 0) (.var 2)) .nil)))
def b14_1 : Rx.Tm := (.p2 .add (.var 3) (.tup (.cons (.var 2) .nil)))
def b14_2 : Rx.Sts := (.cons (.asg (.nm 1) (.p2 .add (.var 1) (.lc b14_1 (.nm 3) (.seq (.var 1)) (some (.not (.p1 .any (.lc b14_0 (.nm 4) (.seq (.var 3)) none [4])))) [3]))) .nil)
def b14 : Rx.Sts := (.cons (.asg (.nm 1) (.lst (.cons (.tup .nil) .nil))) (.cons (.for_ (.nm 2) (.range1 (.p1 .len (.var 0))) b14_2) (.cons (.ret (.p1 .sorted (.var 1))) .nil)))
def b15_0 : Rx.Tm := (.p2 .item (.p2 .item (.var 0) (.var 3)) (.cst (.int 2)))
def b15_1 : Rx.Tm := (.p1 .sum (.lc b15_0 (.nm 3) (.seq (.var 4)) none [3]))
def b15 : Rx.Sts := (.cons (.asg (.nm 1) (.call 14 (.cons (.var 0) .nil))) (.cons (.asg (.nm 2) (.lc b15_1 (.nm 4) (.seq (.var 1)) none [4])) (.cons (.ret (.p2 .item (.var 1) (.idx 2 (.p1 .max1 (.var 2))))) .nil)))
def b16_0 : Rx.Sts := (.cons (.asg (.nm 6) (.and (.cmp .le (.var 5) (.var 2)) (.one (.not (.call 11 (.cons (.var 0) (.cons (.var 5) .nil))))))) (.cons (.ite (.and (.var 6) (.one (.cmp .is (.var 4) (.cst .non)))) (.cons (.asg (.nm 4) (.var 5)) .nil) .nil) (.cons (.ite (.and (.not (.var 6)) (.one (.cmp .isnot (.var 4) (.cst .non)))) (.cons (.ite (.or (.cmp .is (.var 3) (.cst .non)) (.one (.cmp .gt (.p2 .sub (.var 5) (.var 4)) (.p2 .add (.p2 .sub (.p2 .item (.var 3) (.cst (.int 1))) (.p2 .item (.var 3) (.cst (.int 0)))) (.cst (.int 1)))))) (.cons (.asg (.nm 3) (.tup (.cons (.var 4) (.cons (.p2 .sub (.var 5) (.cst (.int 1))) .nil)))) .nil) .nil) (.cons (.asg (.nm 4) (.cst .non)) .nil)) .nil) .nil)))
def b16 : Rx.Sts := (.cons (.par (.cons (.nm 3) (.cons (.nm 4) .nil)) (.cons (.cst .non) (.cons (.cst .non) .nil))) (.cons (.for_ (.nm 5) (.range2 (.var 1) (.p2 .add (.var 2) (.cst (.int 2)))) b16_0) (.cons (.ite (.cmp .is (.var 3) (.cst .non)) (.cons (.raise "Missing") .nil) .nil) (.cons (.ret (.var 3)) .nil))))
def b17_0 : Rx.Tm := (.p2 .item (.var 2) (.var 4))
def b17_1 : Rx.Tm := (.tup (.cons (.p2 .item (.var 5) (.cst (.int 0))) (.cons (.var 4) .nil)))
def b17_2 : Rx.Tm := (.var 8)
def b17_3 : Rx.Tm := (.var 8)
def b17_4 : Rx.Sts := (.cons (.asg (.nm 6) (.lcd b17_3 (.tup (.cons (.nm 7) (.cons (.nm 8) .nil))) 2 true (some (.call 13 (.cons (.p2 .item (.var 0) (.var 7)) (.cons (.p2 .item (.var 0) (.var 4)) .nil)))) [7, 8])) (.cons (.asg (.nm 9) (.lc b17_2 (.nm 8) (.range1 (.var 1)) (some (.cmp .notin (.var 8) (.var 6))) [8])) (.cons (.asg (.sub 2 (.var 4)) (.ifx (.var 9) (.p2 .item (.var 9) (.cst (.int 0))) (.cst .non))) .nil)))
def b17 : Rx.Sts := (.cons (.asg (.nm 2) (.dict0 false)) (.cons (.for_ (.tup (.cons (.nm 3) (.cons (.nm 4) .nil))) (.seq (.p1 .sorted (.lc b17_1 (.tup (.cons (.nm 4) (.cons (.nm 5) .nil))) (.enum (.var 0)) none [4, 5]))) b17_4) (.cons (.ret (.p1 .tupleOf (.lc b17_0 (.nm 4) (.range1 (.p1 .len (.var 0))) none [4]))) .nil)))
def b18_0 : Rx.Tm := (.p1 .abs (.p1 .int (.var 2)))
def b18_1 : Rx.Sts := (.cons (.asg (.nm 1) (.p2 .mod (.p1 .int (.p2 .add (.p2 .add (.p2 .mul (.var 1) (.cst (.int 48271))) (.p2 .mod (.p1 .abs (.p1 .int (.var 2))) (.cst (.int 65521)))) (.cst (.int 1)))) (.cst (.int 2147483647)))) .nil)
def b18 : Rx.Sts := (.cons (.asg (.nm 1) (.cst (.int 7))) (.cons (.for_ (.nm 2) (.seq (.var 0)) b18_1) (.cons (.ret (.lst (.cons (.lc b18_0 (.nm 2) (.seq (.var 0)) none [2]) (.cons (.p1 .neg (.cst (.int 1))) (.cons (.cst (.int 0)) (.cons (.var 1) .nil)))))) .nil)))
def b19 : Rx.Sts := (.cons (.ite (.cmp .eq (.p2 .item (.var 0) (.cst (.int 2))) (.cst (.int 0))) (.cons (.asg (.sub 0 (.cst (.int 1))) (.p2 .add (.p2 .item (.var 0) (.cst (.int 1))) (.cst (.int 1)))) (.cons (.ite (.cmp .lt (.p2 .item (.var 0) (.cst (.int 1))) (.p1 .len (.p2 .item (.var 0) (.cst (.int 0))))) (.cons (.asg (.sub 0 (.cst (.int 2))) (.p2 .item (.p2 .item (.var 0) (.cst (.int 0))) (.p2 .item (.var 0) (.cst (.int 1))))) .nil) .nil) (.cons (.ite (.cmp .eq (.p2 .item (.var 0) (.cst (.int 2))) (.cst (.int 0))) (.cons (.asg (.sub 0 (.cst (.int 3))) (.p2 .mod (.p1 .int (.p2 .add (.p2 .mul (.p2 .item (.var 0) (.cst (.int 3))) (.cst (.int 48271))) (.cst (.int 11)))) (.cst (.int 2147483647)))) (.cons (.asg (.sub 0 (.cst (.int 2))) (.p2 .item (.var 0) (.cst (.int 3)))) .nil)) .nil) .nil))) .nil) (.cons (.asg (.nm 2) (.p2 .mod (.p1 .int (.p2 .item (.var 0) (.cst (.int 2)))) (.var 1))) (.cons (.asg (.sub 0 (.cst (.int 2))) (.p2 .fdiv (.p2 .item (.var 0) (.cst (.int 2))) (.var 1))) (.cons (.ret (.var 2)) .nil))))
def b20_0 : Rx.Sts := (.cons (.par (.cons (.nm 2) (.cons (.nm 3) .nil)) (.cons (.var 3) (.cons (.p2 .sub (.var 2) (.p2 .mul (.var 3) (.p2 .fdiv (.var 2) (.var 3)))) .nil))) .nil)
def b20 : Rx.Sts := (.cons (.par (.cons (.nm 2) (.cons (.nm 3) .nil)) (.cons (.p1 .abs (.var 0)) (.cons (.p1 .abs (.var 1)) .nil))) (.cons (.while_ (.cmp .ne (.var 3) (.cst (.int 0))) b20_0) (.cons (.ret (.ifx (.cmp .gt (.var 1) (.cst (.int 0))) (.tup (.cons (.p2 .fdiv (.var 0) (.var 2)) (.cons (.p2 .fdiv (.var 1) (.var 2)) .nil))) (.tup (.cons (.p2 .fdiv (.p1 .neg (.var 0)) (.var 2)) (.cons (.p2 .fdiv (.p1 .neg (.var 1)) (.var 2)) .nil))))) .nil)))
def b21_0 : Rx.Sts := (.cons (.asg (.nm 1) (.p2 .add (.p2 .add (.var 1) (.cst (.int 1))) (.call 19 (.cons (.var 0) (.cons (.cst (.int 4)) .nil))))) (.cons (.expr (.meth .append 2 (.cons (.tup (.cons (.var 1) (.cons (.call 19 (.cons (.var 0) (.cons (.cst (.int 6)) .nil))) .nil))) .nil))) .nil))
def b21 : Rx.Sts := (.cons (.par (.cons (.nm 1) (.cons (.nm 2) .nil)) (.cons (.cst (.int 0)) (.cons (.lst .nil) .nil))) (.cons (.for_ (.nm 3) (.range1 (.p2 .add (.cst (.int 1)) (.call 19 (.cons (.var 0) (.cons (.cst (.int 3)) .nil))))) b21_0) (.cons (.ret (.p1 .tupleOf (.var 2))) .nil)))
def b22_0 : Rx.Tm := (.var 4)
def b22 : Rx.Sts := (.cons (.asg (.nm 2) (.lc b22_0 (.tup (.cons (.nm 3) (.cons (.nm 4) .nil))) (.seq (.var 0)) (some (.cmp .le (.var 1) (.var 3))) [3, 4])) (.cons (.ret (.ifx (.cmp .ne (.var 2) (.lst .nil)) (.p2 .item (.var 2) (.cst (.int 0))) (.p2 .item (.p2 .item (.var 0) (.p1 .neg (.cst (.int 1)))) (.cst (.int 1))))) .nil))
def b23_0 : Rx.Tm := (.call 22 (.cons (.var 0) (.cons (.var 2) .nil)))
def b23 : Rx.Sts := (.cons (.ret (.p1 .sum (.lc b23_0 (.nm 2) (.range2 (.cst (.int 1)) (.p2 .add (.var 1) (.cst (.int 1)))) none [2]))) .nil)
def b24_0 : Rx.Tm := (.p2 .add (.tup (.cons (.var 4) .nil)) (.var 5))
def b24_1 : Rx.Sts := (.cons (.asg (.nm 3) (.p2 .add (.var 3) (.lc b24_0 (.nm 5) (.seq (.call 24 (.cons (.p2 .sub (.var 0) (.var 4)) (.cons (.p2 .sub (.var 1) (.cst (.int 1))) (.cons (.var 4) .nil))))) none [5]))) .nil)
def b24 : Rx.Sts := (.cons (.ite (.cmp .eq (.var 0) (.cst (.int 0))) (.cons (.ret (.lst (.cons (.tup .nil) .nil))) .nil) .nil) (.cons (.asg (.nm 3) (.lst .nil)) (.cons (.for_ (.nm 4) (.seq (.ifx (.cmp .gt (.var 1) (.cst (.int 0))) (.rng (.var 2) (.p2 .add (.var 0) (.cst (.int 1)))) (.lst .nil))) b24_1) (.cons (.ret (.var 3)) .nil))))
def b25 : Rx.Sts := (.cons (.try_ (.cons (.ret (.ifx (.cmp .eq (.var 0) (.cst (.int 0))) (.call 6 (.cons (.var 1) (.cons (.var 2) (.cons (.var 3) .nil)))) (.call 16 (.cons (.var 1) (.cons (.var 2) (.cons (.var 3) .nil)))))) .nil) "Missing" .non) .nil)
def b26_0 : Rx.Tm := (.p2 .item (.var 30) (.var 14))
def b26_1 : Rx.Tm := (.var 34)
def b26_2 : Rx.Tm := (.p2 .item (.var 30) (.var 32))
def b26_3 : Rx.Sts := (.cons (.ite (.cmp .eq (.p2 .item (.p2 .item (.var 13) (.var 14)) (.cst (.int 0))) (.var 8)) (.cons (.asg (.nm 31) (.lcd b26_2 (.nm 32) 30 false (some (.cmp .ge (.p2 .item (.p2 .item (.var 13) (.var 32)) (.cst (.int 1))) (.var 8))) [32])) (.cons (.asg (.nm 33) (.lc b26_1 (.nm 34) (.range1 (.var 29)) (some (.cmp .notin (.var 34) (.var 31))) [34])) (.cons (.asg (.sub 30 (.var 14)) (.ifx (.cmp .ne (.var 33) (.lst .nil)) (.p2 .item (.var 33) (.cst (.int 0))) (.cst .non))) .nil))) .nil) .nil)
def b26_4 : Rx.Sts := (.cons (.for_ (.nm 14) (.range1 (.p1 .len (.var 13))) b26_3) .nil)
def b26_5 : Rx.Tm := (.p2 .sub (.p2 .item (.var 17) (.cst (.int 1))) (.p2 .item (.var 17) (.cst (.int 0))))
def b26_6 : Rx.Tm := (.var 28)
def b26_7 : Rx.Tm := (.var 8)
def b26_8 : Rx.Tm := (.tup (.cons (.var 25) (.cons (.var 26) .nil)))
def b26_9 : Rx.Sts := (.cons (.asg (.nm 24) (.p2 .add (.var 24) (.lc b26_8 (.nm 26) (.range2 (.var 25) (.p2 .add (.var 23) (.cst (.int 1)))) (some (.cmp .eq (.lc b26_7 (.nm 8) (.range2 (.var 25) (.p2 .add (.var 26) (.cst (.int 1)))) (some (.cmp .ne (.p2 .item (.var 16) (.var 8)) (.lst .nil))) [8]) (.lst .nil))) [26]))) .nil)
def b26_10 : Rx.Tm := (.p2 .item (.p2 .item (.var 13) (.var 14)) (.cst (.int 2)))
def b26_11 : Rx.Tm := (.p1 .sum (.lc b26_10 (.nm 14) (.seq (.var 19)) none [14]))
def b26_12 : Rx.Tm := (.var 14)
def b26_13 : Rx.Tm := (.var 17)
def b26_14 : Rx.Tm := (.var 19)
def b26_15 : Rx.Tm := (.p2 .add (.var 19) (.tup (.cons (.var 14) .nil)))
def b26_16 : Rx.Sts := (.cons (.asg (.nm 18) (.p2 .add (.var 18) (.lc b26_15 (.nm 19) (.seq (.var 18)) none [19]))) .nil)
def b26_17 : Rx.Tm := (.p1 .len (.var 17))
def b26_18 : Rx.Tm := (.var 14)
def b26_19 : Rx.Tm := (.lc b26_18 (.nm 14) (.range1 (.p1 .len (.var 13))) (some (.chain .le .le (.p2 .item (.p2 .item (.var 13) (.var 14)) (.cst (.int 0))) (.var 15) (.p2 .item (.p2 .item (.var 13) (.var 14)) (.cst (.int 1))))) [14])
def b26_20 : Rx.Sts := (.cons (.asg (.nm 15) (.call 19 (.cons (.var 1) (.cons (.cst (.int 14)) .nil)))) (.cons (.expr (.meth .append 13 (.cons (.tup (.cons (.var 15) (.cons (.p2 .add (.var 15) (.call 19 (.cons (.var 1) (.cons (.cst (.int 5)) .nil)))) (.cons (.call 19 (.cons (.var 1) (.cons (.cst (.int 9)) .nil))) .nil)))) .nil))) .nil))
def b26_21 : Rx.Tm := (.p2 .item (.var 6) (.var 11))
def b26_22 : Rx.Tm := (.p1 .sum (.lc b26_21 (.nm 11) (.seq (.var 12)) none [11]))
def b26_23 : Rx.Tm := (.var 8)
def b26_24 : Rx.Tm := (.var 8)
def b26_25 : Rx.Tm := (.call 23 (.cons (.var 3) (.cons (.var 8) .nil)))
def b26_26 : Rx.Tm := (.call 23 (.cons (.var 2) (.cons (.var 8) .nil)))
def b26 : Rx.Sts := (.cons (.asg (.nm 1) (.call 18 (.cons (.var 0) .nil))) (.cons (.par (.cons (.nm 2) (.cons (.nm 3) .nil)) (.cons (.call 21 (.cons (.var 1) .nil)) (.cons (.call 21 (.cons (.var 1) .nil)) .nil))) (.cons (.par (.cons (.nm 4) (.cons (.nm 5) .nil)) (.cons (.call 19 (.cons (.var 1) (.cons (.cst (.int 12)) .nil))) (.cons (.call 19 (.cons (.var 1) (.cons (.cst (.int 4)) .nil))) .nil))) (.cons (.ite (.or (.cmp .ne (.call 3 (.cons (.var 2) (.cons (.var 4) .nil))) (.call 23 (.cons (.var 2) (.cons (.var 4) .nil)))) (.or (.cmp .ne (.call 4 (.cons (.var 2) (.cons (.var 4) .nil))) (.ifx (.cmp .gt (.var 4) (.cst (.int 0))) (.p2 .mul (.var 4) (.call 22 (.cons (.var 2) (.cons (.var 4) .nil)))) (.cst (.int 0)))) (.one (.not (.isinst (.call 3 (.cons (.var 2) (.cons (.var 4) .nil))) "int"))))) (.cons (.ret (.cst (.bl false))) .nil) .nil) (.cons (.ite (.and (.cmp .gt (.var 4) (.cst (.int 0))) (.one (.cmp .ne (.call 5 (.cons (.var 2) (.cons (.var 4) .nil))) (.call 20 (.cons (.call 23 (.cons (.var 2) (.cons (.var 4) .nil))) (.cons (.var 4) .nil)))))) (.cons (.ret (.cst (.bl false))) .nil) .nil) (.cons (.par (.cons (.nm 6) (.cons (.nm 7) .nil)) (.cons (.lc b26_26 (.nm 8) (.range1 (.cst (.int 201))) none [8]) (.cons (.lc b26_25 (.nm 8) (.range1 (.cst (.int 201))) none [8]) .nil))) (.cons (.ite (.or (.cmp .ne (.call 8 (.cons (.var 2) (.cons (.var 3) .nil))) (.cmp .eq (.lc b26_24 (.nm 8) (.range1 (.cst (.int 201))) (some (.cmp .gt (.p2 .item (.var 6) (.var 8)) (.p2 .item (.var 7) (.var 8)))) [8]) (.lst .nil))) (.one (.cmp .ne (.call 9 (.cons (.var 2) (.cons (.var 3) .nil))) (.p1 .tupleOf (.lc b26_23 (.nm 8) (.range2 (.cst (.int 1)) (.cst (.int 201))) (some (.cmp .eq (.p2 .item (.var 6) (.var 8)) (.p2 .item (.var 7) (.var 8)))) [8]))))) (.cons (.ret (.cst (.bl false))) .nil) .nil) (.cons (.asg (.nm 9) (.call 24 (.cons (.var 4) (.cons (.var 5) (.cons (.cst (.int 1)) .nil))))) (.cons (.asg (.nm 10) (.lc b26_22 (.nm 12) (.seq (.var 9)) none [12])) (.cons (.ite (.cmp .ne (.call 25 (.cons (.cst (.int 0)) (.cons (.var 2) (.cons (.var 4) (.cons (.var 5) .nil))))) (.ifx (.cmp .ne (.var 9) (.lst .nil)) (.p2 .item (.var 9) (.idx 10 (.p1 .min1 (.var 10)))) (.cst .non))) (.cons (.ret (.cst (.bl false))) .nil) .nil) (.cons (.asg (.nm 13) (.lst .nil)) (.cons (.for_ (.nm 14) (.range1 (.call 19 (.cons (.var 1) (.cons (.cst (.int 7)) .nil)))) b26_20) (.cons (.asg (.nm 13) (.p1 .tupleOf (.var 13))) (.cons (.asg (.nm 16) (.lc b26_19 (.nm 15) (.range1 (.cst (.int 30))) none [15])) (.cons (.asg (.nm 15) (.call 19 (.cons (.var 1) (.cons (.cst (.int 30)) .nil)))) (.cons (.ite (.or (.cmp .ne (.call 11 (.cons (.var 13) (.cons (.var 15) .nil))) (.p1 .tupleOf (.p2 .item (.var 16) (.var 15)))) (.or (.cmp .ne (.call 12 (.cons (.var 13) .nil)) (.p1 .max1 (.lc b26_17 (.nm 17) (.seq (.var 16)) none [17]))) (.one (.not (.isinst (.call 11 (.cons (.var 13) (.cons (.var 15) .nil))) "tuple"))))) (.cons (.ret (.cst (.bl false))) .nil) .nil) (.cons (.asg (.nm 18) (.lst (.cons (.tup .nil) .nil))) (.cons (.for_ (.nm 14) (.range1 (.p1 .len (.var 13))) b26_16) (.cons (.asg (.nm 20) (.p1 .sorted (.lc b26_14 (.nm 19) (.seq (.var 18)) (some (.cmp .eq (.lc b26_13 (.nm 17) (.seq (.var 16)) (some (.cmp .gt (.p1 .len (.lc b26_12 (.nm 14) (.seq (.var 17)) (some (.cmp .isin (.var 14) (.var 19))) [14])) (.cst (.int 1)))) [17]) (.lst .nil))) [19]))) (.cons (.asg (.nm 21) (.lc b26_11 (.nm 19) (.seq (.var 20)) none [19])) (.cons (.ite (.cmp .ne (.call 15 (.cons (.var 13) .nil)) (.p2 .item (.var 20) (.idx 21 (.p1 .max1 (.var 21))))) (.cons (.ret (.cst (.bl false))) .nil) .nil) (.cons (.asg (.nm 22) (.call 19 (.cons (.var 1) (.cons (.cst (.int 12)) .nil)))) (.cons (.asg (.nm 23) (.p2 .add (.var 22) (.call 19 (.cons (.var 1) (.cons (.cst (.int 14)) .nil))))) (.cons (.asg (.nm 24) (.lst .nil)) (.cons (.for_ (.nm 25) (.range2 (.var 22) (.p2 .add (.var 23) (.cst (.int 1)))) b26_9) (.cons (.asg (.nm 27) (.lc b26_6 (.nm 28) (.seq (.var 24)) (some (.cmp .eq (.p2 .sub (.p2 .item (.var 28) (.cst (.int 1))) (.p2 .item (.var 28) (.cst (.int 0)))) (.p1 .max1 (.lc b26_5 (.nm 17) (.seq (.var 24)) none [17])))) [28])) (.cons (.ite (.cmp .ne (.call 25 (.cons (.cst (.int 1)) (.cons (.var 13) (.cons (.var 22) (.cons (.var 23) .nil))))) (.ifx (.cmp .ne (.var 27) (.lst .nil)) (.p2 .item (.var 27) (.cst (.int 0))) (.cst .non))) (.cons (.ret (.cst (.bl false))) .nil) .nil) (.cons (.par (.cons (.nm 29) (.cons (.nm 30) .nil)) (.cons (.call 19 (.cons (.var 1) (.cons (.cst (.int 4)) .nil))) (.cons (.dict0 false) .nil))) (.cons (.for_ (.nm 8) (.range1 (.cst (.int 30))) b26_4) (.cons (.ret (.and (.cmp .eq (.call 17 (.cons (.var 13) (.cons (.var 29) .nil))) (.p1 .tupleOf (.lc b26_0 (.nm 14) (.range1 (.p1 .len (.var 13))) none [14]))) (.one (.isinst (.call 17 (.cons (.var 13) (.cons (.var 29) .nil))) "tuple")))) .nil))))))))))))))))))))))))))))))
def T : List Rx.Df := [⟨2, 2, b0⟩, ⟨2, 4, b1⟩, ⟨2, 4, b2⟩, ⟨2, 3, b3⟩, ⟨2, 2, b4⟩, ⟨2, 2, b5⟩, ⟨3, 9, b6⟩, ⟨5, 8, b7⟩, ⟨2, 3, b8⟩, ⟨2, 3, b9⟩, ⟨2, 2, b10⟩, ⟨2, 4, b11⟩, ⟨1, 3, b12⟩, ⟨2, 2, b13⟩, ⟨1, 5, b14⟩, ⟨1, 5, b15⟩, ⟨3, 7, b16⟩, ⟨2, 10, b17⟩, ⟨1, 3, b18⟩, ⟨2, 3, b19⟩, ⟨2, 4, b20⟩, ⟨1, 4, b21⟩, ⟨2, 5, b22⟩, ⟨2, 3, b23⟩, ⟨3, 6, b24⟩, ⟨4, 4, b25⟩, ⟨1, 35, b26⟩]
def G : List Rx.D := [.int (200)]
end Law
namespace Rx
/-! ### dictionaries: what stands behind a store -/
section
variable {κ : Type} [DecidableEq κ]
theorem drepl_len2 : ∀ {ks : List κ} {vs : List D} {x : κ} {y : D}, ks.length = vs.length → (drepl ks vs x y).length = ks.length
  | [], [], _, _, _ => rfl
  | k :: ks, v :: vs, x, y, h => by simp [drepl, drepl_len2 (ks := ks) (vs := vs) (by simpa using h)]
  | [], _ :: _, _, _, h => by simp at h
  | _ :: _, [], _, _, h => by simp at h
theorem dput_len {ks : List κ} {vs : List D} {x : κ} {y : D} (h : ks.length = vs.length) : (dputK ks x).length = (dputV ks vs x y).length := by
  unfold dputK dputV
  split
  · rw [drepl_len2 h]
  · simp [h]
theorem dput_le {ks : List κ} {x : κ} : (dputK ks x).length ≤ ks.length + 1 := by
  unfold dputK
  split <;> simp
theorem dget_repl : ∀ {ks : List κ} {vs : List D} {x z : κ} {y : D}, ks.length = vs.length → x ∈ ks → dget ks (drepl ks vs x y) z = if x = z then some y else dget ks vs z
  | [], _, _, _, _, _, m => by simp at m
  | _ :: _, [], _, _, _, h, _ => by simp at h
  | k :: ks, v :: vs, x, z, y, h, m => by
    unfold drepl dget
    by_cases hk : k = z
    · rw [if_pos hk]
      by_cases hx : k = x
      · rw [if_pos hx, if_pos (hx.symm.trans hk)]
      · rw [if_neg hx, if_neg (fun e => hx (hk.trans e.symm)), if_pos hk]
    · rw [if_neg hk, if_neg hk]
      by_cases hx : k = x
      · have hz : x ≠ z := fun e => hk (hx.trans e)
        rw [if_neg hz]
        by_cases m2 : x ∈ ks
        · rw [dget_repl (by simpa using h) m2, if_neg hz]
        · have : ∀ {ks : List κ} {vs : List D}, ks.length = vs.length → x ∉ ks → drepl ks vs x y = vs := by
            intro ks
            induction ks with
            | nil => intro vs h _; cases vs with
              | nil => rfl
              | cons _ _ => simp at h
            | cons a ks ih => intro vs h hm; cases vs with
              | nil => simp at h
              | cons b vs =>
                simp only [List.mem_cons, not_or] at hm
                unfold drepl
                rw [if_neg (fun e => hm.1 e.symm), ih (by simpa using h) hm.2]
          rw [this (by simpa using h) m2]
      · have m2 : x ∈ ks := by
          rcases List.mem_cons.mp m with e | e
          · exact absurd e.symm hx
          · exact e
        exact dget_repl (by simpa using h) m2
theorem dget_app : ∀ {ks : List κ} {vs : List D} {x z : κ} {y : D}, ks.length = vs.length → x ∉ ks → dget (ks ++ [x]) (vs ++ [y]) z = if x = z then some y else dget ks vs z
  | [], [], x, z, y, _, _ => by
    simp only [List.nil_append, dget]
  | [], _ :: _, _, _, _, h, _ => by simp at h
  | _ :: _, [], _, _, _, h, _ => by simp at h
  | k :: ks, v :: vs, x, z, y, h, m => by
    simp only [List.mem_cons, not_or] at m
    simp only [List.cons_append, dget]
    by_cases hk : k = z
    · rw [if_pos hk, if_neg (fun e => m.1 (e.trans hk.symm)), if_pos hk]
    · rw [if_neg hk, if_neg hk]
      exact dget_app (by simpa using h) m.2
theorem dget_put {ks : List κ} {vs : List D} {x z : κ} {y : D} (h : ks.length = vs.length) : dget (dputK ks x) (dputV ks vs x y) z = if x = z then some y else dget ks vs z := by
  unfold dputK dputV
  by_cases m : x ∈ ks
  · rw [if_pos m, if_pos m]; exact dget_repl h m
  · rw [if_neg m, if_neg m]; exact dget_app h m
end
section
variable {α : Type} {vs : List Nat} {tg : D → En → Out} {c e : En → ER}
/-- a comprehension over items of a kind, whose parts leave the other slots as they are -/
theorem comp_of {f : α → D} {p : α → Bool} {g : α → D} : ∀ {xs : List α} {acc : List D} {E : En}, (∀ x ∈ xs, ∃ E1 E2 o, tg (f x) (wipeE E vs) = .nx E1 ∧ c E1 = .ok o (.bl (p x)) E2 ∧ wipeE E2 vs = wipeE E vs ∧ (p x = true → ∃ o2 E3, e E2 = .ok o2 (g x) E3 ∧ wipeE E3 vs = wipeE E vs)) →
    acc.length + xs.length ≤ SZ → compL vs tg c e (xs.map f) acc E = .ok true (.lst (acc ++ (xs.filter p).map g)) (wipeE E vs)
  | [], acc, E, _, _ => by simp [compL]
  | x :: xs, acc, E, h, hz => by
    obtain ⟨E1, E2, o, h1, h2, h3, h4⟩ := h x (by simp)
    simp only [List.length_cons] at hz
    rw [List.map_cons]
    unfold compL
    rw [h1]
    dsimp only
    rw [h2]
    cases hp : p x with
    | false =>
      dsimp only
      rw [comp_of (p := p) (g := g) (E := E2) (fun y m => by rw [h3]; exact h y (by simp [m])) (by omega), h3, List.filter_cons_of_neg (by simp [hp])]
    | true =>
      obtain ⟨o2, E3, h5, h6⟩ := h4 hp
      dsimp only
      rw [h5]
      dsimp only
      rw [if_pos (by omega), comp_of (p := p) (g := g) (E := E3) (fun y m => by rw [h6]; exact h y (by simp [m])) (by simp; omega), h6, List.filter_cons_of_pos (by simp [hp])]
      simp
/-- the same, all kept -/
theorem comp_all {f : α → D} {g : α → D} {xs : List α} {E : En} (h : ∀ x ∈ xs, ∃ E1 o2 E3, tg (f x) (wipeE E vs) = .nx E1 ∧ e E1 = .ok o2 (g x) E3 ∧ wipeE E1 vs = wipeE E vs ∧ wipeE E3 vs = wipeE E vs) (hz : xs.length ≤ SZ) : compL vs tg (fun E => .ok false (.bl true) E) e (xs.map f) [] E = .ok true (.lst (xs.map g)) (wipeE E vs) := by
  have := comp_of (vs := vs) (tg := tg) (c := fun E => .ok false (.bl true) E) (e := e) (f := f) (p := fun _ => true) (g := g) (xs := xs) (acc := []) (E := E) (fun x m => by
    obtain ⟨E1, o2, E3, h1, h2, h3, h4⟩ := h x m
    exact ⟨E1, E1, false, h1, rfl, h3, fun _ => ⟨o2, E3, h2, h4⟩⟩) (by simpa using hz)
  rw [this, List.filter_eq_self.mpr (by simp), List.nil_append]
end
theorem enumD_cons {x : D} {xs : List D} {i : Nat} : ((x :: xs).zipIdx i).map (fun p => D.tup [.int (p.2 : Nat), p.1]) = .tup [.int (i : Nat), x] :: (xs.zipIdx (i + 1)).map (fun p => D.tup [.int (p.2 : Nat), p.1]) := rfl
section
variable {F : Nat → List Sl → CR} {G : List D} {T : List Df} {k f : Nat} {as : List Sl} {E E1 : En} {c : PySem.Str}
theorem run_ex {n m : Nat} {b : Sts} (hT : T[f]? = some ⟨n, m, b⟩) (hl : as.length = n) (h : execs (callK T G k) G b (as.map some ++ List.replicate (m - n) none) = .ex c E1) : callK T G (k + 1) f as = .ex c (lastPs as E1) := by
  rw [run_callK hT, runDf, if_pos hl, h]
theorem exec_ite {t : Tm} {a b : Sts} {o v : Bool} (h : tst F G t E = .ok o (.bl v) E1) : exec F G (.ite t a b) E = if v then execs F G a E1 else execs F G b E1 := by
  rw [exec, h]
  cases v <;> rfl
end
end Rx
namespace Law
open Rx
theorem common_loop (F) : ∀ (b a : Nat), ∃ n, whileN (tst F G (.var 1)) (execs F G b0_0) n [some (.val (.int (a : Int))), some (.val (.int (b : Int)))] = .nx [some (.val (.int (Nat.gcd a b : Nat))), some (.val (.int 0))] := by
  intro b
  induction b using Nat.strongRecOn with
  | ind b ih =>
    intro a
    by_cases hb : b = 0
    · subst hb
      exact ⟨1, by rw [whileN_stop (o := false) (E1 := [some (.val (.int (a : Int))), some (.val (.int 0))])]; simp; simp [execs, exec, evos, evs, args, argV, argD, AR.bind, AR.call, back, ev, tst, opB, truthOf, gt, take, asVar, fin1, fin2, fetch, pr1, pr2, cmpD, bl?, truth, Sl.d, tgt, tgts, tgtOs, tgtO, storeS, locked, Out.only, Out.then, ER.out, ER.bind, ER.test, constOf, isTy, walk, opI, opN, isMut, isLst, lockS, unlockS, unlockAll, rows, IR.for_, IR.comp, IR.calm, calmE, lastPs, lastH, putS, atD, finM]⟩
    · obtain ⟨n, hn⟩ := ih (a % b) (Nat.mod_lt _ (by omega)) b
      refine ⟨n + 1, ?_⟩
      have h0 : 0 < b := by omega
      rw [whileN_step (o := false) (E1 := [some (.val (.int (a : Int))), some (.val (.int (b : Int)))]) (E2 := [some (.val (.int (b : Int))), some (.val (.int ((a % b : Nat) : Int)))]), hn, Nat.gcd_comm a b, Nat.gcd_rec b a, Nat.gcd_comm]
      · simp [execs, exec, evos, evs, args, argV, argD, AR.bind, AR.call, back, ev, tst, opB, truthOf, gt, take, asVar, fin1, fin2, fetch, pr1, pr2, cmpD, bl?, truth, Sl.d, tgt, tgts, tgtOs, tgtO, storeS, locked, Out.only, Out.then, ER.out, ER.bind, ER.test, constOf, isTy, walk, opI, opN, isMut, isLst, lockS, unlockS, unlockAll, rows, IR.for_, IR.comp, IR.calm, calmE, lastPs, lastH, putS, atD, finM, hb]
      · simp [b0_0, execs, exec, evos, evs, args, argV, argD, AR.bind, AR.call, back, ev, tst, opB, truthOf, gt, take, asVar, fin1, fin2, fetch, pr1, pr2, cmpD, bl?, truth, Sl.d, tgt, tgts, tgtOs, tgtO, storeS, locked, Out.only, Out.then, ER.out, ER.bind, ER.test, constOf, isTy, walk, opI, opN, isMut, isLst, lockS, unlockS, unlockAll, rows, IR.for_, IR.comp, IR.calm, calmE, lastPs, lastH, putS, atD, finM, h0]
theorem c_common {k : Nat} {a b : Int} : callK T G (k + 1) 0 [.val (.int a), .val (.int b)] = .ok false (.int (Int.gcd a b)) [none, none] := by
  obtain ⟨n, hn⟩ := common_loop (callK T G k) b.natAbs a.natAbs
  have ea : (if a < 0 then -a else a) = (a.natAbs : Int) := by split <;> omega
  have eb : (if b < 0 then -b else b) = (b.natAbs : Int) := by split <;> omega
  refine (run_rt (n := 2) (m := 2) (b := b0) rfl rfl (o := false) (d := .int (Int.gcd a b)) (E1 := [some (.val (.int (Int.gcd a b))), some (.val (.int 0))]) ?_).trans rfl
  show execs _ G b0 [some (.val (.int a)), some (.val (.int b))] = _
  rw [b0, execs_nx (E1 := [some (.val (.int (a.natAbs : Int))), some (.val (.int (b.natAbs : Int)))]), execs_nx (exec_while hn (by simp)), execs_rt (o := false)]
  · simp [execs, exec, evos, evs, args, argV, argD, AR.bind, AR.call, back, ev, tst, opB, truthOf, gt, take, asVar, fin1, fin2, fetch, pr1, pr2, cmpD, bl?, truth, Sl.d, tgt, tgts, tgtOs, tgtO, storeS, locked, Out.only, Out.then, ER.out, ER.bind, ER.test, constOf, isTy, walk, opI, opN, isMut, isLst, lockS, unlockS, unlockAll, rows, IR.for_, IR.comp, IR.calm, calmE, lastPs, lastH, putS, atD, finM]; rfl
  · simp [execs, exec, evos, evs, args, argV, argD, AR.bind, AR.call, back, ev, tst, opB, truthOf, gt, take, asVar, fin1, fin2, fetch, pr1, pr2, cmpD, bl?, truth, Sl.d, tgt, tgts, tgtOs, tgtO, storeS, locked, Out.only, Out.then, ER.out, ER.bind, ER.test, constOf, isTy, walk, opI, opN, isMut, isLst, lockS, unlockS, unlockAll, rows, IR.for_, IR.comp, IR.calm, calmE, lastPs, lastH, putS, atD, finM, ea, eb]
theorem Wd.le {m n : Nat} (h : Wd (n : Int)) (l : m ≤ n) : Wd (m : Int) := Nat.lt_of_le_of_lt (by simpa using l) h
/-- a quotient in lowest terms -/
def lw (a b : Int) : D := .tup [.int ((if 0 < b then 1 else -1) * a / (Int.gcd a b : Nat)), .int ((if 0 < b then 1 else -1) * b / (Int.gcd a b : Nat))]
theorem gcd_ok {a b : Int} (hb : b ≠ 0) (hw : Wd b) : (0 : Int) < (Int.gcd a b : Nat) ∧ Wd (Int.gcd a b : Nat) := by
  have h1 : 0 < Int.gcd a b := Int.gcd_pos_iff.mpr (.inr hb)
  refine ⟨by omega, ?_⟩
  have h2 : Int.gcd a b ≤ b.natAbs := Nat.le_of_dvd (by omega) (Int.gcd_dvd_natAbs_right a b)
  unfold Wd at *
  omega
theorem c_lowest {k : Nat} {a b : Int} (hb : b ≠ 0) (hw : Wd b) : callK T G (k + 2) 1 [.val (.int a), .val (.int b)] = .ok false (lw a b) [none, none] := by
  obtain ⟨g1, g2⟩ := gcd_ok (a := a) hb hw
  refine (run_rt (n := 2) (m := 4) (b := b1) rfl rfl (o := false) (d := lw a b) (E1 := [some (.val (.int a)), some (.val (.int b)), some (.val (.int (Int.gcd a b : Nat))), some (.val (.int (if 0 < b then 1 else -1)))]) ?_).trans rfl
  show execs _ G b1 [some (.val (.int a)), some (.val (.int b)), none, none] = _
  rw [b1, execs_nx (E1 := [some (.val (.int a)), some (.val (.int b)), some (.val (.int (Int.gcd a b : Nat))), none]), execs_nx (E1 := [some (.val (.int a)), some (.val (.int b)), some (.val (.int (Int.gcd a b : Nat))), some (.val (.int (if 0 < b then 1 else -1)))]), execs_rt (o := false)]
  · by_cases hp : 0 < b <;> simp [execs, exec, evos, evs, args, argV, argD, AR.bind, AR.call, back, ev, tst, opB, truthOf, gt, take, asVar, fin1, fin2, fetch, pr1, pr2, cmpD, bl?, truth, Sl.d, tgt, tgts, tgtOs, tgtO, storeS, locked, Out.only, Out.then, ER.out, ER.bind, ER.test, constOf, isTy, walk, opI, opN, isMut, isLst, lockS, unlockS, unlockAll, rows, IR.for_, IR.comp, IR.calm, calmE, lastPs, lastH, putS, atD, finM, mulOk, hb, g2, lw, hp]
  · by_cases hp : 0 < b <;> simp [execs, exec, evos, evs, args, argV, argD, AR.bind, AR.call, back, ev, tst, opB, truthOf, gt, take, asVar, fin1, fin2, fetch, pr1, pr2, cmpD, bl?, truth, Sl.d, tgt, tgts, tgtOs, tgtO, storeS, locked, Out.only, Out.then, ER.out, ER.bind, ER.test, constOf, isTy, walk, opI, opN, isMut, isLst, lockS, unlockS, unlockAll, rows, IR.for_, IR.comp, IR.calm, calmE, lastPs, lastH, putS, atD, finM, hp]
  · simp [execs, exec, evos, evs, args, argV, argD, AR.bind, AR.call, back, ev, tst, opB, truthOf, gt, take, asVar, fin1, fin2, fetch, pr1, pr2, cmpD, bl?, truth, Sl.d, tgt, tgts, tgtOs, tgtO, storeS, locked, Out.only, Out.then, ER.out, ER.bind, ER.test, constOf, isTy, walk, opI, opN, isMut, isLst, lockS, unlockS, unlockAll, rows, IR.for_, IR.comp, IR.calm, calmE, lastPs, lastH, putS, atD, finM, c_common]
theorem llow_loop (F) : ∀ (d c : Nat), Wd (c : Int) → Wd (d : Int) → ∃ n, whileN (tst F G (.cmp .ne (.var 3) (.cst (.int 0)))) (execs F G b20_0) n [some (.val (.int a)), some (.val (.int b)), some (.val (.int (c : Int))), some (.val (.int (d : Int)))] = .nx [some (.val (.int a)), some (.val (.int b)), some (.val (.int (Nat.gcd c d : Nat))), some (.val (.int 0))] := by
  intro d
  induction d using Nat.strongRecOn with
  | ind d ih =>
    intro c hc hd
    by_cases h : d = 0
    · subst h
      exact ⟨1, by rw [whileN_stop (o := false) (E1 := [some (.val (.int a)), some (.val (.int b)), some (.val (.int (c : Int))), some (.val (.int 0))])]; simp; simp [execs, exec, evos, evs, args, argV, argD, AR.bind, AR.call, back, ev, tst, opB, truthOf, gt, take, asVar, fin1, fin2, fetch, pr1, pr2, cmpD, bl?, truth, Sl.d, tgt, tgts, tgtOs, tgtO, storeS, locked, Out.only, Out.then, ER.out, ER.bind, ER.test, constOf, isTy, walk, opI, opN, isMut, isLst, lockS, unlockS, unlockAll, rows, IR.for_, IR.comp, IR.calm, calmE, lastPs, lastH, putS, atD, finM, plain, eqv]⟩
    · have h0 : 0 < d := by omega
      have wd : Wd ((c % d : Nat) : Int) := by
        exact Wd.le hd (Nat.le_of_lt (Nat.mod_lt c h0))
      have wq : Wd ((c : Int) / (d : Int)) := by
        have : c / d ≤ c := Nat.div_le_self c d
        have e : (c : Int) / (d : Int) = ((c / d : Nat) : Int) := by simp
        rw [e]
        exact Wd.le hc this
      have em : (c : Int) - (d : Int) * ((c : Int) / (d : Int)) = ((c % d : Nat) : Int) := by
        have := Int.mul_ediv_add_emod (c : Int) (d : Int)
        have e : ((c % d : Nat) : Int) = (c : Int) % (d : Int) := by simp
        omega
      obtain ⟨n, hn⟩ := ih (c % d) (Nat.mod_lt _ h0) d hd wd
      refine ⟨n + 1, ?_⟩
      rw [whileN_step (o := false) (E1 := [some (.val (.int a)), some (.val (.int b)), some (.val (.int (c : Int))), some (.val (.int (d : Int)))]) (E2 := [some (.val (.int a)), some (.val (.int b)), some (.val (.int (d : Int))), some (.val (.int ((c % d : Nat) : Int)))]), hn, Nat.gcd_comm c d, Nat.gcd_rec d c, Nat.gcd_comm]
      · simp [execs, exec, evos, evs, args, argV, argD, AR.bind, AR.call, back, ev, tst, opB, truthOf, gt, take, asVar, fin1, fin2, fetch, pr1, pr2, cmpD, bl?, truth, Sl.d, tgt, tgts, tgtOs, tgtO, storeS, locked, Out.only, Out.then, ER.out, ER.bind, ER.test, constOf, isTy, walk, opI, opN, isMut, isLst, lockS, unlockS, unlockAll, rows, IR.for_, IR.comp, IR.calm, calmE, lastPs, lastH, putS, atD, finM, plain, eqv, h]
      · have h1 : (0 : Int) < (d : Int) := by omega
        simp [b20_0, execs, exec, evos, evs, args, argV, argD, AR.bind, AR.call, back, ev, tst, opB, truthOf, gt, take, asVar, fin1, fin2, fetch, pr1, pr2, cmpD, bl?, truth, Sl.d, tgt, tgts, tgtOs, tgtO, storeS, locked, Out.only, Out.then, ER.out, ER.bind, ER.test, constOf, isTy, walk, opI, opN, isMut, isLst, lockS, unlockS, unlockAll, rows, IR.for_, IR.comp, IR.calm, calmE, lastPs, lastH, putS, atD, finM, h1, h0, hd, mulOk, wq, em]
theorem c_llow {k : Nat} {a b : Int} (hb : b ≠ 0) (ha : Wd a) (hw : Wd b) : callK T G (k + 1) 20 [.val (.int a), .val (.int b)] = .ok false (lw a b) [none, none] := by
  obtain ⟨g1, g2⟩ := gcd_ok (a := a) hb hw
  obtain ⟨n, hn⟩ := llow_loop (a := a) (b := b) (callK T G k) b.natAbs a.natAbs (by unfold Wd at *; simpa using ha) (by unfold Wd at *; simpa using hw)
  have ea : (if a < 0 then -a else a) = (a.natAbs : Int) := by split <;> omega
  have eb : (if b < 0 then -b else b) = (b.natAbs : Int) := by split <;> omega
  refine (run_rt (n := 2) (m := 4) (b := b20) rfl rfl (o := false) (d := lw a b) (E1 := [some (.val (.int a)), some (.val (.int b)), some (.val (.int (Int.gcd a b : Nat))), some (.val (.int 0))]) ?_).trans rfl
  show execs _ G b20 [some (.val (.int a)), some (.val (.int b)), none, none] = _
  rw [b20, execs_nx (E1 := [some (.val (.int a)), some (.val (.int b)), some (.val (.int (a.natAbs : Int))), some (.val (.int (b.natAbs : Int)))]), execs_nx (exec_while hn (by simp)), execs_rt (o := false)]
  · show exec _ G _ [some (.val (.int a)), some (.val (.int b)), some (.val (.int (Int.gcd a b : Nat))), some (.val (.int 0))] = _
    by_cases hp : 0 < b <;> simp [execs, exec, evos, evs, args, argV, argD, AR.bind, AR.call, back, ev, tst, opB, truthOf, gt, take, asVar, fin1, fin2, fetch, pr1, pr2, cmpD, bl?, truth, Sl.d, tgt, tgts, tgtOs, tgtO, storeS, locked, Out.only, Out.then, ER.out, ER.bind, ER.test, constOf, isTy, walk, opI, opN, isMut, isLst, lockS, unlockS, unlockAll, rows, IR.for_, IR.comp, IR.calm, calmE, lastPs, lastH, putS, atD, finM, hb, g2, lw, hp]
  · simp [execs, exec, evos, evs, args, argV, argD, AR.bind, AR.call, back, ev, tst, opB, truthOf, gt, take, asVar, fin1, fin2, fetch, pr1, pr2, cmpD, bl?, truth, Sl.d, tgt, tgts, tgtOs, tgtO, storeS, locked, Out.only, Out.then, ER.out, ER.bind, ER.test, constOf, isTy, walk, opI, opN, isMut, isLst, lockS, unlockS, unlockAll, rows, IR.for_, IR.comp, IR.calm, calmE, lastPs, lastH, putS, atD, finM, ea, eb]
def dw (cs : List D) (a l s : Int) : D := .lst [.lst cs, .int a, .int l, .int s]
/-- a draw's state -/
def Dw (d : D) : Prop := ∃ (cs : List Int) (a l s : Int), d = dw (cs.map .int) a l s ∧ -1 ≤ a
theorem take_tail (F) {cs : List D} {a l s m : Int} (hm : 0 < m) (hw : Wd m) : execs F G (.cons (.asg (.nm 2) (.p2 .mod (.p1 .int (.p2 .item (.var 0) (.cst (.int 2)))) (.var 1))) (.cons (.asg (.sub 0 (.cst (.int 2))) (.p2 .fdiv (.p2 .item (.var 0) (.cst (.int 2))) (.var 1))) (.cons (.ret (.var 2)) .nil)))
    [some (.ref (dw cs a l s)), some (.val (.int m)), none] = .rt false (.int (l % m)) [some (.ref (dw cs a (l / m) s)), some (.val (.int m)), some (.val (.int (l % m)))] := by
  rw [execs_nx (E1 := [some (.ref (dw cs a l s)), some (.val (.int m)), some (.val (.int (l % m)))]), execs_nx (E1 := [some (.ref (dw cs a (l / m) s)), some (.val (.int m)), some (.val (.int (l % m)))]), execs_rt (o := false)]
  · simp [execs, exec, evos, evs, args, argV, argD, AR.bind, AR.call, back, ev, tst, opB, truthOf, gt, take, asVar, fin1, fin2, fetch, pr1, pr2, cmpD, bl?, truth, Sl.d, tgt, tgts, tgtOs, tgtO, storeS, locked, Out.only, Out.then, ER.out, ER.bind, ER.test, constOf, isTy, walk, opI, opN, isMut, isLst, lockS, unlockS, unlockAll, rows, IR.for_, IR.comp, IR.calm, calmE, lastPs, lastH, putS, atD, finM]
  · simp [execs, exec, evos, evs, args, argV, argD, AR.bind, AR.call, back, ev, tst, opB, truthOf, gt, take, asVar, fin1, fin2, fetch, pr1, pr2, cmpD, bl?, truth, Sl.d, tgt, tgts, tgtOs, tgtO, storeS, locked, Out.only, Out.then, ER.out, ER.bind, ER.test, constOf, isTy, walk, opI, opN, isMut, isLst, lockS, unlockS, unlockAll, rows, IR.for_, IR.comp, IR.calm, calmE, lastPs, lastH, putS, atD, finM, dw, setD, ixD, hm, hw]
  · simp [execs, exec, evos, evs, args, argV, argD, AR.bind, AR.call, back, ev, tst, opB, truthOf, gt, take, asVar, fin1, fin2, fetch, pr1, pr2, cmpD, bl?, truth, Sl.d, tgt, tgts, tgtOs, tgtO, storeS, locked, Out.only, Out.then, ER.out, ER.bind, ER.test, constOf, isTy, walk, opI, opN, isMut, isLst, lockS, unlockS, unlockAll, rows, IR.for_, IR.comp, IR.calm, calmE, lastPs, lastH, putS, atD, finM, dw, hm]
theorem c_take {k : Nat} {cs : List Int} {a l s m : Int} (ha : -1 ≤ a) (hm : 0 < m) (hw : Wd m) : ∃ r d, 0 ≤ r ∧ r < m ∧ Dw d ∧ callK T G (k + 1) 19 [.ref (dw (cs.map .int) a l s), .val (.int m)] = .ok false (.int r) [some (.ref d), none] := by
  have fin : ∀ a' l' s', -1 ≤ a' → (∀ r, execs (callK T G k) G b19 [some (.ref (dw (cs.map .int) a l s)), some (.val (.int m)), none] = r ↔ execs (callK T G k) G (.cons (.asg (.nm 2) (.p2 .mod (.p1 .int (.p2 .item (.var 0) (.cst (.int 2)))) (.var 1))) (.cons (.asg (.sub 0 (.cst (.int 2))) (.p2 .fdiv (.p2 .item (.var 0) (.cst (.int 2))) (.var 1))) (.cons (.ret (.var 2)) .nil)))
      [some (.ref (dw (cs.map .int) a' l' s')), some (.val (.int m)), none] = r) → ∃ r d, 0 ≤ r ∧ r < m ∧ Dw d ∧ callK T G (k + 1) 19 [.ref (dw (cs.map .int) a l s), .val (.int m)] = .ok false (.int r) [some (.ref d), none] := fun a' l' s' h1 h2 =>
    ⟨l' % m, dw (cs.map .int) a' (l' / m) s', Int.emod_nonneg _ (by omega), Int.emod_lt_of_pos _ hm, ⟨cs, a', l' / m, s', rfl, h1⟩, (run_rt (n := 2) (m := 3) (b := b19) rfl rfl (o := false) ((h2 _).mpr (take_tail _ hm hw))).trans rfl⟩
  by_cases hl : l = 0
  · subst hl
    by_cases h1 : a + 1 < (cs.length : Int)
    · have hi : (a + 1).toNat < cs.length := by omega
      have h0 : 0 ≤ a + 1 := by omega
      by_cases hc : cs[(a + 1).toNat] = 0
      · refine fin (a + 1) ((s * 48271 + 11) % 2147483647) ((s * 48271 + 11) % 2147483647) (by omega) fun r => ?_
        rw [b19, execs_nx (E1 := [some (.ref (dw (cs.map .int) (a + 1) ((s * 48271 + 11) % 2147483647) ((s * 48271 + 11) % 2147483647))), some (.val (.int m)), none])]
        simp [execs, exec, evos, evs, args, argV, argD, AR.bind, AR.call, back, ev, tst, opB, truthOf, gt, take, asVar, fin1, fin2, fetch, pr1, pr2, cmpD, bl?, truth, Sl.d, tgt, tgts, tgtOs, tgtO, storeS, locked, Out.only, Out.then, ER.out, ER.bind, ER.test, constOf, isTy, walk, opI, opN, isMut, isLst, lockS, unlockS, unlockAll, rows, IR.for_, IR.comp, IR.calm, calmE, lastPs, lastH, putS, atD, finM, dw, setD, ixD, plain, eqv, h1, h0, hi, hc, mulOk]
      · have hc' : (cs[(a + 1).toNat] == 0) = false := by simpa using hc
        refine fin (a + 1) cs[(a + 1).toNat] s (by omega) fun r => ?_
        rw [b19, execs_nx (E1 := [some (.ref (dw (cs.map .int) (a + 1) cs[(a + 1).toNat] s)), some (.val (.int m)), none])]
        simp [execs, exec, evos, evs, args, argV, argD, AR.bind, AR.call, back, ev, tst, opB, truthOf, gt, take, asVar, fin1, fin2, fetch, pr1, pr2, cmpD, bl?, truth, Sl.d, tgt, tgts, tgtOs, tgtO, storeS, locked, Out.only, Out.then, ER.out, ER.bind, ER.test, constOf, isTy, walk, opI, opN, isMut, isLst, lockS, unlockS, unlockAll, rows, IR.for_, IR.comp, IR.calm, calmE, lastPs, lastH, putS, atD, finM, dw, setD, ixD, plain, eqv, h1, h0, hi, hc, hc', mulOk]
    · refine fin (a + 1) ((s * 48271 + 11) % 2147483647) ((s * 48271 + 11) % 2147483647) (by omega) fun r => ?_
      rw [b19, execs_nx (E1 := [some (.ref (dw (cs.map .int) (a + 1) ((s * 48271 + 11) % 2147483647) ((s * 48271 + 11) % 2147483647))), some (.val (.int m)), none])]
      simp [execs, exec, evos, evs, args, argV, argD, AR.bind, AR.call, back, ev, tst, opB, truthOf, gt, take, asVar, fin1, fin2, fetch, pr1, pr2, cmpD, bl?, truth, Sl.d, tgt, tgts, tgtOs, tgtO, storeS, locked, Out.only, Out.then, ER.out, ER.bind, ER.test, constOf, isTy, walk, opI, opN, isMut, isLst, lockS, unlockS, unlockAll, rows, IR.for_, IR.comp, IR.calm, calmE, lastPs, lastH, putS, atD, finM, dw, setD, ixD, plain, eqv, h1, mulOk]
  · have hl' : (l == 0) = false := by simpa using hl
    refine fin a l s ha fun r => ?_
    rw [b19, execs_nx (E1 := [some (.ref (dw (cs.map .int) a l s)), some (.val (.int m)), none])]
    simp [execs, exec, evos, evs, args, argV, argD, AR.bind, AR.call, back, ev, tst, opB, truthOf, gt, take, asVar, fin1, fin2, fetch, pr1, pr2, cmpD, bl?, truth, Sl.d, tgt, tgts, tgtOs, tgtO, storeS, locked, Out.only, Out.then, ER.out, ER.bind, ER.test, constOf, isTy, walk, opI, opN, isMut, isLst, lockS, unlockS, unlockAll, rows, IR.for_, IR.comp, IR.calm, calmE, lastPs, lastH, putS, atD, finM, dw, plain, eqv, hl, hl']
def Cm (z : Option Sl) : Prop := z = none ∨ ∃ d, z = some (.val d)
theorem draw_loop (F) (all : D) : ∀ (ns : List Int) (s : Int) (z : Option Sl), Cm z → ∃ s' z', forL (tgt F G (.nm 2)) (execs F G b18_1) (ns.map .int) [some (.val all), some (.val (.int s)), z] = .nx [some (.val all), some (.val (.int s')), z'] ∧ Cm z'
  | [], s, z, hz => ⟨s, z, by simp [forL], hz⟩
  | n :: ns, s, z, hz => by
    have h1 : tgt F G (.nm 2) (.int n) [some (.val all), some (.val (.int s)), z] = .nx [some (.val all), some (.val (.int s)), some (.val (.int n))] := by
      rcases hz with rfl | ⟨d, rfl⟩ <;> simp [execs, exec, evos, evs, args, argV, argD, AR.bind, AR.call, back, ev, tst, opB, truthOf, gt, take, asVar, fin1, fin2, fetch, pr1, pr2, cmpD, bl?, truth, Sl.d, tgt, tgts, tgtOs, tgtO, storeS, locked, Out.only, Out.then, ER.out, ER.bind, ER.test, constOf, isTy, walk, opI, opN, isMut, isLst, lockS, unlockS, unlockAll, rows, IR.for_, IR.comp, IR.calm, calmE, lastPs, lastH, putS, atD, finM]
    have h2 : execs F G b18_1 [some (.val all), some (.val (.int s)), some (.val (.int n))] = .nx [some (.val all), some (.val (.int ((s * 48271 + (if n < 0 then -n else n) % 65521 + 1) % 2147483647))), some (.val (.int n))] := by
      simp [b18_1, execs, exec, evos, evs, args, argV, argD, AR.bind, AR.call, back, ev, tst, opB, truthOf, gt, take, asVar, fin1, fin2, fetch, pr1, pr2, cmpD, bl?, truth, Sl.d, tgt, tgts, tgtOs, tgtO, storeS, locked, Out.only, Out.then, ER.out, ER.bind, ER.test, constOf, isTy, walk, opI, opN, isMut, isLst, lockS, unlockS, unlockAll, rows, IR.for_, IR.comp, IR.calm, calmE, lastPs, lastH, putS, atD, finM, mulOk]
    obtain ⟨s', z', q, l⟩ := draw_loop F all ns ((s * 48271 + (if n < 0 then -n else n) % 65521 + 1) % 2147483647) (some (.val (.int n))) (.inr ⟨_, rfl⟩)
    refine ⟨s', z', ?_, l⟩
    rw [List.map_cons, forL_cons h1 h2]
    exact q
theorem c_draw {k : Nat} {ns : List Int} (hl : ns.length ≤ 63) : ∃ d, Dw d ∧ callK T G (k + 1) 18 [.val (.frl (ns.map .int))] = .ok true d [none] := by
  obtain ⟨s', z', q, l⟩ := draw_loop (callK T G k) (.frl (ns.map .int)) ns 7 none (.inl rfl)
  have hc : compL [2] (tgt (callK T G k) G (.nm 2)) (fun E => .ok false (.bl true) E) (ev (callK T G k) G b18_0) (ns.map .int) [] [some (.val (.frl (ns.map .int))), some (.val (.int s')), z'] = .ok true (.lst ((ns.map fun n => if n < 0 then -n else n).map .int)) [some (.val (.frl (ns.map .int))), some (.val (.int s')), none] := by
    refine (comp_pure (p := fun _ => true) (g := fun d => match d with
      | .int n => .int (if n < 0 then -n else n)
      | d => d) (fun x m => ?_) (by simp; exact Nat.le_trans hl (by decide))).trans (by rw [List.filter_eq_self.mpr (by simp), List.map_map, List.map_map]; simp [wipeE, Function.comp_def])
    obtain ⟨n, _, rfl⟩ := List.mem_map.mp m
    exact ⟨[some (.val (.frl (ns.map .int))), some (.val (.int s')), some (.val (.int n))], [some (.val (.frl (ns.map .int))), some (.val (.int s')), some (.val (.int n))], false, by simp [execs, exec, evos, evs, args, argV, argD, AR.bind, AR.call, back, ev, tst, opB, truthOf, gt, take, asVar, fin1, fin2, fetch, pr1, pr2, cmpD, bl?, truth, Sl.d, tgt, tgts, tgtOs, tgtO, storeS, locked, Out.only, Out.then, ER.out, ER.bind, ER.test, constOf, isTy, walk, opI, opN, isMut, isLst, lockS, unlockS, unlockAll, rows, IR.for_, IR.comp, IR.calm, calmE, lastPs, lastH, putS, atD, finM, wipeE], rfl, by simp [wipeE],
      fun _ => ⟨false, [some (.val (.frl (ns.map .int))), some (.val (.int s')), some (.val (.int n))], by simp [b18_0, execs, exec, evos, evs, args, argV, argD, AR.bind, AR.call, back, ev, tst, opB, truthOf, gt, take, asVar, fin1, fin2, fetch, pr1, pr2, cmpD, bl?, truth, Sl.d, tgt, tgts, tgtOs, tgtO, storeS, locked, Out.only, Out.then, ER.out, ER.bind, ER.test, constOf, isTy, walk, opI, opN, isMut, isLst, lockS, unlockS, unlockAll, rows, IR.for_, IR.comp, IR.calm, calmE, lastPs, lastH, putS, atD, finM], by simp [wipeE]⟩⟩
  refine ⟨dw ((ns.map fun n => if n < 0 then -n else n).map .int) (-1) 0 s', ⟨_, _, _, _, rfl, by omega⟩, (run_rt (n := 1) (m := 3) (b := b18) rfl rfl (o := true) (E1 := [some (.val (.frl (ns.map .int))), some (.val (.int s')), z']) ?_).trans rfl⟩
  show execs _ G b18 [some (.val (.frl (ns.map .int))), none, none] = _
  rw [b18, execs_nx (E1 := [some (.val (.frl (ns.map .int))), some (.val (.int 7)), none]), execs_nx (E1 := [some (.val (.frl (ns.map .int))), some (.val (.int s')), z']), execs_rt (o := true)]
  · rcases l with rfl | ⟨d, rfl⟩ <;> simp [execs, exec, evos, evs, args, argV, argD, AR.bind, AR.call, back, ev, tst, opB, truthOf, gt, take, asVar, fin1, fin2, fetch, pr1, pr2, cmpD, bl?, truth, Sl.d, tgt, tgts, tgtOs, tgtO, storeS, locked, Out.only, Out.then, ER.out, ER.bind, ER.test, constOf, isTy, walk, opI, opN, isMut, isLst, lockS, unlockS, unlockAll, rows, IR.for_, IR.comp, IR.calm, calmE, lastPs, lastH, putS, atD, finM, hc, dw, restE]
  · rw [exec, walk]
    simp only [opI, asVar, gt, isMut, Sl.d, rows, IR.for_, List.getElem?_cons_zero, Bool.false_eq_true, if_false]
    rw [q]
    rfl
  · simp [execs, exec, evos, evs, args, argV, argD, AR.bind, AR.call, back, ev, tst, opB, truthOf, gt, take, asVar, fin1, fin2, fetch, pr1, pr2, cmpD, bl?, truth, Sl.d, tgt, tgts, tgtOs, tgtO, storeS, locked, Out.only, Out.then, ER.out, ER.bind, ER.test, constOf, isTy, walk, opI, opN, isMut, isLst, lockS, unlockS, unlockAll, rows, IR.for_, IR.comp, IR.calm, calmE, lastPs, lastH, putS, atD, finM]
end Law
namespace Law
open Rx
/-! ### tariffs -/
abbrev Tf := List (Nat × Nat)
def rowT (p : Nat × Nat) : D := .tup [.int (p.1 : Nat), .int (p.2 : Nat)]
def dT (tf : Tf) : D := .tup (tf.map rowT)
def price (tf : Tf) (n : Nat) : Nat := match tf.find? (fun p => decide (n ≤ p.1)) with
  | some p => p.2
  | none => (tf.getLast?.map (·.2)).getD 0
def due (tf : Tf) (m : Nat) : Nat := ((List.range' 1 m).map (price tf)).sum
def nI (n : Nat) : D := .int (n : Nat)
theorem rangeD_nat {a b : Nat} : rangeD (a : Int) (b : Int) = (List.range' a (b - a)).map nI := by
  unfold rangeD
  rw [List.range'_eq_map_range, List.map_map]
  have : ((b : Int) - (a : Int)).toNat = b - a := by omega
  rw [this]
  apply List.map_congr_left
  intro x _
  simp [nI]
theorem isInts_nat {l : List Nat} : isInts (l.map nI) = some (l.map fun n : Nat => (n : Int)) := by
  induction l with
  | nil => rfl
  | cons a l ih => simp [isInts, nI] at ih ⊢; rw [ih]
theorem sum_nat {l : List Nat} : (l.map fun n : Nat => (n : Int)).sum = (l.sum : Nat) := by
  induction l with
  | nil => rfl
  | cons a l ih => simp [ih]
theorem pr1_sum {l : List Nat} : pr1 .sum (.lst (l.map nI)) = some (false, .int (l.sum : Nat)) := by
  rw [pr1, isInts_nat]
  simp only [sum_nat]
theorem eq_nI {a b : Nat} : cmpD G .ne (nI a) (nI b) = some (!decide (a = b)) := by
  have : ((a : Int) == (b : Int)) = decide (a = b) := by
    by_cases h : a = b
    · simp [h]
    · have : ¬ (a : Int) = (b : Int) := by omega
      simp [h, this]
  simp [cmpD, nI, plain, eqv, this]
theorem last_row {tf : Tf} (h : tf ≠ []) : ∃ p, tf.getLast? = some p ∧ (tf.map rowT)[tf.length - 1]? = some (rowT p) := by
  refine ⟨tf.getLast h, List.getLast?_eq_some_getLast h, ?_⟩
  have hl : 0 < tf.length := by cases tf <;> simp_all
  rw [List.getElem?_map, List.getElem?_eq_getElem (by omega), List.getLast_eq_getElem]
  rfl
theorem at_last {tf : Tf} (h : tf ≠ []) : ∃ p, tf.getLast? = some p ∧ atD (tf.map rowT) (-1) = some (rowT p) := by
  obtain ⟨p, h1, h2⟩ := last_row h
  refine ⟨p, h1, ?_⟩
  have hl : 0 < tf.length := by cases tf <;> simp_all
  unfold atD
  rw [if_neg (by decide), if_pos (by simp; omega), ← h2]
  congr 1
  simp
  omega
theorem price_loop (F) {t : D} {n : Nat} : ∀ (ps : Tf) (z2 z3 : Option Sl), Cm z2 → Cm z3 → ∃ z2' z3', Cm z2' ∧ Cm z3' ∧ forL (tgt F G (.tup (.cons (.nm 2) (.cons (.nm 3) .nil)))) (execs F G b2_0) (ps.map rowT) [some (.val t), some (.val (.int (n : Nat))), z2, z3] = match ps.find? (fun p => decide (n ≤ p.1)) with
    | some p => .rt false (.int (p.2 : Nat)) [some (.val t), some (.val (.int (n : Nat))), z2', z3']
    | none => .nx [some (.val t), some (.val (.int (n : Nat))), z2', z3']
  | [], z2, z3, h2, h3 => ⟨z2, z3, h2, h3, by simp [forL]⟩
  | p :: ps, z2, z3, h2, h3 => by
    have h1 : tgt F G (.tup (.cons (.nm 2) (.cons (.nm 3) .nil))) (rowT p) [some (.val t), some (.val (.int (n : Nat))), z2, z3] = .nx [some (.val t), some (.val (.int (n : Nat))), some (.val (.int (p.1 : Nat))), some (.val (.int (p.2 : Nat)))] := by
      rcases h2 with rfl | ⟨d, rfl⟩ <;> rcases h3 with rfl | ⟨d, rfl⟩ <;> simp [execs, exec, evos, evs, args, argV, argD, AR.bind, AR.call, back, ev, tst, opB, truthOf, gt, take, asVar, fin1, fin2, fetch, pr1, pr2, cmpD, bl?, truth, Sl.d, tgt, tgts, tgtOs, tgtO, storeS, locked, Out.only, Out.then, ER.out, ER.bind, ER.test, constOf, isTy, walk, opI, opN, isMut, isLst, lockS, unlockS, unlockAll, rows, IR.for_, IR.comp, IR.calm, calmE, lastPs, lastH, putS, atD, finM, rowT, unpk, Tgs.len]
    by_cases hp : n ≤ p.1
    · refine ⟨some (.val (.int (p.1 : Nat))), some (.val (.int (p.2 : Nat))), .inr ⟨_, rfl⟩, .inr ⟨_, rfl⟩, ?_⟩
      rw [List.map_cons, forL, h1]
      simp [b2_0, execs, exec, evos, evs, args, argV, argD, AR.bind, AR.call, back, ev, tst, opB, truthOf, gt, take, asVar, fin1, fin2, fetch, pr1, pr2, cmpD, bl?, truth, Sl.d, tgt, tgts, tgtOs, tgtO, storeS, locked, Out.only, Out.then, ER.out, ER.bind, ER.test, constOf, isTy, walk, opI, opN, isMut, isLst, lockS, unlockS, unlockAll, rows, IR.for_, IR.comp, IR.calm, calmE, lastPs, lastH, putS, atD, finM, hp]
    · obtain ⟨z2', z3', c2, c3, i⟩ := price_loop F (t := t) (n := n) ps (some (.val (.int (p.1 : Nat)))) (some (.val (.int (p.2 : Nat)))) (.inr ⟨_, rfl⟩) (.inr ⟨_, rfl⟩)
      refine ⟨z2', z3', c2, c3, ?_⟩
      have h2 : execs F G b2_0 [some (.val t), some (.val (.int (n : Nat))), some (.val (.int (p.1 : Nat))), some (.val (.int (p.2 : Nat)))] = .nx [some (.val t), some (.val (.int (n : Nat))), some (.val (.int (p.1 : Nat))), some (.val (.int (p.2 : Nat)))] := by
        simp [b2_0, execs, exec, evos, evs, args, argV, argD, AR.bind, AR.call, back, ev, tst, opB, truthOf, gt, take, asVar, fin1, fin2, fetch, pr1, pr2, cmpD, bl?, truth, Sl.d, tgt, tgts, tgtOs, tgtO, storeS, locked, Out.only, Out.then, ER.out, ER.bind, ER.test, constOf, isTy, walk, opI, opN, isMut, isLst, lockS, unlockS, unlockAll, rows, IR.for_, IR.comp, IR.calm, calmE, lastPs, lastH, putS, atD, finM, hp]
      rw [List.map_cons, forL_cons h1 h2, i, List.find?_cons_of_neg (by simpa using hp)]
theorem c_price {k n : Nat} {tf : Tf} (h : tf ≠ []) : callK T G (k + 1) 2 [.val (dT tf), .val (.int (n : Nat))] = .ok false (.int (price tf n : Nat)) [none, none] := by
  obtain ⟨z2, z3, c2, c3, q⟩ := price_loop (callK T G k) (t := dT tf) (n := n) tf none none (.inl rfl) (.inl rfl)
  obtain ⟨p0, e1, e2⟩ := at_last h
  have run : execs (callK T G k) G b2 [some (.val (dT tf)), some (.val (.int (n : Nat))), none, none] = .rt false (.int (price tf n : Nat)) [some (.val (dT tf)), some (.val (.int (n : Nat))), z2, z3] := by
    rw [b2]
    have w : exec (callK T G k) G (.for_ (.tup (.cons (.nm 2) (.cons (.nm 3) .nil))) (.seq (.var 0)) b2_0) [some (.val (dT tf)), some (.val (.int (n : Nat))), none, none] = match tf.find? (fun p => decide (n ≤ p.1)) with
        | some p => .rt false (.int (p.2 : Nat)) [some (.val (dT tf)), some (.val (.int (n : Nat))), z2, z3]
        | none => .nx [some (.val (dT tf)), some (.val (.int (n : Nat))), z2, z3] := by
      rw [exec, walk]
      simp only [opI, asVar, gt, isMut, Sl.d, rows, IR.for_, List.getElem?_cons_zero, Bool.false_eq_true, if_false, dT]
      rw [← dT, q]
      cases tf.find? (fun p => decide (n ≤ p.1)) <;> rfl
    unfold price
    cases hf : tf.find? (fun p => decide (n ≤ p.1)) with
    | some p =>
      rw [hf] at w
      rw [execs_rt w]
    | none =>
      rw [hf] at w
      rw [execs_nx w, execs_rt (o := false)]
      rw [e1]
      simp only [ev, opB, asVar, gt, List.getElem?_cons_zero, List.getElem?_cons_succ, fin1, fin2, fetch, pr1, pr2, ER.bind, Option.map, Sl.d, dT, exec, e2, rowT, show atD [D.int (p0.1 : Nat), D.int (p0.2 : Nat)] 1 = some (D.int (p0.2 : Nat)) from rfl, ER.out, Option.getD]
  exact (run_rt (n := 2) (m := 4) (b := b2) rfl rfl (o := false) run).trans rfl
theorem range_1 {m : Nat} : rangeD 1 ((m : Int) + 1) = (List.range' 1 m).map nI := by
  have := rangeD_nat (a := 1) (b := m + 1)
  simpa using this
theorem rg_1 {m : Nat} (h : m ≤ 1000) : rgOk 1 ((m : Int) + 1) = true := by
  simp [rgOk]
  omega
theorem SZ_big {n : Nat} (h : n ≤ 1000) : n ≤ SZ := Nat.le_trans h (by decide)
theorem c_due {k m : Nat} {tf : Tf} (h : tf ≠ []) (hm : m ≤ 1000) : callK T G (k + 2) 3 [.val (dT tf), .val (.int (m : Nat))] = .ok false (.int (due tf m : Nat)) [none, none] := by
  have hc : compL [2] (tgt (callK T G (k + 1)) G (.nm 2)) (fun E => .ok false (.bl true) E) (ev (callK T G (k + 1)) G b3_0) (rangeD 1 ((m : Int) + 1)) [] [some (.val (dT tf)), some (.val (.int (m : Nat))), none] = .ok true (.lst (((List.range' 1 m).map (price tf)).map nI)) [some (.val (dT tf)), some (.val (.int (m : Nat))), none] := by
    rw [range_1, comp_all (f := nI) (g := fun n => nI (price tf n)) (fun n _ => ?_) (by simpa using SZ_big hm), List.map_map]
    · rfl
    · have := c_price (k := k) (n := n) h
      exact ⟨[some (.val (dT tf)), some (.val (.int (m : Nat))), some (.val (.int (n : Nat)))], false, [some (.val (dT tf)), some (.val (.int (m : Nat))), some (.val (.int (n : Nat)))], by simp [execs, exec, evos, evs, args, argV, argD, AR.bind, AR.call, back, ev, tst, opB, truthOf, gt, take, asVar, fin1, fin2, fetch, pr1, pr2, cmpD, bl?, truth, Sl.d, tgt, tgts, tgtOs, tgtO, storeS, locked, Out.only, Out.then, ER.out, ER.bind, ER.test, constOf, isTy, walk, opI, opN, isMut, isLst, lockS, unlockS, unlockAll, rows, IR.for_, IR.comp, IR.calm, calmE, lastPs, lastH, putS, atD, finM, wipeE, nI], by simp [b3_0, execs, exec, evos, evs, args, argV, argD, AR.bind, AR.call, back, ev, tst, opB, truthOf, gt, take, asVar, fin1, fin2, fetch, pr1, pr2, cmpD, bl?, truth, Sl.d, tgt, tgts, tgtOs, tgtO, storeS, locked, Out.only, Out.then, ER.out, ER.bind, ER.test, constOf, isTy, walk, opI, opN, isMut, isLst, lockS, unlockS, unlockAll, rows, IR.for_, IR.comp, IR.calm, calmE, lastPs, lastH, putS, atD, finM, this, nI], by simp [wipeE], by simp [wipeE]⟩
  refine (run_rt (n := 2) (m := 3) (b := b3) rfl rfl (o := false) (E1 := [some (.val (dT tf)), some (.val (.int (m : Nat))), none]) ?_).trans rfl
  show execs _ G b3 [some (.val (dT tf)), some (.val (.int (m : Nat))), none] = _
  rw [b3, execs_rt (o := false)]
  rw [exec, ev]
  · simp only [opB, asVar]
    rw [ev, walk]
    simp only [opN, ev, opB, asVar, gt, List.getElem?_cons_zero, List.getElem?_cons_succ, ER.bind, fin2, fetch, Option.map, Sl.d, pr2, rg_1 hm, if_true, IR.comp, calmE, List.all_cons, List.all_nil, Bool.and_self, hc, restE, unlockAll, fin1, pr1_sum, ER.out, due]
    rfl
  · intro i e; cases e
theorem c_flat {k m : Nat} {tf : Tf} (h : tf ≠ []) (hm : m ≤ 1000) : callK T G (k + 2) 4 [.val (dT tf), .val (.int (m : Nat))] = .ok false (.int (m * price tf m : Nat)) [none, none] := by
  have hp := c_price (k := k) (n := m) h
  refine (run_rt (n := 2) (m := 2) (b := b4) rfl rfl (o := false) (E1 := [some (.val (dT tf)), some (.val (.int (m : Nat)))]) ?_).trans rfl
  show execs _ G b4 [some (.val (dT tf)), some (.val (.int (m : Nat)))] = _
  rw [b4, execs_rt (o := false)]
  have mo : mulOk (m : Int) (price tf m : Nat) = true := by
    simp [mulOk]
    left
    omega
  by_cases h0 : m = 0
  · subst h0; simp [execs, exec, evos, evs, args, argV, argD, AR.bind, AR.call, back, ev, tst, opB, truthOf, gt, take, asVar, fin1, fin2, fetch, pr1, pr2, cmpD, bl?, truth, Sl.d, tgt, tgts, tgtOs, tgtO, storeS, locked, Out.only, Out.then, ER.out, ER.bind, ER.test, constOf, isTy, walk, opI, opN, isMut, isLst, lockS, unlockS, unlockAll, rows, IR.for_, IR.comp, IR.calm, calmE, lastPs, lastH, putS, atD, finM]
  · have : ((m : Int) != 0) = true := by simpa using h0
    simp [execs, exec, evos, evs, args, argV, argD, AR.bind, AR.call, back, ev, tst, opB, truthOf, gt, take, asVar, fin1, fin2, fetch, pr1, pr2, cmpD, bl?, truth, Sl.d, tgt, tgts, tgtOs, tgtO, storeS, locked, Out.only, Out.then, ER.out, ER.bind, ER.test, constOf, isTy, walk, opI, opN, isMut, isLst, lockS, unlockS, unlockAll, rows, IR.for_, IR.comp, IR.calm, calmE, lastPs, lastH, putS, atD, finM, hp, this, h0, mo]
end Law
namespace Law
open Rx
theorem c_fair {k m : Nat} {tf : Tf} (h : tf ≠ []) (hm : m ≤ 1000) (h0 : 0 < m) : callK T G (k + 3) 5 [.val (dT tf), .val (.int (m : Nat))] = .ok false (lw (due tf m : Nat) (m : Nat)) [none, none] := by
  have hd := c_due (k := k) h hm
  have hw : Wd (m : Int) := by
    unfold Wd
    exact Nat.lt_of_le_of_lt hm (by decide +kernel)
  have hl := c_lowest (k := k) (a := (due tf m : Nat)) (b := (m : Nat)) (by omega) hw
  refine (run_rt (n := 2) (m := 2) (b := b5) rfl rfl (o := false) (E1 := [some (.val (dT tf)), some (.val (.int (m : Nat)))]) ?_).trans rfl
  show execs _ G b5 [some (.val (dT tf)), some (.val (.int (m : Nat)))] = _
  rw [b5, execs_rt (o := false)]
  simp [execs, exec, evos, evs, args, argV, argD, AR.bind, AR.call, back, ev, tst, opB, truthOf, gt, take, asVar, fin1, fin2, fetch, pr1, pr2, cmpD, bl?, truth, Sl.d, tgt, tgts, tgtOs, tgtO, storeS, locked, Out.only, Out.then, ER.out, ER.bind, ER.test, constOf, isTy, walk, opI, opN, isMut, isLst, lockS, unlockS, unlockAll, rows, IR.for_, IR.comp, IR.calm, calmE, lastPs, lastH, putS, atD, finM, hd, hl]
theorem isBls_map {α : Type} {f : α → Bool} : ∀ {l : List α}, isBls (l.map fun x => D.bl (f x)) = some (l.map f)
  | [] => rfl
  | a :: l => by simp only [List.map_cons, isBls, isBls_map (l := l)]
theorem range_0 {m : Nat} : rangeD 0 (m : Int) = (List.range m).map nI := by
  have := rangeD_nat (a := 0) (b := m)
  simpa [List.range_eq_range'] using this
theorem c_mild {k : Nat} {t u : Tf} (h : t ≠ []) (h' : u ≠ []) : callK T G (k + 3) 8 [.val (dT t), .val (dT u)] = .ok false (.bl ((List.range 201).all fun n => decide (due t n ≤ due u n))) [none, none] := by
  have hc : compL [2] (tgt (callK T G (k + 2)) G (.nm 2)) (fun E => .ok false (.bl true) E) (ev (callK T G (k + 2)) G b8_0) (rangeD 0 201) [] [some (.val (dT t)), some (.val (dT u)), none] = .ok true (.lst ((List.range 201).map fun n => .bl (decide (due t n ≤ due u n)))) [some (.val (dT t)), some (.val (dT u)), none] := by
    rw [show rangeD 0 201 = (List.range 201).map nI from range_0 (m := 201), comp_all (f := nI) (g := fun n => .bl (decide (due t n ≤ due u n))) (fun n hn => ?_) (by simpa using SZ_big (by omega))]
    · rfl
    · have hn := List.mem_range.mp hn
      have e1 := c_due (k := k) (m := n) h (by omega)
      have e2 := c_due (k := k) (m := n) h' (by omega)
      exact ⟨[some (.val (dT t)), some (.val (dT u)), some (.val (.int (n : Nat)))], false, [some (.val (dT t)), some (.val (dT u)), some (.val (.int (n : Nat)))], by simp [execs, exec, evos, evs, args, argV, argD, AR.bind, AR.call, back, ev, tst, opB, truthOf, gt, take, asVar, fin1, fin2, fetch, pr1, pr2, cmpD, bl?, truth, Sl.d, tgt, tgts, tgtOs, tgtO, storeS, locked, Out.only, Out.then, ER.out, ER.bind, ER.test, constOf, isTy, walk, opI, opN, isMut, isLst, lockS, unlockS, unlockAll, rows, IR.for_, IR.comp, IR.calm, calmE, lastPs, lastH, putS, atD, finM, wipeE, nI], by simp [b8_0, execs, exec, evos, evs, args, argV, argD, AR.bind, AR.call, back, ev, tst, opB, truthOf, gt, take, asVar, fin1, fin2, fetch, pr1, pr2, cmpD, bl?, truth, Sl.d, tgt, tgts, tgtOs, tgtO, storeS, locked, Out.only, Out.then, ER.out, ER.bind, ER.test, constOf, isTy, walk, opI, opN, isMut, isLst, lockS, unlockS, unlockAll, rows, IR.for_, IR.comp, IR.calm, calmE, lastPs, lastH, putS, atD, finM, e1, e2, nI], by simp [wipeE], by simp [wipeE]⟩
  refine (run_rt (n := 2) (m := 3) (b := b8) rfl rfl (o := false) (E1 := [some (.val (dT t)), some (.val (dT u)), none]) ?_).trans rfl
  show execs _ G b8 [some (.val (dT t)), some (.val (dT u)), none] = _
  rw [b8, execs_rt (o := false)]
  rw [exec, ev]
  · simp only [opB, asVar]
    rw [ev, walk]
    simp only [opN, ev, opB, asVar, ER.bind, constOf, G, List.getElem?_cons_zero, fin2, fetch, pr2, show ((200 : Int) + 1) = 201 from rfl, show rgOk 0 201 = true from rfl, if_true, IR.comp, calmE, List.all_cons, List.all_nil, Bool.and_self, gt, List.getElem?_cons_succ]
    rw [show ([D.int 200] : List D) = G from rfl, hc]
    simp only [restE, unlockAll, ER.bind, fin1, fetch, pr1, isBls_map, List.all_map, ER.out]
    rfl
  · intro i e; cases e
theorem c_meet {k : Nat} {t u : Tf} (h : t ≠ []) (h' : u ≠ []) : callK T G (k + 3) 9 [.val (dT t), .val (dT u)] = .ok false (.tup (((List.range' 1 200).filter fun n => decide (due t n = due u n)).map nI)) [none, none] := by
  have hc : compL [2] (tgt (callK T G (k + 2)) G (.nm 2)) (tst (callK T G (k + 2)) G (.cmp .eq (.call 3 (.cons (.var 0) (.cons (.var 2) .nil))) (.call 3 (.cons (.var 1) (.cons (.var 2) .nil))))) (ev (callK T G (k + 2)) G b9_0) (rangeD 1 201) [] [some (.val (dT t)), some (.val (dT u)), none] = .ok true (.lst (((List.range' 1 200).filter fun n => decide (due t n = due u n)).map nI)) [some (.val (dT t)), some (.val (dT u)), none] := by
    rw [show rangeD 1 201 = (List.range' 1 200).map nI from range_1 (m := 200), comp_of (f := nI) (p := fun n => decide (due t n = due u n)) (g := nI) (fun n hn => ?_) (by simpa using SZ_big (by omega))]
    · rfl
    · have hn := List.mem_range'_1.mp hn
      have e1 := c_due (k := k) (m := n) h (by omega)
      have e2 := c_due (k := k) (m := n) h' (by omega)
      have e3 : ((due t n : Int) == (due u n : Int)) = decide (due t n = due u n) := by
        by_cases h : due t n = due u n
        · simp [h]
        · have : ¬ (due t n : Int) = (due u n : Int) := by omega
          simp [h, this]
      exact ⟨[some (.val (dT t)), some (.val (dT u)), some (.val (.int (n : Nat)))], [some (.val (dT t)), some (.val (dT u)), some (.val (.int (n : Nat)))], false, by simp [execs, exec, evos, evs, args, argV, argD, AR.bind, AR.call, back, ev, tst, opB, truthOf, gt, take, asVar, fin1, fin2, fetch, pr1, pr2, cmpD, bl?, truth, Sl.d, tgt, tgts, tgtOs, tgtO, storeS, locked, Out.only, Out.then, ER.out, ER.bind, ER.test, constOf, isTy, walk, opI, opN, isMut, isLst, lockS, unlockS, unlockAll, rows, IR.for_, IR.comp, IR.calm, calmE, lastPs, lastH, putS, atD, finM, wipeE, nI], by simp [execs, exec, evos, evs, args, argV, argD, AR.bind, AR.call, back, ev, tst, opB, truthOf, gt, take, asVar, fin1, fin2, fetch, pr1, pr2, cmpD, bl?, truth, Sl.d, tgt, tgts, tgtOs, tgtO, storeS, locked, Out.only, Out.then, ER.out, ER.bind, ER.test, constOf, isTy, walk, opI, opN, isMut, isLst, lockS, unlockS, unlockAll, rows, IR.for_, IR.comp, IR.calm, calmE, lastPs, lastH, putS, atD, finM, e1, e2, nI, plain, eqv, e3], by simp [wipeE], fun _ => ⟨false, [some (.val (dT t)), some (.val (dT u)), some (.val (.int (n : Nat)))], by simp [execs, exec, evos, evs, args, argV, argD, AR.bind, AR.call, back, ev, tst, opB, truthOf, gt, take, asVar, fin1, fin2, fetch, pr1, pr2, cmpD, bl?, truth, Sl.d, tgt, tgts, tgtOs, tgtO, storeS, locked, Out.only, Out.then, ER.out, ER.bind, ER.test, constOf, isTy, walk, opI, opN, isMut, isLst, lockS, unlockS, unlockAll, rows, IR.for_, IR.comp, IR.calm, calmE, lastPs, lastH, putS, atD, finM, b9_0, nI], by simp [wipeE]⟩⟩
  refine (run_rt (n := 2) (m := 3) (b := b9) rfl rfl (o := false) (E1 := [some (.val (dT t)), some (.val (dT u)), none]) ?_).trans rfl
  show execs _ G b9 [some (.val (dT t)), some (.val (dT u)), none] = _
  rw [b9, execs_rt (o := false)]
  rw [exec, ev]
  · simp only [opB, asVar]
    rw [ev, walk]
    simp only [opN, ev, opB, asVar, ER.bind, constOf, G, List.getElem?_cons_zero, fin2, fetch, pr2, show ((200 : Int) + 1) = 201 from rfl, show rgOk 1 201 = true from rfl, if_true, IR.comp, calmE, List.all_cons, List.all_nil, Bool.and_self, gt, List.getElem?_cons_succ]
    rw [show ([D.int 200] : List D) = G from rfl, hc]
    simp only [restE, unlockAll, ER.bind, fin1, fetch, pr1, ER.out]
    rfl
  · intro i e; cases e
theorem c_lprice {k n : Nat} {tf : Tf} (h : tf ≠ []) (hl : tf.length ≤ 1000) : callK T G (k + 1) 22 [.val (dT tf), .val (.int (n : Nat))] = .ok false (.int (price tf n : Nat)) [none, none] := by
  have hc : compL [3, 4] (tgt (callK T G k) G (.tup (.cons (.nm 3) (.cons (.nm 4) .nil)))) (tst (callK T G k) G (.cmp .le (.var 1) (.var 3))) (ev (callK T G k) G b22_0) (tf.map rowT) [] [some (.val (dT tf)), some (.val (.int (n : Nat))), none, none, none] = .ok true (.lst ((tf.filter fun p => decide (n ≤ p.1)).map fun p => nI p.2)) [some (.val (dT tf)), some (.val (.int (n : Nat))), none, none, none] := by
    rw [comp_of (f := rowT) (p := fun p => decide (n ≤ p.1)) (g := fun p => nI p.2) (fun p hn => ?_) (by simpa using SZ_big hl)]
    · rfl
    · exact ⟨[some (.val (dT tf)), some (.val (.int (n : Nat))), none, some (.val (.int (p.1 : Nat))), some (.val (.int (p.2 : Nat)))], [some (.val (dT tf)), some (.val (.int (n : Nat))), none, some (.val (.int (p.1 : Nat))), some (.val (.int (p.2 : Nat)))], false, by simp [execs, exec, evos, evs, args, argV, argD, AR.bind, AR.call, back, ev, tst, opB, truthOf, gt, take, asVar, fin1, fin2, fetch, pr1, pr2, cmpD, bl?, truth, Sl.d, tgt, tgts, tgtOs, tgtO, storeS, locked, Out.only, Out.then, ER.out, ER.bind, ER.test, constOf, isTy, walk, opI, opN, isMut, isLst, lockS, unlockS, unlockAll, rows, IR.for_, IR.comp, IR.calm, calmE, lastPs, lastH, putS, atD, finM, wipeE, rowT, unpk, Tgs.len], by simp [execs, exec, evos, evs, args, argV, argD, AR.bind, AR.call, back, ev, tst, opB, truthOf, gt, take, asVar, fin1, fin2, fetch, pr1, pr2, cmpD, bl?, truth, Sl.d, tgt, tgts, tgtOs, tgtO, storeS, locked, Out.only, Out.then, ER.out, ER.bind, ER.test, constOf, isTy, walk, opI, opN, isMut, isLst, lockS, unlockS, unlockAll, rows, IR.for_, IR.comp, IR.calm, calmE, lastPs, lastH, putS, atD, finM], by simp [wipeE], fun _ => ⟨false, [some (.val (dT tf)), some (.val (.int (n : Nat))), none, some (.val (.int (p.1 : Nat))), some (.val (.int (p.2 : Nat)))], by simp [execs, exec, evos, evs, args, argV, argD, AR.bind, AR.call, back, ev, tst, opB, truthOf, gt, take, asVar, fin1, fin2, fetch, pr1, pr2, cmpD, bl?, truth, Sl.d, tgt, tgts, tgtOs, tgtO, storeS, locked, Out.only, Out.then, ER.out, ER.bind, ER.test, constOf, isTy, walk, opI, opN, isMut, isLst, lockS, unlockS, unlockAll, rows, IR.for_, IR.comp, IR.calm, calmE, lastPs, lastH, putS, atD, finM, b22_0, nI], by simp [wipeE]⟩⟩
  obtain ⟨p0, e1, e2⟩ := at_last h
  refine (run_rt (n := 2) (m := 5) (b := b22) rfl rfl (o := false) (E1 := [some (.val (dT tf)), some (.val (.int (n : Nat))), some (.own (.lst ((tf.filter fun p => decide (n ≤ p.1)).map fun p => nI p.2))), none, none]) ?_).trans rfl
  show execs _ G b22 [some (.val (dT tf)), some (.val (.int (n : Nat))), none, none, none] = _
  rw [b22, execs_nx (E1 := [some (.val (dT tf)), some (.val (.int (n : Nat))), some (.own (.lst ((tf.filter fun p => decide (n ≤ p.1)).map fun p => nI p.2))), none, none]), execs_rt (o := false)]
  · have hf : tf.find? (fun p => decide (n ≤ p.1)) = (tf.filter fun p => decide (n ≤ p.1)).head? := by rw [List.head?_filter]
    unfold price
    rw [hf]
    cases hq : tf.filter fun p => decide (n ≤ p.1) with
    | nil =>
      simp only [ev, tst, evs, AR.call, List.map_nil, back, opB, asVar, gt, List.getElem?_cons_zero, List.getElem?_cons_succ, fin1, fin2, fetch, pr1, pr2, ER.bind, ER.test, cmpD, plain, plains, eqv, eqvs, bl?, Bool.and_self, if_true, Bool.not_true, Bool.false_eq_true, if_false, Option.map, Sl.d, dT, exec, e1, e2, rowT, show atD [D.int (p0.1 : Nat), D.int (p0.2 : Nat)] 1 = some (D.int (p0.2 : Nat)) from rfl, ER.out, Option.getD, List.head?_nil]
    | cons p ps =>
      have hpl : plain DP (.lst ((p :: ps).map fun p => nI p.2)) = true := by
        have : ∀ l : List (Nat × Nat), plains 39 (l.map fun p => nI p.2) = true := fun l => by
          induction l with
          | nil => rfl
          | cons a l ih => simp [plains, plain, nI] at ih ⊢; exact ih
        exact this (p :: ps)
      simp only [ev, tst, evs, AR.call, List.map_nil, back, opB, asVar, gt, List.getElem?_cons_zero, List.getElem?_cons_succ, fin1, fin2, fetch, pr1, pr2, ER.bind, ER.test, cmpD, hpl, show plain DP (.lst []) = true from rfl, Bool.and_self, if_true, bl?, Option.map, Sl.d, exec]
      simp [eqv, eqvs, atD, nI, ER.out]
  · rw [exec, ev, walk]
    simp only [opI, asVar, gt, isMut, Sl.d, rows, IR.comp, List.getElem?_cons_zero, List.getElem?_cons_succ, Bool.false_eq_true, if_false, dT, calmE, List.all_cons, List.all_nil, Bool.and_self, if_true]
    rw [← dT, hc]
    simp [restE, unlockAll, ER.out, tgtO, storeS, locked, gt, Out.only]
theorem c_ldue {k m : Nat} {tf : Tf} (h : tf ≠ []) (hl : tf.length ≤ 1000) (hm : m ≤ 1000) : callK T G (k + 2) 23 [.val (dT tf), .val (.int (m : Nat))] = .ok false (.int (due tf m : Nat)) [none, none] := by
  have hc : compL [2] (tgt (callK T G (k + 1)) G (.nm 2)) (fun E => .ok false (.bl true) E) (ev (callK T G (k + 1)) G b23_0) (rangeD 1 ((m : Int) + 1)) [] [some (.val (dT tf)), some (.val (.int (m : Nat))), none] = .ok true (.lst (((List.range' 1 m).map (price tf)).map nI)) [some (.val (dT tf)), some (.val (.int (m : Nat))), none] := by
    rw [range_1, comp_all (f := nI) (g := fun n => nI (price tf n)) (fun n _ => ?_) (by simpa using SZ_big hm), List.map_map]
    · rfl
    · have := c_lprice (k := k) (n := n) h hl
      exact ⟨[some (.val (dT tf)), some (.val (.int (m : Nat))), some (.val (.int (n : Nat)))], false, [some (.val (dT tf)), some (.val (.int (m : Nat))), some (.val (.int (n : Nat)))], by simp [execs, exec, evos, evs, args, argV, argD, AR.bind, AR.call, back, ev, tst, opB, truthOf, gt, take, asVar, fin1, fin2, fetch, pr1, pr2, cmpD, bl?, truth, Sl.d, tgt, tgts, tgtOs, tgtO, storeS, locked, Out.only, Out.then, ER.out, ER.bind, ER.test, constOf, isTy, walk, opI, opN, isMut, isLst, lockS, unlockS, unlockAll, rows, IR.for_, IR.comp, IR.calm, calmE, lastPs, lastH, putS, atD, finM, wipeE, nI], by simp [b23_0, execs, exec, evos, evs, args, argV, argD, AR.bind, AR.call, back, ev, tst, opB, truthOf, gt, take, asVar, fin1, fin2, fetch, pr1, pr2, cmpD, bl?, truth, Sl.d, tgt, tgts, tgtOs, tgtO, storeS, locked, Out.only, Out.then, ER.out, ER.bind, ER.test, constOf, isTy, walk, opI, opN, isMut, isLst, lockS, unlockS, unlockAll, rows, IR.for_, IR.comp, IR.calm, calmE, lastPs, lastH, putS, atD, finM, this, nI], by simp [wipeE], by simp [wipeE]⟩
  refine (run_rt (n := 2) (m := 3) (b := b23) rfl rfl (o := false) (E1 := [some (.val (dT tf)), some (.val (.int (m : Nat))), none]) ?_).trans rfl
  show execs _ G b23 [some (.val (dT tf)), some (.val (.int (m : Nat))), none] = _
  rw [b23, execs_rt (o := false)]
  rw [exec, ev]
  · simp only [opB, asVar]
    rw [ev, walk]
    simp only [opN, ev, opB, asVar, gt, List.getElem?_cons_zero, List.getElem?_cons_succ, ER.bind, fin2, fetch, Option.map, Sl.d, pr2, rg_1 hm, if_true, IR.comp, calmE, List.all_cons, List.all_nil, Bool.and_self, hc, restE, unlockAll, fin1, pr1_sum, ER.out, due]
    rfl
  · intro i e; cases e
end Law
namespace Law
open Rx
theorem wd_nat {m : Nat} (h : m ≤ 1000) : Wd (m : Int) := by
  unfold Wd
  exact Nat.lt_of_le_of_lt h (by decide +kernel)
theorem takeN {k m : Nat} {d : D} (hd : Dw d) (h0 : 0 < m) (hm : m ≤ 1000) : ∃ (r : Nat) (d' : D), r < m ∧ Dw d' ∧ callK T G (k + 1) 19 [.ref d, .val (.int (m : Nat))] = .ok false (.int (r : Nat)) [some (.ref d'), none] := by
  obtain ⟨cs, a, l, s, rfl, ha⟩ := hd
  obtain ⟨r, d', h1, h2, h3, h4⟩ := c_take (k := k) (cs := cs) (l := l) (s := s) ha (m := (m : Int)) (by omega) (wd_nat hm)
  obtain ⟨r, rfl⟩ := Int.eq_ofNat_of_zero_le h1
  exact ⟨r, d', by omega, h3, h4⟩
theorem ev_take0 {k m : Nat} {d : D} (hd : Dw d) (h0 : 0 < m) (hm : m ≤ 1000) {r : En} : ∃ (x : Nat) (d' : D), x < m ∧ Dw d' ∧ ev (callK T G (k + 1)) G (.call 19 (.cons (.var 0) (.cons (.cst (.int (m : Nat))) .nil))) (some (.ref d) :: r) = .ok false (.int (x : Nat)) (some (.ref d') :: r) := by
  obtain ⟨x, d', h1, h2, h3⟩ := takeN (k := k) hd h0 hm
  exact ⟨x, d', h1, h2, by simp [execs, exec, evos, evs, args, argV, argD, AR.bind, AR.call, back, ev, tst, opB, truthOf, gt, take, asVar, fin1, fin2, fetch, pr1, pr2, cmpD, bl?, truth, Sl.d, tgt, tgts, tgtOs, tgtO, storeS, locked, Out.only, Out.then, ER.out, ER.bind, ER.test, constOf, isTy, walk, opI, opN, isMut, isLst, lockS, unlockS, unlockAll, rows, IR.for_, IR.comp, IR.calm, calmE, lastPs, lastH, putS, atD, finM, h3]⟩
theorem ev_take1 {k m : Nat} {d : D} (hd : Dw d) (h0 : 0 < m) (hm : m ≤ 1000) {x0 : Option Sl} {r : En} : ∃ (x : Nat) (d' : D), x < m ∧ Dw d' ∧ ev (callK T G (k + 1)) G (.call 19 (.cons (.var 1) (.cons (.cst (.int (m : Nat))) .nil))) (x0 :: some (.own d) :: r) = .ok false (.int (x : Nat)) (x0 :: some (.own d') :: r) := by
  obtain ⟨x, d', h1, h2, h3⟩ := takeN (k := k) hd h0 hm
  exact ⟨x, d', h1, h2, by simp [execs, exec, evos, evs, args, argV, argD, AR.bind, AR.call, back, ev, tst, opB, truthOf, gt, take, asVar, fin1, fin2, fetch, pr1, pr2, cmpD, bl?, truth, Sl.d, tgt, tgts, tgtOs, tgtO, storeS, locked, Out.only, Out.then, ER.out, ER.bind, ER.test, constOf, isTy, walk, opI, opN, isMut, isLst, lockS, unlockS, unlockAll, rows, IR.for_, IR.comp, IR.calm, calmE, lastPs, lastH, putS, atD, finM, h3]⟩
/-- prices that are small -/
def TfOk (tf : Tf) : Prop := ∀ p ∈ tf, p.2 ≤ 5
theorem tariff_loop {k : Nat} : ∀ (n i : Nat) (tf : Tf) (u : Nat) (d : D) (z : Option Sl), Dw d → TfOk tf → Cm z → tf.length + n ≤ 100 →
    ∃ (tf' : Tf) (u' : Nat) (d' : D) (z' : Option Sl), Dw d' ∧ TfOk tf' ∧ tf'.length = tf.length + n ∧ forL (tgt (callK T G (k + 1)) G (.nm 3)) (execs (callK T G (k + 1)) G b21_0) ((List.range' i n).map nI) [some (.ref d), some (.val (.int (u : Nat))), some (.own (.lst (tf.map rowT))), z] = .nx [some (.ref d'), some (.val (.int (u' : Nat))), some (.own (.lst (tf'.map rowT))), z']
  | 0, i, tf, u, d, z, hd, ht, hz, hl => ⟨tf, u, d, z, hd, ht, rfl, by simp [forL]⟩
  | n + 1, i, tf, u, d, z, hd, ht, hz, hl => by
    have h1 : tgt (callK T G (k + 1)) G (.nm 3) (nI i) [some (.ref d), some (.val (.int (u : Nat))), some (.own (.lst (tf.map rowT))), z] = .nx [some (.ref d), some (.val (.int (u : Nat))), some (.own (.lst (tf.map rowT))), some (.val (nI i))] := by
      rcases hz with rfl | ⟨d, rfl⟩ <;> simp [execs, exec, evos, evs, args, argV, argD, AR.bind, AR.call, back, ev, tst, opB, truthOf, gt, take, asVar, fin1, fin2, fetch, pr1, pr2, cmpD, bl?, truth, Sl.d, tgt, tgts, tgtOs, tgtO, storeS, locked, Out.only, Out.then, ER.out, ER.bind, ER.test, constOf, isTy, walk, opI, opN, isMut, isLst, lockS, unlockS, unlockAll, rows, IR.for_, IR.comp, IR.calm, calmE, lastPs, lastH, putS, atD, finM]
    obtain ⟨x, d1, x4, hd1, q1⟩ := ev_take0 (k := k) hd (m := 4) (by omega) (by omega) (r := [some (.val (.int (u : Nat))), some (.own (.lst (tf.map rowT))), some (.val (nI i))])
    obtain ⟨y, d2, y6, hd2, q2⟩ := ev_take0 (k := k) hd1 (m := 6) (by omega) (by omega) (r := [some (.val (.int ((u + 1 + x : Nat) : Nat))), some (.own (.lst (tf.map rowT))), some (.val (nI i))])
    have hs : tf.length < SZ := Nat.lt_of_le_of_lt (show tf.length ≤ 100 by omega) (by decide)
    have h2 : execs (callK T G (k + 1)) G b21_0 [some (.ref d), some (.val (.int (u : Nat))), some (.own (.lst (tf.map rowT))), some (.val (nI i))] = .nx [some (.ref d2), some (.val (.int ((u + 1 + x : Nat) : Nat))), some (.own (.lst ((tf ++ [(u + 1 + x, y)]).map rowT))), some (.val (nI i))] := by
      rw [b21_0, execs_nx (E1 := [some (.ref d1), some (.val (.int ((u + 1 + x : Nat) : Nat))), some (.own (.lst (tf.map rowT))), some (.val (nI i))]), execs_nx (E1 := [some (.ref d2), some (.val (.int ((u + 1 + x : Nat) : Nat))), some (.own (.lst ((tf ++ [(u + 1 + x, y)]).map rowT))), some (.val (nI i))]), execs_end]
      · rw [exec, ev]
        simp only [gt, isLst, List.getElem?_cons_zero, List.getElem?_cons_succ, Sl.d, if_true, evs, argD, AR.bind]
        rw [ev]
        simp only [evs, argD, AR.bind]
        rw [ev]
        simp only [take, gt, List.getElem?_cons_zero, List.getElem?_cons_succ, argD, AR.bind]
        rw [show ((6 : Nat) : Int) = 6 from rfl] at q2
        rw [q2]
        simp [AR.call, AR.bind, Sl.d, back, finM, gt, mth, hs, putS, ER.out, rowT]
      · rw [show ((4 : Nat) : Int) = 4 from rfl] at q1
        rw [exec, ev]
        simp only [opB, asVar]
        rw [ev]
        simp only [opB, asVar, ev.eq_1, gt, List.getElem?_cons_zero, List.getElem?_cons_succ, ER.bind, fin2, fetch, Option.map, Sl.d, pr2, q1]
        simp [tgtO, storeS, locked, gt, Out.only, ER.out]
    have ht' : TfOk (tf ++ [(u + 1 + x, y)]) := fun p hp => by
      rcases List.mem_append.mp hp with hp | hp
      · exact ht p hp
      · simp only [List.mem_singleton] at hp
        subst hp
        show y ≤ 5
        omega
    obtain ⟨tf', u', d', z', i1, i2, i3, i4⟩ := tariff_loop n (i + 1) (tf ++ [(u + 1 + x, y)]) (u + 1 + x) d2 (some (.val (nI i))) hd2 ht' (.inr ⟨_, rfl⟩) (by simp; omega)
    refine ⟨tf', u', d', z', i1, i2, by rw [i3]; simp; omega, ?_⟩
    rw [List.range'_succ, List.map_cons, forL_cons h1 h2, i4]
theorem c_tariff {k : Nat} {d : D} (hd : Dw d) : ∃ (tf : Tf) (d' : D), tf ≠ [] ∧ TfOk tf ∧ tf.length ≤ 3 ∧ Dw d' ∧ callK T G (k + 2) 21 [.ref d] = .ok false (dT tf) [some (.ref d')] := by
  obtain ⟨x, d1, x3, hd1, q1⟩ := ev_take0 (k := k) hd (m := 3) (by omega) (by omega) (r := [some (.val (.int ((0 : Nat) : Int))), some (.own (.lst (([] : Tf).map rowT))), none])
  obtain ⟨tf, u, d2, z, h1, h2, h3, h4⟩ := tariff_loop (k := k) (1 + x) 0 [] 0 d1 none hd1 (fun p hp => by cases hp) (.inl rfl) (by simp; omega)
  simp only [List.length_nil] at h3
  refine ⟨tf, d2, fun e => ?_, h2, by omega, h1, ?_⟩
  · subst e; simp only [List.length_nil] at h3; omega
  · refine (run_rt (n := 1) (m := 4) (b := b21) rfl rfl (o := false) (E1 := [some (.ref d2), some (.val (.int (u : Nat))), some (.own (.lst (tf.map rowT))), z]) ?_).trans rfl
    show execs _ G b21 [some (.ref d), none, none, none] = _
    rw [b21, execs_nx (E1 := [some (.ref d), some (.val (.int ((0 : Nat) : Int))), some (.own (.lst (([] : Tf).map rowT))), none]), execs_nx (E1 := [some (.ref d2), some (.val (.int (u : Nat))), some (.own (.lst (tf.map rowT))), z]), execs_rt (o := false)]
    · simp [-List.map_map, execs, exec, evos, evs, args, argV, argD, AR.bind, AR.call, back, ev, tst, opB, truthOf, gt, take, asVar, fin1, fin2, fetch, pr1, pr2, cmpD, bl?, truth, Sl.d, tgt, tgts, tgtOs, tgtO, storeS, locked, Out.only, Out.then, ER.out, ER.bind, ER.test, constOf, isTy, walk, opI, opN, isMut, isLst, lockS, unlockS, unlockAll, rows, IR.for_, IR.comp, IR.calm, calmE, lastPs, lastH, putS, atD, finM, dT]
    · rw [exec, walk, ev]
      rw [show ((3 : Nat) : Int) = 3 from rfl] at q1
      simp only [opB, asVar, ev.eq_1, ER.bind, q1, fin2, fetch, pr2, opN]
      have e : (1 : Int) + (x : Int) = ((1 + x : Nat) : Int) := by omega
      have hg : rgOk 0 ((1 + x : Nat) : Int) = true := by simp [rgOk]; omega
      rw [e]
      simp only [hg, if_true, IR.for_, range_0]
      rw [List.range_eq_range', h4]
      rfl
    · simp [execs, exec, evos, evs, args, argV, argD, AR.bind, AR.call, back, ev, tst, opB, truthOf, gt, take, asVar, fin1, fin2, fetch, pr1, pr2, cmpD, bl?, truth, Sl.d, tgt, tgts, tgtOs, tgtO, storeS, locked, Out.only, Out.then, ER.out, ER.bind, ER.test, constOf, isTy, walk, opI, opN, isMut, isLst, lockS, unlockS, unlockAll, rows, IR.for_, IR.comp, IR.calm, calmE, lastPs, lastH, putS, atD, finM]
end Law
namespace Law
open Rx
/-! ### least and greatest -/
def mnN : Nat → List Nat → Nat
  | m, [] => m
  | m, x :: r => mnN (if x < m then x else m) r
def mn? : List Nat → Option Nat
  | [] => none
  | x :: l => some (mnN x l)
def mxN : Nat → List Nat → Nat
  | m, [] => m
  | m, x :: r => mxN (if m < x then x else m) r
def mx? : List Nat → Option Nat
  | [] => none
  | x :: l => some (mxN x l)
theorem mnN_spec : ∀ (l : List Nat) (m : Nat), (mnN m l = m ∨ mnN m l ∈ l) ∧ mnN m l ≤ m ∧ ∀ b ∈ l, mnN m l ≤ b
  | [], m => ⟨.inl rfl, Nat.le_refl _, fun b h => by cases h⟩
  | x :: l, m => by
    obtain ⟨h1, h2, h3⟩ := mnN_spec l (if x < m then x else m)
    unfold mnN
    refine ⟨?_, ?_, fun b hb => ?_⟩
    · rcases h1 with h1 | h1
      · rw [h1]; split <;> simp
      · exact .inr (by simp [h1])
    · split at h2 <;> split <;> omega
    · rcases List.mem_cons.mp hb with rfl | hb
      · split at h2 <;> split <;> omega
      · exact h3 b hb
theorem mxN_spec : ∀ (l : List Nat) (m : Nat), (mxN m l = m ∨ mxN m l ∈ l) ∧ m ≤ mxN m l ∧ ∀ b ∈ l, b ≤ mxN m l
  | [], m => ⟨.inl rfl, Nat.le_refl _, fun b h => by cases h⟩
  | x :: l, m => by
    obtain ⟨h1, h2, h3⟩ := mxN_spec l (if m < x then x else m)
    unfold mxN
    refine ⟨?_, ?_, fun b hb => ?_⟩
    · rcases h1 with h1 | h1
      · rw [h1]; split <;> simp
      · exact .inr (by simp [h1])
    · split at h2 <;> split <;> omega
    · rcases List.mem_cons.mp hb with rfl | hb
      · split at h2 <;> split <;> omega
      · exact h3 b hb
theorem mn_some {l : List Nat} {a : Nat} : mn? l = some a ↔ a ∈ l ∧ ∀ b ∈ l, a ≤ b := by
  cases l with
  | nil => simp [mn?]
  | cons x l =>
    obtain ⟨h1, h2, h3⟩ := mnN_spec l x
    constructor
    · intro h
      cases h
      refine ⟨?_, fun b hb => ?_⟩
      · rcases h1 with h1 | h1
        · rw [h1]; simp
        · simp [h1]
      · rcases List.mem_cons.mp hb with rfl | hb
        · exact h2
        · exact h3 b hb
    · intro ⟨m, hm⟩
      simp only [mn?]
      congr 1
      have g1 : mnN x l ∈ x :: l := by rcases h1 with h1 | h1 <;> simp [h1]
      have := hm _ g1
      rcases List.mem_cons.mp m with rfl | m
      · omega
      · have := h3 a m; omega
theorem mx_some {l : List Nat} {a : Nat} : mx? l = some a ↔ a ∈ l ∧ ∀ b ∈ l, b ≤ a := by
  cases l with
  | nil => simp [mx?]
  | cons x l =>
    obtain ⟨h1, h2, h3⟩ := mxN_spec l x
    constructor
    · intro h
      cases h
      refine ⟨?_, fun b hb => ?_⟩
      · rcases h1 with h1 | h1
        · rw [h1]; simp
        · simp [h1]
      · rcases List.mem_cons.mp hb with rfl | hb
        · exact h2
        · exact h3 b hb
    · intro ⟨m, hm⟩
      simp only [mx?]
      congr 1
      have g1 : mxN x l ∈ x :: l := by rcases h1 with h1 | h1 <;> simp [h1]
      have := hm _ g1
      rcases List.mem_cons.mp m with rfl | m
      · omega
      · have := h3 a m; omega
theorem mn_none {l : List Nat} : mn? l = none ↔ l = [] := by cases l <;> simp [mn?]
theorem mx_none {l : List Nat} : mx? l = none ↔ l = [] := by cases l <;> simp [mx?]
theorem minL_nat : ∀ (l : List Nat) (m : Nat), minL (m : Int) (l.map fun n : Nat => (n : Int)) = (mnN m l : Nat)
  | [], m => rfl
  | x :: l, m => by
    rw [List.map_cons, minL, mnN]
    have : (if (x : Int) < (m : Int) then (x : Int) else (m : Int)) = ((if x < m then x else m : Nat) : Int) := by
      by_cases h : x < m <;> simp [h]
    rw [this, minL_nat l]
theorem maxL_nat : ∀ (l : List Nat) (m : Nat), maxL (m : Int) (l.map fun n : Nat => (n : Int)) = (mxN m l : Nat)
  | [], m => rfl
  | x :: l, m => by
    rw [List.map_cons, maxL, mxN]
    have : (if (m : Int) < (x : Int) then (x : Int) else (m : Int)) = ((if m < x then x else m : Nat) : Int) := by
      by_cases h : m < x <;> simp [h]
    rw [this, maxL_nat l]
theorem pr1_min {l : List Nat} {a : Nat} (h : mn? l = some a) : pr1 .min1 (.lst (l.map nI)) = some (false, .int (a : Nat)) := by
  rw [pr1, isInts_nat]
  cases l with
  | nil => cases h
  | cons x l =>
    cases h
    simp only [List.map_cons, minL_nat]
theorem pr1_max {l : List Nat} {a : Nat} (h : mx? l = some a) : pr1 .max1 (.lst (l.map nI)) = some (false, .int (a : Nat)) := by
  rw [pr1, isInts_nat]
  cases l with
  | nil => cases h
  | cons x l =>
    cases h
    simp only [List.map_cons, maxL_nat]
theorem fm_congr {α β : Type} {f g : α → Option β} : ∀ {l : List α}, (∀ x ∈ l, f x = g x) → l.filterMap f = l.filterMap g
  | [], _ => rfl
  | a :: l, h => by
    rw [List.filterMap_cons, List.filterMap_cons, h a (by simp), fm_congr fun x m => h x (by simp [m])]
theorem mn_flat {α : Type} {g : α → List Nat} {l : List α} : mn? (l.flatMap g) = mn? (l.filterMap fun x => mn? (g x)) := by
  cases h : mn? (l.filterMap fun x => mn? (g x)) with
  | none =>
    rw [mn_none, List.filterMap_eq_nil_iff] at h
    rw [mn_none, List.flatMap_eq_nil_iff]
    exact fun x hx => mn_none.mp (h x hx)
  | some a =>
    rw [mn_some] at h ⊢
    obtain ⟨h1, h2⟩ := h
    obtain ⟨x, hx, e⟩ := List.mem_filterMap.mp h1
    refine ⟨List.mem_flatMap.mpr ⟨x, hx, (mn_some.mp e).1⟩, fun b hb => ?_⟩
    obtain ⟨y, hy, hb⟩ := List.mem_flatMap.mp hb
    cases e2 : mn? (g y) with
    | none => rw [mn_none.mp e2] at hb; cases hb
    | some c =>
      have := h2 c (List.mem_filterMap.mpr ⟨y, hy, e2⟩)
      have := (mn_some.mp e2).2 b hb
      omega
theorem mn_add {l : List Nat} {c : Nat} : mn? (l.map (c + ·)) = (mn? l).map (c + ·) := by
  cases h : mn? l with
  | none => rw [mn_none.mp h]; rfl
  | some a =>
    obtain ⟨h1, h2⟩ := mn_some.mp h
    refine mn_some.mpr ⟨List.mem_map_of_mem h1, fun b hb => ?_⟩
    obtain ⟨x, hx, rfl⟩ := List.mem_map.mp hb
    exact Nat.add_le_add_left (h2 x hx) c
/-! ### rows of counts -/
def rowsL : Nat → Nat → Nat → List (List Nat)
  | 0, many, _ => if many = 0 then [[]] else []
  | q + 1, many, least => if many = 0 then [[]] else (List.range' least (many + 1 - least)).flatMap fun f => (rowsL q (many - f) f).map (f :: ·)
def sd (tf : Tf) (r : List Nat) : Nat := (r.map (due tf)).sum
def cd (tf : Tf) (q many least : Nat) : Option Nat := mn? ((rowsL q many least).map (sd tf))
theorem cd_zero {tf : Tf} {q least : Nat} : cd tf q 0 least = some 0 := by
  cases q <;> rfl
theorem cd_q0 {tf : Tf} {many least : Nat} (h : many ≠ 0) : cd tf 0 many least = none := by
  simp [cd, rowsL, h, mn?]
def toldL (tf : Tf) (q many : Nat) (fs : List Nat) : List Nat := fs.filterMap fun f => (cd tf q (many - f) f).map (due tf f + ·)
theorem cd_succ {tf : Tf} {q many least : Nat} (h : many ≠ 0) : cd tf (q + 1) many least = mn? (toldL tf q many (List.range' least (many + 1 - least))) := by
  unfold cd toldL
  rw [rowsL, if_neg h, List.map_flatMap, mn_flat]
  congr 1
  refine fm_congr fun f _ => ?_
  rw [List.map_map]
  have : sd tf ∘ (fun x => f :: x) = (due tf f + ·) ∘ sd tf := by
    funext r
    simp [sd]
  rw [this, ← List.map_map, mn_add]
  rfl
theorem cd_big {tf : Tf} {q many least : Nat} (h : many ≠ 0) (hl : many < least) : cd tf q many least = none := by
  cases q with
  | zero => exact cd_q0 h
  | succ q =>
    rw [cd_succ h]
    have : many + 1 - least = 0 := by omega
    rw [this]
    rfl
end Law
namespace Law
open Rx
def kD (m q l : Nat) : List D := [.int (m : Int), .int (q : Int), .int (l : Int)]
def kK (m q l : Nat) : List L2.Key := [.inl (m : Int), .inl (q : Int), .inl (l : Int)]
def oI : Option Nat → D
  | none => .non
  | some n => .int (n : Nat)
theorem kK_inj {m q l m' q' l' : Nat} (h : kK m q l = kK m' q' l') : m = m' ∧ q = q' ∧ l = l' := by
  simp only [kK, List.cons.injEq, Sum.inl.injEq, and_true] at h
  omega
theorem kD_keys {m q l : Nat} : keysOf (kD m q l) = some (kK m q l) := rfl
theorem kD_ok {m q l : Nat} : okKey G (kD m q l) = true := rfl
theorem dt_notin {ks : List (List L2.Key)} {vs : List D} {m q l : Nat} : cmpD G .notin (.tup (kD m q l)) (.dt ks vs) = some (!(dget ks vs (kK m q l)).isSome) := by
  rfl
theorem dt_item {ks : List (List L2.Key)} {vs : List D} {m q l : Nat} {d : D} (h : dget ks vs (kK m q l) = some d) : pr2 G .item (.dt ks vs) (.tup (kD m q l)) = some (false, d) := by
  have e : pr2 G .item (.dt ks vs) (.tup (kD m q l)) = (match dget ks vs (kK m q l) with
    | some d => some (false, d)
    | none => none) := rfl
  rw [e, h]
theorem dt_set {ks : List (List L2.Key)} {vs : List D} {m q l : Nat} {d : D} (h : ks.length < SZ) : setD G (.dt ks vs) (.tup (kD m q l)) d = some (.dt (dputK ks (kK m q l)) (dputV ks vs (kK m q l) d)) := by
  have e : setD G (.dt ks vs) (.tup (kD m q l)) d = (if ks.length < SZ then some (.dt (dputK ks (kK m q l)) (dputV ks vs (kK m q l) d)) else none) := rfl
  rw [e, if_pos h]
/-- what is known is right -/
def Mem (tf : Tf) (ks : List (List L2.Key)) (vs : List D) : Prop := ks.length = vs.length ∧ ∀ m q l d, dget ks vs (kK m q l) = some d → d = oI (cd tf q m l)
theorem Mem.put {tf : Tf} {ks : List (List L2.Key)} {vs : List D} {m q l : Nat} (h : Mem tf ks vs) : Mem tf (dputK ks (kK m q l)) (dputV ks vs (kK m q l) (oI (cd tf q m l))) := by
  refine ⟨dput_len h.1, fun m' q' l' d e => ?_⟩
  rw [dget_put h.1] at e
  split at e
  · rename_i e2
    obtain ⟨rfl, rfl, rfl⟩ := kK_inj e2
    cases e
    rfl
  · exact h.2 m' q' l' d e
def cost : Nat → Nat
  | 0 => 0
  | q + 1 => 1 + 13 * cost q
def Call7 (tf : Tf) (F : Nat → List Sl → CR) (q : Nat) : Prop := ∀ (many least : Nat) (ks : List (List L2.Key)) (vs : List D), many ≤ 12 → 1 ≤ least → Mem tf ks vs → ks.length + cost q ≤ 1000000 →
  ∃ ks' vs', F 7 [.val (dT tf), .val (.int (many : Nat)), .val (.int (q : Nat)), .val (.int (least : Nat)), .ref (.dt ks vs)] = .ok false (oI (cd tf q many least)) [none, none, none, none, some (.ref (.dt ks' vs'))] ∧ Mem tf ks' vs' ∧ ks'.length ≤ ks.length + cost q
def toldO (tf : Tf) (q many f : Nat) : List Nat := match cd tf q (many - f) f with
  | some r => [due tf f + r]
  | none => []
theorem told_cons {tf : Tf} {q many f : Nat} {fs : List Nat} : toldL tf q many (f :: fs) = toldO tf q many f ++ toldL tf q many fs := by
  unfold toldL toldO
  rw [List.filterMap_cons]
  cases cd tf q (many - f) f <;> rfl
theorem due7_turn {tf : Tf} (h : tf ≠ []) {k q many least f : Nat} {F : Nat → List Sl → CR} (hF : Call7 tf F q) (hd : F 3 [.val (dT tf), .val (.int (f : Nat))] = .ok false (.int (due tf f : Nat)) [none, none])
    {ks : List (List L2.Key)} {vs : List D} (hm : many ≤ 12) (h1 : 1 ≤ f) (h2 : f ≤ many) (hM : Mem tf ks vs) (hz : ks.length + cost q ≤ 1000000) {told : List Nat} (ht : told.length < 1000) {z7 : Option Sl} (c7 : Cm z7) :
    ∃ ks' vs', Mem tf ks' vs' ∧ ks'.length ≤ ks.length + cost q ∧ execs F G b7_0 [some (.val (dT tf)), (some (.val (.int ((many : Nat) : Int)))), (some (.val (.int (((q + 1) : Nat) : Int)))), (some (.val (.int ((least : Nat) : Int)))), some (.ref (.dt ks vs)), some (.own (.lst (told.map nI))), (some (.val (.int ((f : Nat) : Int)))), z7] =
      .nx [some (.val (dT tf)), (some (.val (.int ((many : Nat) : Int)))), (some (.val (.int (((q + 1) : Nat) : Int)))), (some (.val (.int ((least : Nat) : Int)))), some (.ref (.dt ks' vs')), some (.own (.lst ((told ++ toldO tf q many f).map nI))), (some (.val (.int ((f : Nat) : Int)))), some (.val (oI (cd tf q (many - f) f)))] := by
  obtain ⟨ks', vs', q1, q2, q3⟩ := hF (many - f) f ks vs (by omega) h1 hM hz
  refine ⟨ks', vs', q2, q3, ?_⟩
  have e1 : (many : Int) - (f : Int) = ((many - f : Nat) : Int) := by omega
  have e2 : (((q + 1 : Nat) : Int) - 1) = (q : Int) := by omega
  have hs : told.length < SZ := Nat.lt_of_lt_of_le ht (by decide)
  rw [b7_0, execs_nx (E1 := [some (.val (dT tf)), (some (.val (.int ((many : Nat) : Int)))), (some (.val (.int (((q + 1) : Nat) : Int)))), (some (.val (.int ((least : Nat) : Int)))), some (.ref (.dt ks' vs')), some (.own (.lst (told.map nI))), (some (.val (.int ((f : Nat) : Int)))), some (.val (oI (cd tf q (many - f) f)))])]
  · unfold toldO
    cases hc : cd tf q (many - f) f with
    | none => simp [execs, exec, evos, evs, args, argV, argD, AR.bind, AR.call, back, ev, tst, opB, truthOf, gt, take, asVar, fin1, fin2, fetch, pr1, pr2, cmpD, bl?, truth, Sl.d, tgt, tgts, tgtOs, tgtO, storeS, locked, Out.only, Out.then, ER.out, ER.bind, ER.test, constOf, isTy, walk, opI, opN, isMut, isLst, lockS, unlockS, unlockAll, rows, IR.for_, IR.comp, IR.calm, calmE, lastPs, lastH, putS, atD, finM, oI]
    | some r =>
      simp [execs, exec, evos, evs, args, argV, argD, AR.bind, AR.call, back, ev, tst, opB, truthOf, gt, take, asVar, fin1, fin2, fetch, pr1, pr2, cmpD, bl?, truth, Sl.d, tgt, tgts, tgtOs, tgtO, storeS, locked, Out.only, Out.then, ER.out, ER.bind, ER.test, constOf, isTy, walk, opI, opN, isMut, isLst, lockS, unlockS, unlockAll, rows, IR.for_, IR.comp, IR.calm, calmE, lastPs, lastH, putS, atD, finM, oI, hd, mth, hs, nI]
  · rw [exec, ev]
    simp only [args, asVar, argV, argD, gt, List.getElem?_cons_zero, List.getElem?_cons_succ, AR.bind, ev, opB, ER.bind, fin2, fetch, Option.map, Sl.d, pr2, e1, e2, List.set_cons_succ, List.set_cons_zero, AR.call, q1, back]
    rcases c7 with rfl | ⟨d, rfl⟩ <;> simp [ER.out, tgtO, storeS, locked, gt, Out.only]
theorem due7_loop {tf : Tf} (h : tf ≠ []) {q many least : Nat} {F : Nat → List Sl → CR} (hF : Call7 tf F q) (hd : ∀ f ≤ 1000, F 3 [.val (dT tf), .val (.int (f : Nat))] = .ok false (.int (due tf f : Nat)) [none, none]) (hm : many ≤ 12) :
    ∀ (n i : Nat) (ks : List (List L2.Key)) (vs : List D) (told : List Nat) (z6 z7 : Option Sl), 1 ≤ i → i + n ≤ many + 1 → Mem tf ks vs → ks.length + n * cost q ≤ 1000000 → told.length + n < 1000 → Cm z6 → Cm z7 →
    ∃ ks' vs' z6' z7', Mem tf ks' vs' ∧ ks'.length ≤ ks.length + n * cost q ∧ forL (tgt F G (.nm 6)) (execs F G b7_0) ((List.range' i n).map nI) [some (.val (dT tf)), (some (.val (.int ((many : Nat) : Int)))), (some (.val (.int (((q + 1) : Nat) : Int)))), (some (.val (.int ((least : Nat) : Int)))), some (.ref (.dt ks vs)), some (.own (.lst (told.map nI))), z6, z7] =
      .nx [some (.val (dT tf)), (some (.val (.int ((many : Nat) : Int)))), (some (.val (.int (((q + 1) : Nat) : Int)))), (some (.val (.int ((least : Nat) : Int)))), some (.ref (.dt ks' vs')), some (.own (.lst ((told ++ toldL tf q many (List.range' i n)).map nI))), z6', z7']
  | 0, i, ks, vs, told, z6, z7, _, _, hM, _, _, _, _ => ⟨ks, vs, z6, z7, hM, by simp, by simp [forL, toldL]⟩
  | n + 1, i, ks, vs, told, z6, z7, h1, h2, hM, hz, ht, c6, c7 => by
    have g1 : tgt F G (.nm 6) (nI i) [some (.val (dT tf)), (some (.val (.int ((many : Nat) : Int)))), (some (.val (.int (((q + 1) : Nat) : Int)))), (some (.val (.int ((least : Nat) : Int)))), some (.ref (.dt ks vs)), some (.own (.lst (told.map nI))), z6, z7] = .nx [some (.val (dT tf)), (some (.val (.int ((many : Nat) : Int)))), (some (.val (.int (((q + 1) : Nat) : Int)))), (some (.val (.int ((least : Nat) : Int)))), some (.ref (.dt ks vs)), some (.own (.lst (told.map nI))), (some (.val (.int ((i : Nat) : Int)))), z7] := by
      rcases c6 with rfl | ⟨d, rfl⟩ <;> simp [execs, exec, evos, evs, args, argV, argD, AR.bind, AR.call, back, ev, tst, opB, truthOf, gt, take, asVar, fin1, fin2, fetch, pr1, pr2, cmpD, bl?, truth, Sl.d, tgt, tgts, tgtOs, tgtO, storeS, locked, Out.only, Out.then, ER.out, ER.bind, ER.test, constOf, isTy, walk, opI, opN, isMut, isLst, lockS, unlockS, unlockAll, rows, IR.for_, IR.comp, IR.calm, calmE, lastPs, lastH, putS, atD, finM, nI]
    rw [Nat.succ_mul] at hz
    obtain ⟨ks1, vs1, m1, m2, g2⟩ := due7_turn h (k := 0) (least := least) hF (hd i (by omega)) hm h1 (by omega) hM (by omega) (told := told) (by omega) c7
    have hl : (toldO tf q many i).length ≤ 1 := by unfold toldO; split <;> simp
    obtain ⟨ks2, vs2, z6', z7', i1, i2, i3⟩ := due7_loop h hF hd hm n (i + 1) ks1 vs1 (told ++ toldO tf q many i) (some (.val (.int ((i : Nat) : Int)))) (some (.val (oI (cd tf q (many - i) i)))) (by omega) (by omega) m1 (by omega) (by simp; omega) (.inr ⟨_, rfl⟩) (.inr ⟨_, rfl⟩)
    refine ⟨ks2, vs2, z6', z7', i1, by rw [Nat.succ_mul]; omega, ?_⟩
    rw [List.range'_succ, List.map_cons, forL_cons g1 g2, i3, told_cons, List.append_assoc]
theorem c_cdue {tf : Tf} (h : tf ≠ []) (k : Nat) : ∀ q, Call7 tf (callK T G (k + q + 3)) q
  | 0 => fun many least ks vs hm h1 hM hz => by
    refine ⟨ks, vs, ?_, hM, by simp⟩
    refine (run_rt (n := 5) (m := 8) (b := b7) rfl rfl (o := false) (E1 := [some (.val (dT tf)), (some (.val (.int ((many : Nat) : Int)))), (some (.val (.int ((0 : Nat) : Int)))), (some (.val (.int ((least : Nat) : Int)))), some (.ref (.dt ks vs)), none, none, none]) ?_).trans rfl
    show execs _ G b7 [some (.val (dT tf)), (some (.val (.int ((many : Nat) : Int)))), (some (.val (.int ((0 : Nat) : Int)))), (some (.val (.int ((least : Nat) : Int)))), some (.ref (.dt ks vs)), none, none, none] = _
    by_cases h0 : many = 0
    · subst h0
      rw [cd_zero, b7, execs_rt (o := false)]
      simp [execs, exec, evos, evs, args, argV, argD, AR.bind, AR.call, back, ev, tst, opB, truthOf, gt, take, asVar, fin1, fin2, fetch, pr1, pr2, cmpD, bl?, truth, Sl.d, tgt, tgts, tgtOs, tgtO, storeS, locked, Out.only, Out.then, ER.out, ER.bind, ER.test, constOf, isTy, walk, opI, opN, isMut, isLst, lockS, unlockS, unlockAll, rows, IR.for_, IR.comp, IR.calm, calmE, lastPs, lastH, putS, atD, finM, plain, eqv, oI]
    · have hb : ((many : Int) == 0) = false := by simpa using h0
      rw [cd_q0 h0, b7, execs_nx (E1 := [some (.val (dT tf)), (some (.val (.int ((many : Nat) : Int)))), (some (.val (.int ((0 : Nat) : Int)))), (some (.val (.int ((least : Nat) : Int)))), some (.ref (.dt ks vs)), none, none, none]), execs_rt (o := false)]
      · simp [execs, exec, evos, evs, args, argV, argD, AR.bind, AR.call, back, ev, tst, opB, truthOf, gt, take, asVar, fin1, fin2, fetch, pr1, pr2, cmpD, bl?, truth, Sl.d, tgt, tgts, tgtOs, tgtO, storeS, locked, Out.only, Out.then, ER.out, ER.bind, ER.test, constOf, isTy, walk, opI, opN, isMut, isLst, lockS, unlockS, unlockAll, rows, IR.for_, IR.comp, IR.calm, calmE, lastPs, lastH, putS, atD, finM, plain, eqv, oI]
      · simp [execs, exec, evos, evs, args, argV, argD, AR.bind, AR.call, back, ev, tst, opB, truthOf, gt, take, asVar, fin1, fin2, fetch, pr1, pr2, cmpD, bl?, truth, Sl.d, tgt, tgts, tgtOs, tgtO, storeS, locked, Out.only, Out.then, ER.out, ER.bind, ER.test, constOf, isTy, walk, opI, opN, isMut, isLst, lockS, unlockS, unlockAll, rows, IR.for_, IR.comp, IR.calm, calmE, lastPs, lastH, putS, atD, finM, plain, eqv, hb]
  | q + 1 => fun many least ks vs hm h1 hM hz => by
    have hF := c_cdue h k q
    have hd : ∀ f ≤ 1000, callK T G (k + q + 3) 3 [.val (dT tf), .val (.int (f : Nat))] = .ok false (.int (due tf f : Nat)) [none, none] := fun f hf => c_due (k := k + q + 1) h hf
    have hb2 : (((q + 1 : Nat) : Int) == 0) = false := by
      have : ¬ ((q + 1 : Nat) : Int) = 0 := by omega
      simpa using this
    have hb3 : ((q : Int) + 1 == 0) = false := by
      have : ¬ (q : Int) + 1 = 0 := by omega
      simpa using this
    by_cases h0 : many = 0
    · subst h0
      refine ⟨ks, vs, ?_, hM, by omega⟩
      refine (run_rt (n := 5) (m := 8) (b := b7) rfl rfl (o := false) (E1 := [some (.val (dT tf)), (some (.val (.int ((0 : Nat) : Int)))), (some (.val (.int (((q + 1) : Nat) : Int)))), (some (.val (.int ((least : Nat) : Int)))), some (.ref (.dt ks vs)), none, none, none]) ?_).trans rfl
      show execs (callK T G (k + q + 3)) G b7 [some (.val (dT tf)), (some (.val (.int ((0 : Nat) : Int)))), (some (.val (.int (((q + 1) : Nat) : Int)))), (some (.val (.int ((least : Nat) : Int)))), some (.ref (.dt ks vs)), none, none, none] = _
      rw [cd_zero, b7, execs_rt (o := false)]
      simp [execs, exec, evos, evs, args, argV, argD, AR.bind, AR.call, back, ev, tst, opB, truthOf, gt, take, asVar, fin1, fin2, fetch, pr1, pr2, cmpD, bl?, truth, Sl.d, tgt, tgts, tgtOs, tgtO, storeS, locked, Out.only, Out.then, ER.out, ER.bind, ER.test, constOf, isTy, walk, opI, opN, isMut, isLst, lockS, unlockS, unlockAll, rows, IR.for_, IR.comp, IR.calm, calmE, lastPs, lastH, putS, atD, finM, plain, eqv, oI]
    · have hb : ((many : Int) == 0) = false := by simpa using h0
      have s1 : exec (callK T G (k + q + 3)) G (.ite (.cmp .eq (.var 1) (.cst (.int 0))) (.cons (.ret (.cst (.int 0))) .nil) .nil) [some (.val (dT tf)), (some (.val (.int ((many : Nat) : Int)))), (some (.val (.int (((q + 1) : Nat) : Int)))), (some (.val (.int ((least : Nat) : Int)))), some (.ref (.dt ks vs)), none, none, none] = .nx [some (.val (dT tf)), (some (.val (.int ((many : Nat) : Int)))), (some (.val (.int (((q + 1) : Nat) : Int)))), (some (.val (.int ((least : Nat) : Int)))), some (.ref (.dt ks vs)), none, none, none] := by
        simp [execs, exec, evos, evs, args, argV, argD, AR.bind, AR.call, back, ev, tst, opB, truthOf, gt, take, asVar, fin1, fin2, fetch, pr1, pr2, cmpD, bl?, truth, Sl.d, tgt, tgts, tgtOs, tgtO, storeS, locked, Out.only, Out.then, ER.out, ER.bind, ER.test, constOf, isTy, walk, opI, opN, isMut, isLst, lockS, unlockS, unlockAll, rows, IR.for_, IR.comp, IR.calm, calmE, lastPs, lastH, putS, atD, finM, plain, eqv, hb]
      by_cases hl : many < least
      · refine ⟨ks, vs, ?_, hM, by omega⟩
        refine (run_rt (n := 5) (m := 8) (b := b7) rfl rfl (o := false) (E1 := [some (.val (dT tf)), (some (.val (.int ((many : Nat) : Int)))), (some (.val (.int (((q + 1) : Nat) : Int)))), (some (.val (.int ((least : Nat) : Int)))), some (.ref (.dt ks vs)), none, none, none]) ?_).trans rfl
        show execs (callK T G (k + q + 3)) G b7 [some (.val (dT tf)), (some (.val (.int ((many : Nat) : Int)))), (some (.val (.int (((q + 1) : Nat) : Int)))), (some (.val (.int ((least : Nat) : Int)))), some (.ref (.dt ks vs)), none, none, none] = _
        rw [cd_big h0 hl, b7, execs_nx s1, execs_rt (o := false)]
        simp [execs, exec, evos, evs, args, argV, argD, AR.bind, AR.call, back, ev, tst, opB, truthOf, gt, take, asVar, fin1, fin2, fetch, pr1, pr2, cmpD, bl?, truth, Sl.d, tgt, tgts, tgtOs, tgtO, storeS, locked, Out.only, Out.then, ER.out, ER.bind, ER.test, constOf, isTy, walk, opI, opN, isMut, isLst, lockS, unlockS, unlockAll, rows, IR.for_, IR.comp, IR.calm, calmE, lastPs, lastH, putS, atD, finM, plain, eqv, hb3, oI, hl]
      · have s2 : exec (callK T G (k + q + 3)) G (.ite (.or (.cmp .eq (.var 2) (.cst (.int 0))) (.one (.cmp .gt (.var 3) (.var 1)))) (.cons (.ret (.cst .non)) .nil) .nil) [some (.val (dT tf)), (some (.val (.int ((many : Nat) : Int)))), (some (.val (.int (((q + 1) : Nat) : Int)))), (some (.val (.int ((least : Nat) : Int)))), some (.ref (.dt ks vs)), none, none, none] = .nx [some (.val (dT tf)), (some (.val (.int ((many : Nat) : Int)))), (some (.val (.int (((q + 1) : Nat) : Int)))), (some (.val (.int ((least : Nat) : Int)))), some (.ref (.dt ks vs)), none, none, none] := by
          simp [execs, exec, evos, evs, args, argV, argD, AR.bind, AR.call, back, ev, tst, opB, truthOf, gt, take, asVar, fin1, fin2, fetch, pr1, pr2, cmpD, bl?, truth, Sl.d, tgt, tgts, tgtOs, tgtO, storeS, locked, Out.only, Out.then, ER.out, ER.bind, ER.test, constOf, isTy, walk, opI, opN, isMut, isLst, lockS, unlockS, unlockAll, rows, IR.for_, IR.comp, IR.calm, calmE, lastPs, lastH, putS, atD, finM, plain, eqv, hb3, hl]
        have kd : ∀ (F : Nat → List Sl → CR) (kv : D) (t z6 z7 : Option Sl), ev F G (.tup (.cons (.var 1) (.cons (.var 2) (.cons (.var 3) .nil)))) [some (.val (dT tf)), (some (.val (.int ((many : Nat) : Int)))), (some (.val (.int (((q + 1) : Nat) : Int)))), (some (.val (.int ((least : Nat) : Int)))), some (.ref kv), t, z6, z7] = .ok false (.tup (kD many (q + 1) least)) [some (.val (dT tf)), (some (.val (.int ((many : Nat) : Int)))), (some (.val (.int (((q + 1) : Nat) : Int)))), (some (.val (.int ((least : Nat) : Int)))), some (.ref kv), t, z6, z7] := fun F kv t z6 z7 => by
          simp [execs, exec, evos, evs, args, argV, argD, AR.bind, AR.call, back, ev, tst, opB, truthOf, gt, take, asVar, fin1, fin2, fetch, pr1, pr2, cmpD, bl?, truth, Sl.d, tgt, tgts, tgtOs, tgtO, storeS, locked, Out.only, Out.then, ER.out, ER.bind, ER.test, constOf, isTy, walk, opI, opN, isMut, isLst, lockS, unlockS, unlockAll, rows, IR.for_, IR.comp, IR.calm, calmE, lastPs, lastH, putS, atD, finM, kD]
        have fin : ∀ ks' vs' (t z6 z7 : Option Sl), dget ks' vs' (kK many (q + 1) least) = some (oI (cd tf (q + 1) many least)) → execs (callK T G (k + q + 3)) G (.cons (.ret (.p2 .item (.var 4) (.tup (.cons (.var 1) (.cons (.var 2) (.cons (.var 3) .nil)))))) .nil) [some (.val (dT tf)), (some (.val (.int ((many : Nat) : Int)))), (some (.val (.int (((q + 1) : Nat) : Int)))), (some (.val (.int ((least : Nat) : Int)))), some (.ref (.dt ks' vs')), t, z6, z7] = .rt false (oI (cd tf (q + 1) many least)) [some (.val (dT tf)), (some (.val (.int ((many : Nat) : Int)))), (some (.val (.int (((q + 1) : Nat) : Int)))), (some (.val (.int ((least : Nat) : Int)))), some (.ref (.dt ks' vs')), t, z6, z7] := fun ks' vs' t z6 z7 e => by
          rw [execs_rt (o := false)]
          rw [exec, ev]
          · simp only [opB, asVar, gt, List.getElem?_cons_zero, List.getElem?_cons_succ, kd, ER.bind, fin2, fetch, Option.map, Sl.d, dt_item e, ER.out]
          · intro i e; cases e
        cases hg : dget ks vs (kK many (q + 1) least) with
        | some d =>
          have hd := hM.2 _ _ _ _ hg
          refine ⟨ks, vs, ?_, hM, by omega⟩
          refine (run_rt (n := 5) (m := 8) (b := b7) rfl rfl (o := false) (E1 := [some (.val (dT tf)), (some (.val (.int ((many : Nat) : Int)))), (some (.val (.int (((q + 1) : Nat) : Int)))), (some (.val (.int ((least : Nat) : Int)))), some (.ref (.dt ks vs)), none, none, none]) ?_).trans rfl
          show execs (callK T G (k + q + 3)) G b7 [some (.val (dT tf)), (some (.val (.int ((many : Nat) : Int)))), (some (.val (.int (((q + 1) : Nat) : Int)))), (some (.val (.int ((least : Nat) : Int)))), some (.ref (.dt ks vs)), none, none, none] = _
          rw [b7, execs_nx s1, execs_nx s2, execs_nx (E1 := [some (.val (dT tf)), (some (.val (.int ((many : Nat) : Int)))), (some (.val (.int (((q + 1) : Nat) : Int)))), (some (.val (.int ((least : Nat) : Int)))), some (.ref (.dt ks vs)), none, none, none]), fin _ _ _ _ _ (by rw [hg, hd])]
          rw [exec, tst]
          simp only [opB, asVar, kd, gt, List.getElem?_cons_zero, List.getElem?_cons_succ, ER.bind, fin2, fetch, Option.map, Sl.d, dt_notin, hg, Option.isSome, bl?, Bool.not_true, ER.test, Bool.false_eq_true, if_false, execs_end]
          rfl
        | none =>
          have hn : least + (many + 1 - least) = many + 1 := by omega
          have hc : (many + 1 - least) * cost q ≤ 13 * cost q := Nat.mul_le_mul_right _ (by omega)
          have hz' : ks.length + (1 + 13 * cost q) ≤ 1000000 := hz
          obtain ⟨ks1, vs1, z6, z7, m1, m2, g⟩ := due7_loop h (least := least) hF hd hm (many + 1 - least) least ks vs [] none none h1 (by omega) hM (by omega) (by simp; omega) (.inl rfl) (.inl rfl)
          have hs : ks1.length < SZ := Nat.lt_of_le_of_lt (show ks1.length ≤ 1000000 by omega) (by decide)
          have hcd := cd_succ (tf := tf) (q := q) (least := least) h0
          refine ⟨dputK ks1 (kK many (q + 1) least), dputV ks1 vs1 (kK many (q + 1) least) (oI (cd tf (q + 1) many least)), ?_, m1.put, ?_⟩
          · refine (run_rt (n := 5) (m := 8) (b := b7) rfl rfl (o := false) (E1 := [some (.val (dT tf)), (some (.val (.int ((many : Nat) : Int)))), (some (.val (.int (((q + 1) : Nat) : Int)))), (some (.val (.int ((least : Nat) : Int)))), some (.ref (.dt (dputK ks1 (kK many (q + 1) least)) (dputV ks1 vs1 (kK many (q + 1) least) (oI (cd tf (q + 1) many least))))), some (.own (.lst ((toldL tf q many (List.range' least (many + 1 - least))).map nI))), z6, z7]) ?_).trans rfl
            show execs (callK T G (k + q + 3)) G b7 [some (.val (dT tf)), (some (.val (.int ((many : Nat) : Int)))), (some (.val (.int (((q + 1) : Nat) : Int)))), (some (.val (.int ((least : Nat) : Int)))), some (.ref (.dt ks vs)), none, none, none] = _
            rw [b7, execs_nx s1, execs_nx s2, execs_nx, fin _ _ _ _ _ (by rw [dget_put m1.1, if_pos rfl])]
            rw [exec, tst]
            simp only [opB, asVar, kd, gt, List.getElem?_cons_zero, List.getElem?_cons_succ, ER.bind, fin2, fetch, Option.map, Sl.d, dt_notin, hg, Option.isSome, bl?, Bool.not_false, ER.test, if_true, ER.out]
            rw [execs_nx (E1 := [some (.val (dT tf)), (some (.val (.int ((many : Nat) : Int)))), (some (.val (.int (((q + 1) : Nat) : Int)))), (some (.val (.int ((least : Nat) : Int)))), some (.ref (.dt ks vs)), some (.own (.lst (([] : List Nat).map nI))), none, none]), execs_nx (E1 := [some (.val (dT tf)), (some (.val (.int ((many : Nat) : Int)))), (some (.val (.int (((q + 1) : Nat) : Int)))), (some (.val (.int ((least : Nat) : Int)))), some (.ref (.dt ks1 vs1)), some (.own (.lst ((toldL tf q many (List.range' least (many + 1 - least))).map nI))), z6, z7]), execs_nx, execs_end]
            · rw [exec, ev]
              cases hq : mn? (toldL tf q many (List.range' least (many + 1 - least))) with
              | none =>
                rw [hq] at hcd
                rw [mn_none] at hq
                rw [hq, hcd]
                simp only [tst, truthOf, opB, asVar, gt, List.getElem?_cons_zero, List.getElem?_cons_succ, fin1, fetch, Option.map, Sl.d, truth, List.map_nil, List.isEmpty, Bool.not_true, bl?, ER.test, ER.bind, Bool.false_eq_true, if_false, ev, ER.out, tgtO, tgt, Out.only, kd, dt_set hs, putS, oI]
                rfl
              | some a =>
                rw [hq] at hcd
                rw [hcd]
                have ne : (toldL tf q many (List.range' least (many + 1 - least))).map nI ≠ [] := fun e => by
                  rw [List.map_eq_nil_iff] at e
                  rw [e] at hq
                  cases hq
                have ne' : (!((toldL tf q many (List.range' least (many + 1 - least))).map nI).isEmpty) = true := by
                  cases hh : (toldL tf q many (List.range' least (many + 1 - least))).map nI with
                  | nil => exact absurd hh ne
                  | cons _ _ => rfl
                simp only [tst, truthOf, opB, asVar, gt, List.getElem?_cons_zero, List.getElem?_cons_succ, fin1, fetch, Option.map, Sl.d, truth, ne', bl?, ER.test, ER.bind, if_true, ev, pr1_min hq, ER.out, tgtO, tgt, Out.only, kd, dt_set hs, putS, oI]
                rfl
            · rw [exec, walk]
              have e2 : ((many : Int) + 1) = ((many + 1 : Nat) : Int) := by omega
              have hg : rgOk (least : Int) ((many + 1 : Nat) : Int) = true := by simp [rgOk]; omega
              simp only [opN, ev, opB, asVar, take, gt, List.getElem?_cons_zero, List.getElem?_cons_succ, ER.bind, fin2, fetch, Option.map, Sl.d, pr2, e2, hg, if_true, IR.for_, rangeD_nat, g]
              rfl
            · simp [execs, exec, evos, evs, args, argV, argD, AR.bind, AR.call, back, ev, tst, opB, truthOf, gt, take, asVar, fin1, fin2, fetch, pr1, pr2, cmpD, bl?, truth, Sl.d, tgt, tgts, tgtOs, tgtO, storeS, locked, Out.only, Out.then, ER.out, ER.bind, ER.test, constOf, isTy, walk, opI, opN, isMut, isLst, lockS, unlockS, unlockAll, rows, IR.for_, IR.comp, IR.calm, calmE, lastPs, lastH, putS, atD, finM]
          · have := dput_le (ks := ks1) (x := kK many (q + 1) least)
            show _ ≤ ks.length + (1 + 13 * cost q)
            omega
end Law
namespace Law
open Rx
def tN (r : List Nat) : D := .tup (r.map nI)
theorem rows_len : ∀ (q many least : Nat), many ≤ 12 → 1 ≤ least → (rowsL q many least).length ≤ 14 ^ q ∧ ∀ r ∈ rowsL q many least, r.length ≤ q
  | 0, many, least, _, _ => by
    unfold rowsL
    split <;> simp
  | q + 1, many, least, hm, hl => by
    unfold rowsL
    split
    · refine ⟨by simp only [List.length_singleton]; exact Nat.one_le_pow _ _ (by omega), by simp⟩
    · have key : ∀ fs : List Nat, (∀ f ∈ fs, 1 ≤ f) → (fs.flatMap fun f => (rowsL q (many - f) f).map (f :: ·)).length ≤ fs.length * 14 ^ q := fun fs => by
        induction fs with
        | nil => simp
        | cons f fs ih =>
          intro h
          have i1 := ih fun x m => h x (by simp [m])
          have i2 := (rows_len q (many - f) f (by omega) (h f (by simp))).1
          simp only [List.flatMap_cons, List.length_append, List.length_map, List.length_cons, Nat.succ_mul]
          omega
      have hf : ∀ f ∈ List.range' least (many + 1 - least), 1 ≤ f := fun f m => by
        have := (List.mem_range'_1.mp m).1
        omega
      refine ⟨Nat.le_trans (key _ hf) ?_, fun r hr => ?_⟩
      · rw [Nat.pow_succ, Nat.mul_comm]
        exact Nat.mul_le_mul_left _ (by simp; omega)
      · obtain ⟨f, m, hr⟩ := List.mem_flatMap.mp hr
        obtain ⟨r', hr', rfl⟩ := List.mem_map.mp hr
        have := (rows_len q (many - f) f (by omega) (hf f m)).2 r' hr'
        simp
        omega
theorem lrows_comp (F) {f q : Nat} {x0 x1 x2 x3 z5 : Option Sl} {rs : List (List Nat)} (h : ∀ r ∈ rs, r.length ≤ 1000) (hz : rs.length ≤ SZ) : compL [5] (tgt F G (.nm 5)) (fun E => .ok false (.bl true) E) (ev F G b24_0) (rs.map tN) [] [x0, x1, x2, x3, (some (.val (.int ((f : Nat) : Int)))), z5] = .ok true (.lst ((rs.map (f :: ·)).map tN)) [x0, x1, x2, x3, (some (.val (.int ((f : Nat) : Int)))), none] := by
  rw [comp_all (f := tN) (g := fun r => tN (f :: r)) (fun r hr => ?_) hz, List.map_map]
  · rfl
  · have hs : 1 + r.length ≤ SZ := Nat.le_trans (Nat.add_le_add_left (h r hr) 1) (by decide)
    refine ⟨[x0, x1, x2, x3, (some (.val (.int ((f : Nat) : Int)))), some (.val (tN r))], false, [x0, x1, x2, x3, (some (.val (.int ((f : Nat) : Int)))), some (.val (tN r))], by simp [execs, exec, evos, evs, args, argV, argD, AR.bind, AR.call, back, ev, tst, opB, truthOf, gt, take, asVar, fin1, fin2, fetch, pr1, pr2, cmpD, bl?, truth, Sl.d, tgt, tgts, tgtOs, tgtO, storeS, locked, Out.only, Out.then, ER.out, ER.bind, ER.test, constOf, isTy, walk, opI, opN, isMut, isLst, lockS, unlockS, unlockAll, rows, IR.for_, IR.comp, IR.calm, calmE, lastPs, lastH, putS, atD, finM, wipeE], ?_, by simp [wipeE], by simp [wipeE]⟩
    simp [b24_0, execs, exec, evos, evs, args, argV, argD, AR.bind, AR.call, back, ev, tst, opB, truthOf, gt, take, asVar, fin1, fin2, fetch, pr1, pr2, cmpD, bl?, truth, Sl.d, tgt, tgts, tgtOs, tgtO, storeS, locked, Out.only, Out.then, ER.out, ER.bind, ER.test, constOf, isTy, walk, opI, opN, isMut, isLst, lockS, unlockS, unlockAll, rows, IR.for_, IR.comp, IR.calm, calmE, lastPs, lastH, putS, atD, finM, tN, hs, nI]
theorem lrows_turn {k q many f : Nat} (hq : q ≤ 3) (hm : many ≤ 12) (h1 : 1 ≤ f) (h2 : f ≤ many) {F : Nat → List Sl → CR} (hF : ∀ many least, many ≤ 12 → 1 ≤ least → least ≤ 100 → F 24 [.val (.int (many : Nat)), .val (.int (q : Nat)), .val (.int (least : Nat))] = .ok true (.lst ((rowsL q many least).map tN)) [none, none, none])
    {acc : List (List Nat)} (ha : acc.length + 14 ^ q ≤ 1000000) {x2 z5 : Option Sl} (c5 : Cm z5) :
    execs F G b24_1 [(some (.val (.int ((many : Nat) : Int)))), (some (.val (.int (((q + 1) : Nat) : Int)))), x2, some (.own (.lst (acc.map tN))), (some (.val (.int ((f : Nat) : Int)))), z5] = .nx [(some (.val (.int ((many : Nat) : Int)))), (some (.val (.int (((q + 1) : Nat) : Int)))), x2, some (.own (.lst ((acc ++ (rowsL q (many - f) f).map (f :: ·)).map tN))), (some (.val (.int ((f : Nat) : Int)))), z5] := by
  have q1 := hF (many - f) f (by omega) h1 (by omega)
  obtain ⟨l1, l2⟩ := rows_len q (many - f) f (by omega) h1
  have e1 : (many : Int) - (f : Int) = ((many - f : Nat) : Int) := by omega
  have e2 : (((q + 1 : Nat) : Int) - 1) = (q : Int) := by omega
  have hz : (rowsL q (many - f) f).length ≤ SZ := Nat.le_trans (show _ ≤ 1000000 by omega) (by decide)
  have hc := lrows_comp F (f := f) (q := q) (x0 := (some (.val (.int ((many : Nat) : Int))))) (x1 := (some (.val (.int (((q + 1) : Nat) : Int))))) (x2 := x2) (x3 := some (.own (.lst (acc.map tN)))) (z5 := z5) (rs := rowsL q (many - f) f) (fun r hr => by have := l2 r hr; omega) hz
  have hz2 : acc.length + (rowsL q (many - f) f).length ≤ SZ := Nat.le_trans (show _ ≤ 1000000 by omega) (by decide)
  rw [b24_1, execs_nx, execs_end]
  rw [exec, ev]
  simp only [opB, asVar, gt, List.getElem?_cons_zero, List.getElem?_cons_succ]
  rw [ev, walk]
  simp only [opI, asVar]
  rw [ev]
  simp only [args, asVar, argV, argD, gt, List.getElem?_cons_zero, List.getElem?_cons_succ, AR.bind, ev, opB, ER.bind, fin2, fetch, Option.map, Sl.d, pr2, e1, e2, AR.call, q1, back, rows, IR.comp]
  have hcal : calmE [(some (.val (.int ((many : Nat) : Int)))), (some (.val (.int (((q + 1) : Nat) : Int)))), x2, some (.own (.lst (acc.map tN))), (some (.val (.int ((f : Nat) : Int)))), z5] [5] = true := by
    rcases c5 with rfl | ⟨d, rfl⟩ <;> rfl
  rw [hcal]
  simp only [if_true, hc, unlockAll, restE, List.length_map, hz2, ER.out, tgtO, storeS, locked, gt]
  rcases c5 with rfl | ⟨d, rfl⟩ <;> simp [-List.map_map, gt, Out.only, Sl.d, hz2]
theorem lrows_loop {q many : Nat} (hq : q ≤ 3) (hm : many ≤ 12) {F : Nat → List Sl → CR} (hF : ∀ many least, many ≤ 12 → 1 ≤ least → least ≤ 100 → F 24 [.val (.int (many : Nat)), .val (.int (q : Nat)), .val (.int (least : Nat))] = .ok true (.lst ((rowsL q many least).map tN)) [none, none, none]) {x2 : Option Sl} :
    ∀ (n i : Nat) (acc : List (List Nat)) (z4 z5 : Option Sl), 1 ≤ i → i + n ≤ many + 1 → acc.length + n * 14 ^ q ≤ 1000000 → Cm z4 → Cm z5 →
    ∃ z4' z5', forL (tgt F G (.nm 4)) (execs F G b24_1) ((List.range' i n).map nI) [(some (.val (.int ((many : Nat) : Int)))), (some (.val (.int (((q + 1) : Nat) : Int)))), x2, some (.own (.lst (acc.map tN))), z4, z5] = .nx [(some (.val (.int ((many : Nat) : Int)))), (some (.val (.int (((q + 1) : Nat) : Int)))), x2, some (.own (.lst ((acc ++ (List.range' i n).flatMap fun f => (rowsL q (many - f) f).map (f :: ·)).map tN))), z4', z5']
  | 0, i, acc, z4, z5, _, _, _, _, _ => ⟨z4, z5, by simp [forL]⟩
  | n + 1, i, acc, z4, z5, h1, h2, ha, c4, c5 => by
    rw [Nat.succ_mul] at ha
    have g1 : tgt F G (.nm 4) (nI i) [(some (.val (.int ((many : Nat) : Int)))), (some (.val (.int (((q + 1) : Nat) : Int)))), x2, some (.own (.lst (acc.map tN))), z4, z5] = .nx [(some (.val (.int ((many : Nat) : Int)))), (some (.val (.int (((q + 1) : Nat) : Int)))), x2, some (.own (.lst (acc.map tN))), (some (.val (.int ((i : Nat) : Int)))), z5] := by
      rcases c4 with rfl | ⟨d, rfl⟩ <;> simp [execs, exec, evos, evs, args, argV, argD, AR.bind, AR.call, back, ev, tst, opB, truthOf, gt, take, asVar, fin1, fin2, fetch, pr1, pr2, cmpD, bl?, truth, Sl.d, tgt, tgts, tgtOs, tgtO, storeS, locked, Out.only, Out.then, ER.out, ER.bind, ER.test, constOf, isTy, walk, opI, opN, isMut, isLst, lockS, unlockS, unlockAll, rows, IR.for_, IR.comp, IR.calm, calmE, lastPs, lastH, putS, atD, finM, nI]
    have g2 := lrows_turn (k := 0) hq hm h1 (by omega) hF (acc := acc) (by omega) (x2 := x2) c5
    have l1 := (rows_len q (many - i) i (by omega) h1).1
    obtain ⟨z4', z5', g⟩ := lrows_loop hq hm hF (x2 := x2) n (i + 1) (acc ++ (rowsL q (many - i) i).map (i :: ·)) (some (.val (.int ((i : Nat) : Int)))) z5 (by omega) (by omega) (by simp; omega) (.inr ⟨_, rfl⟩) c5
    refine ⟨z4', z5', ?_⟩
    rw [List.range'_succ, List.map_cons, forL_cons g1 g2, g, List.flatMap_cons, List.append_assoc]
theorem c_lrows (k : Nat) : ∀ q, q ≤ 4 → ∀ many least, many ≤ 12 → 1 ≤ least → least ≤ 100 → callK T G (k + q + 1) 24 [.val (.int (many : Nat)), .val (.int (q : Nat)), .val (.int (least : Nat))] = .ok true (.lst ((rowsL q many least).map tN)) [none, none, none]
  | q, hq, many, least, hm, hl, hl2 => by
    by_cases h0 : many = 0
    · subst h0
      have e : rowsL q 0 least = [[]] := by cases q <;> rfl
      refine (run_rt (n := 3) (m := 6) (b := b24) rfl rfl (o := true) (E1 := [(some (.val (.int ((0 : Nat) : Int)))), (some (.val (.int ((q : Nat) : Int)))), (some (.val (.int ((least : Nat) : Int)))), none, none, none]) ?_).trans rfl
      show execs _ G b24 [(some (.val (.int ((0 : Nat) : Int)))), (some (.val (.int ((q : Nat) : Int)))), (some (.val (.int ((least : Nat) : Int)))), none, none, none] = _
      rw [b24, execs_rt (o := true)]
      simp [execs, exec, evos, evs, args, argV, argD, AR.bind, AR.call, back, ev, tst, opB, truthOf, gt, take, asVar, fin1, fin2, fetch, pr1, pr2, cmpD, bl?, truth, Sl.d, tgt, tgts, tgtOs, tgtO, storeS, locked, Out.only, Out.then, ER.out, ER.bind, ER.test, constOf, isTy, walk, opI, opN, isMut, isLst, lockS, unlockS, unlockAll, rows, IR.for_, IR.comp, IR.calm, calmE, lastPs, lastH, putS, atD, finM, plain, eqv, e, tN]
    · have hb : ((many : Int) == 0) = false := by simpa using h0
      have s1 : ∀ F : Nat → List Sl → CR, exec F G (.ite (.cmp .eq (.var 0) (.cst (.int 0))) (.cons (.ret (.lst (.cons (.tup .nil) .nil))) .nil) .nil) [(some (.val (.int ((many : Nat) : Int)))), (some (.val (.int ((q : Nat) : Int)))), (some (.val (.int ((least : Nat) : Int)))), none, none, none] = .nx [(some (.val (.int ((many : Nat) : Int)))), (some (.val (.int ((q : Nat) : Int)))), (some (.val (.int ((least : Nat) : Int)))), none, none, none] := fun F => by
        simp [execs, exec, evos, evs, args, argV, argD, AR.bind, AR.call, back, ev, tst, opB, truthOf, gt, take, asVar, fin1, fin2, fetch, pr1, pr2, cmpD, bl?, truth, Sl.d, tgt, tgts, tgtOs, tgtO, storeS, locked, Out.only, Out.then, ER.out, ER.bind, ER.test, constOf, isTy, walk, opI, opN, isMut, isLst, lockS, unlockS, unlockAll, rows, IR.for_, IR.comp, IR.calm, calmE, lastPs, lastH, putS, atD, finM, plain, eqv, hb]
      have s2 : ∀ F : Nat → List Sl → CR, exec F G (.asg (.nm 3) (.lst .nil)) [(some (.val (.int ((many : Nat) : Int)))), (some (.val (.int ((q : Nat) : Int)))), (some (.val (.int ((least : Nat) : Int)))), none, none, none] = .nx [(some (.val (.int ((many : Nat) : Int)))), (some (.val (.int ((q : Nat) : Int)))), (some (.val (.int ((least : Nat) : Int)))), some (.own (.lst (([] : List (List Nat)).map tN))), none, none] := fun F => by
        simp [execs, exec, evos, evs, args, argV, argD, AR.bind, AR.call, back, ev, tst, opB, truthOf, gt, take, asVar, fin1, fin2, fetch, pr1, pr2, cmpD, bl?, truth, Sl.d, tgt, tgts, tgtOs, tgtO, storeS, locked, Out.only, Out.then, ER.out, ER.bind, ER.test, constOf, isTy, walk, opI, opN, isMut, isLst, lockS, unlockS, unlockAll, rows, IR.for_, IR.comp, IR.calm, calmE, lastPs, lastH, putS, atD, finM]
      have fin : ∀ (F : Nat → List Sl → CR) rs z4 z5, execs F G (.cons (.ret (.var 3)) .nil) [(some (.val (.int ((many : Nat) : Int)))), (some (.val (.int ((q : Nat) : Int)))), (some (.val (.int ((least : Nat) : Int)))), some (.own (.lst rs)), z4, z5] = .rt true (.lst rs) [(some (.val (.int ((many : Nat) : Int)))), (some (.val (.int ((q : Nat) : Int)))), (some (.val (.int ((least : Nat) : Int)))), none, z4, z5] := fun F rs z4 z5 => by
        rw [execs_rt (o := true)]
        simp [execs, exec, evos, evs, args, argV, argD, AR.bind, AR.call, back, ev, tst, opB, truthOf, gt, take, asVar, fin1, fin2, fetch, pr1, pr2, cmpD, bl?, truth, Sl.d, tgt, tgts, tgtOs, tgtO, storeS, locked, Out.only, Out.then, ER.out, ER.bind, ER.test, constOf, isTy, walk, opI, opN, isMut, isLst, lockS, unlockS, unlockAll, rows, IR.for_, IR.comp, IR.calm, calmE, lastPs, lastH, putS, atD, finM]
      cases q with
      | zero =>
        refine (run_rt (n := 3) (m := 6) (b := b24) rfl rfl (o := true) (E1 := [(some (.val (.int ((many : Nat) : Int)))), (some (.val (.int ((0 : Nat) : Int)))), (some (.val (.int ((least : Nat) : Int)))), none, none, none]) ?_).trans rfl
        show execs _ G b24 [(some (.val (.int ((many : Nat) : Int)))), (some (.val (.int ((0 : Nat) : Int)))), (some (.val (.int ((least : Nat) : Int)))), none, none, none] = _
        have e : rowsL 0 many least = [] := by simp [rowsL, h0]
        rw [b24, execs_nx (s1 _), execs_nx (s2 _), execs_nx, fin, e]
        simp [execs, exec, evos, evs, args, argV, argD, AR.bind, AR.call, back, ev, tst, opB, truthOf, gt, take, asVar, fin1, fin2, fetch, pr1, pr2, cmpD, bl?, truth, Sl.d, tgt, tgts, tgtOs, tgtO, storeS, locked, Out.only, Out.then, ER.out, ER.bind, ER.test, constOf, isTy, walk, opI, opN, isMut, isLst, lockS, unlockS, unlockAll, rows, IR.for_, IR.comp, IR.calm, calmE, lastPs, lastH, putS, atD, finM, forL, Out.map]
      | succ q =>
        have hF := c_lrows k q (by omega)
        have e : rowsL (q + 1) many least = (List.range' least (many + 1 - least)).flatMap fun f => (rowsL q (many - f) f).map (f :: ·) := by rw [rowsL, if_neg h0]
        have hp : 14 ^ q ≤ 14 ^ 3 := Nat.pow_le_pow_right (by omega) (by omega)
        have hp2 : (many + 1 - least) * 14 ^ q ≤ 13 * 14 ^ 3 := Nat.mul_le_mul (by omega) hp
        have run : ∃ z4 z5, forL (tgt (callK T G (k + q + 1)) G (.nm 4)) (execs (callK T G (k + q + 1)) G b24_1) ((List.range' least (many + 1 - least)).map nI) [(some (.val (.int ((many : Nat) : Int)))), (some (.val (.int (((q + 1) : Nat) : Int)))), (some (.val (.int ((least : Nat) : Int)))), some (.own (.lst (([] : List (List Nat)).map tN))), none, none] = .nx [(some (.val (.int ((many : Nat) : Int)))), (some (.val (.int (((q + 1) : Nat) : Int)))), (some (.val (.int ((least : Nat) : Int)))), some (.own (.lst ((rowsL (q + 1) many least).map tN))), z4, z5] := by
          by_cases hlm : least ≤ many + 1
          · obtain ⟨z4, z5, g⟩ := lrows_loop (many := many) (by omega) hm hF (x2 := (some (.val (.int ((least : Nat) : Int))))) (many + 1 - least) least [] none none hl (by omega) (by simp; omega) (.inl rfl) (.inl rfl)
            rw [List.nil_append, ← e] at g
            exact ⟨z4, z5, g⟩
          · have hn : many + 1 - least = 0 := by omega
            refine ⟨none, none, ?_⟩
            rw [e, hn]
            simp [forL]
        obtain ⟨z4, z5, g⟩ := run
        refine (run_rt (n := 3) (m := 6) (b := b24) rfl rfl (o := true) (E1 := [(some (.val (.int ((many : Nat) : Int)))), (some (.val (.int (((q + 1) : Nat) : Int)))), (some (.val (.int ((least : Nat) : Int)))), none, z4, z5]) ?_).trans rfl
        show execs (callK T G (k + q + 1)) G b24 [(some (.val (.int ((many : Nat) : Int)))), (some (.val (.int (((q + 1) : Nat) : Int)))), (some (.val (.int ((least : Nat) : Int)))), none, none, none] = _
        rw [b24, execs_nx (s1 _), execs_nx (s2 _), execs_nx, fin]
        have e2 : ((many : Int) + 1) = ((many + 1 : Nat) : Int) := by omega
        have hg : rgOk (least : Int) ((many + 1 : Nat) : Int) = true := by simp [rgOk]; omega
        have hq0 : (0 : Int) < ((q + 1 : Nat) : Int) := by omega
        rw [exec, walk]
        simp only [opI, asVar]
        rw [ev, tst]
        simp only [opB, asVar, ev, gt, List.getElem?_cons_zero, List.getElem?_cons_succ, ER.bind, fin2, fetch, Option.map, Sl.d, cmpD, bl?, hq0, decide_true, ER.test, if_true, take, pr2, e2, hg, rows, IR.for_, rangeD_nat, g]
        rfl
end Law
namespace Law
open Rx
/-- a first count that leads to the best -/
def tst6 (tf : Tf) (q many best f : Nat) : Bool := match cd tf q (many - f) f with
  | some r => decide (due tf f + r = best)
  | none => false
theorem six_turn {tf : Tf} {q many least best f : Nat} {F : Nat → List Sl → CR} (hF : Call7 tf F q) (hd : F 3 [.val (dT tf), .val (.int (f : Nat))] = .ok false (.int (due tf f : Nat)) [none, none])
    {ks : List (List L2.Key)} {vs : List D} (hm : many ≤ 12) (h1 : 1 ≤ f) (h2 : f ≤ many) (hM : Mem tf ks vs) (hz : ks.length + cost q ≤ 1000000) {fd : List Nat} (ht : fd.length < 1000) {z7 z8 : Option Sl} (c7 : Cm z7) (c8 : Cm z8) :
    ∃ ks' vs', Mem tf ks' vs' ∧ ks'.length ≤ ks.length + cost q ∧ tgt F G (.nm 7) (nI f) [some (.val (dT tf)), (some (.val (.int ((many : Nat) : Int)))), (some (.val (.int (((q + 1) : Nat) : Int)))), some (.own (.dt ks vs)), (some (.val (.int ((best : Nat) : Int)))), some (.val (tN fd)), (some (.val (.int ((least : Nat) : Int)))), z7, z8] = .nx [some (.val (dT tf)), (some (.val (.int ((many : Nat) : Int)))), (some (.val (.int (((q + 1) : Nat) : Int)))), some (.own (.dt ks vs)), (some (.val (.int ((best : Nat) : Int)))), some (.val (tN fd)), (some (.val (.int ((least : Nat) : Int)))), (some (.val (.int ((f : Nat) : Int)))), z8] ∧
      execs F G b6_0 [some (.val (dT tf)), (some (.val (.int ((many : Nat) : Int)))), (some (.val (.int (((q + 1) : Nat) : Int)))), some (.own (.dt ks vs)), (some (.val (.int ((best : Nat) : Int)))), some (.val (tN fd)), (some (.val (.int ((least : Nat) : Int)))), (some (.val (.int ((f : Nat) : Int)))), z8] =
        if tst6 tf q many best f then .bk [some (.val (dT tf)), (some (.val (.int (((many - f) : Nat) : Int)))), (some (.val (.int ((q : Nat) : Int)))), some (.own (.dt ks' vs')), (some (.val (.int ((((cd tf q (many - f) f).getD 0) : Nat) : Int)))), some (.val (tN (fd ++ [f]))), (some (.val (.int ((f : Nat) : Int)))), (some (.val (.int ((f : Nat) : Int)))), (some (.val (oI (cd tf q (many - f) f))))]
        else .nx [some (.val (dT tf)), (some (.val (.int ((many : Nat) : Int)))), (some (.val (.int (((q + 1) : Nat) : Int)))), some (.own (.dt ks' vs')), (some (.val (.int ((best : Nat) : Int)))), some (.val (tN fd)), (some (.val (.int ((least : Nat) : Int)))), (some (.val (.int ((f : Nat) : Int)))), (some (.val (oI (cd tf q (many - f) f))))] := by
  obtain ⟨ks', vs', q1, q2, q3⟩ := hF (many - f) f ks vs (by omega) h1 hM hz
  refine ⟨ks', vs', q2, q3, by rcases c7 with rfl | ⟨d, rfl⟩ <;> simp [execs, exec, evos, evs, args, argV, argD, AR.bind, AR.call, back, ev, tst, opB, truthOf, gt, take, asVar, fin1, fin2, fetch, pr1, pr2, cmpD, bl?, truth, Sl.d, tgt, tgts, tgtOs, tgtO, storeS, locked, Out.only, Out.then, ER.out, ER.bind, ER.test, constOf, isTy, walk, opI, opN, isMut, isLst, lockS, unlockS, unlockAll, rows, IR.for_, IR.comp, IR.calm, calmE, lastPs, lastH, putS, atD, finM, nI], ?_⟩
  have e1 : (many : Int) - (f : Int) = ((many - f : Nat) : Int) := by omega
  have e2 : (((q + 1 : Nat) : Int) - 1) = (q : Int) := by omega
  have e2' : ((q : Int) + 1 - 1) = (q : Int) := by omega
  have hs : fd.length + 1 ≤ SZ := Nat.le_trans (show _ ≤ 1000 by omega) (by decide)
  rw [b6_0, execs_nx (E1 := [some (.val (dT tf)), (some (.val (.int ((many : Nat) : Int)))), (some (.val (.int (((q + 1) : Nat) : Int)))), some (.own (.dt ks' vs')), (some (.val (.int ((best : Nat) : Int)))), some (.val (tN fd)), (some (.val (.int ((least : Nat) : Int)))), (some (.val (.int ((f : Nat) : Int)))), (some (.val (oI (cd tf q (many - f) f))))])]
  · unfold tst6
    cases hc : cd tf q (many - f) f with
    | none => simp [execs, exec, evos, evs, args, argV, argD, AR.bind, AR.call, back, ev, tst, opB, truthOf, gt, take, asVar, fin1, fin2, fetch, pr1, pr2, cmpD, bl?, truth, Sl.d, tgt, tgts, tgtOs, tgtO, storeS, locked, Out.only, Out.then, ER.out, ER.bind, ER.test, constOf, isTy, walk, opI, opN, isMut, isLst, lockS, unlockS, unlockAll, rows, IR.for_, IR.comp, IR.calm, calmE, lastPs, lastH, putS, atD, finM, oI]
    | some r =>
      by_cases hb : due tf f + r = best
      · have hb2 : ((due tf f : Int) + (r : Int) == (best : Int)) = true := by
          have : (due tf f : Int) + (r : Int) = (best : Int) := by omega
          simpa using this
        simp [-List.map_map, execs, exec, evos, evs, args, argV, argD, AR.bind, AR.call, back, ev, tst, opB, truthOf, gt, take, asVar, fin1, fin2, fetch, pr1, pr2, cmpD, bl?, truth, Sl.d, tgt, tgts, tgtOs, tgtO, storeS, locked, Out.only, Out.then, ER.out, ER.bind, ER.test, constOf, isTy, walk, opI, opN, isMut, isLst, lockS, unlockS, unlockAll, rows, IR.for_, IR.comp, IR.calm, calmE, lastPs, lastH, putS, atD, finM, oI, hd, plain, eqv, hb, hb2, tN, hs, e1, e2', nI]
      · have hb2 : ((due tf f : Int) + (r : Int) == (best : Int)) = false := by
          have : ¬ (due tf f : Int) + (r : Int) = (best : Int) := by omega
          simpa using this
        simp [-List.map_map, execs, exec, evos, evs, args, argV, argD, AR.bind, AR.call, back, ev, tst, opB, truthOf, gt, take, asVar, fin1, fin2, fetch, pr1, pr2, cmpD, bl?, truth, Sl.d, tgt, tgts, tgtOs, tgtO, storeS, locked, Out.only, Out.then, ER.out, ER.bind, ER.test, constOf, isTy, walk, opI, opN, isMut, isLst, lockS, unlockS, unlockAll, rows, IR.for_, IR.comp, IR.calm, calmE, lastPs, lastH, putS, atD, finM, oI, hd, plain, eqv, hb, hb2]
  · rw [exec, ev]
    simp only [args, asVar, argV, argD, gt, List.getElem?_cons_zero, List.getElem?_cons_succ, AR.bind, ev, opB, ER.bind, fin2, fetch, Option.map, Sl.d, pr2, e1, e2, List.set_cons_succ, List.set_cons_zero, AR.call, q1, back]
    rcases c8 with rfl | ⟨d, rfl⟩ <;> simp [ER.out, tgtO, storeS, locked, gt, Out.only]
theorem six_loop {tf : Tf} {q many least best f0 : Nat} {F : Nat → List Sl → CR} (hF : Call7 tf F q) (hd : ∀ f ≤ 1000, F 3 [.val (dT tf), .val (.int (f : Nat))] = .ok false (.int (due tf f : Nat)) [none, none]) (hm : many ≤ 12) {fd : List Nat} (ht : fd.length < 1000) :
    ∀ (n i : Nat) (ks : List (List L2.Key)) (vs : List D) (z7 z8 : Option Sl), (List.range' i n).find? (tst6 tf q many best) = some f0 → 1 ≤ i → i + n ≤ many + 1 → Mem tf ks vs → ks.length + n * cost q ≤ 1000000 → Cm z7 → Cm z8 →
    ∃ ks' vs', Mem tf ks' vs' ∧ ks'.length ≤ ks.length + n * cost q ∧ forL (tgt F G (.nm 7)) (execs F G b6_0) ((List.range' i n).map nI) [some (.val (dT tf)), (some (.val (.int ((many : Nat) : Int)))), (some (.val (.int (((q + 1) : Nat) : Int)))), some (.own (.dt ks vs)), (some (.val (.int ((best : Nat) : Int)))), some (.val (tN fd)), (some (.val (.int ((least : Nat) : Int)))), z7, z8] =
      .nx [some (.val (dT tf)), (some (.val (.int (((many - f0) : Nat) : Int)))), (some (.val (.int ((q : Nat) : Int)))), some (.own (.dt ks' vs')), (some (.val (.int ((((cd tf q (many - f0) f0).getD 0) : Nat) : Int)))), some (.val (tN (fd ++ [f0]))), (some (.val (.int ((f0 : Nat) : Int)))), (some (.val (.int ((f0 : Nat) : Int)))), (some (.val (oI (cd tf q (many - f0) f0))))]
  | 0, i, ks, vs, z7, z8, hf, _, _, _, _, _, _ => by cases hf
  | n + 1, i, ks, vs, z7, z8, hf, h1, h2, hM, hz, c7, c8 => by
    rw [Nat.succ_mul] at hz
    obtain ⟨ks1, vs1, m1, m2, g1, g2⟩ := six_turn (least := least) (best := best) hF (hd i (by omega)) hm h1 (by omega) hM (by omega) ht c7 c8
    rw [List.range'_succ] at hf ⊢
    rw [Nat.succ_mul, List.map_cons]
    cases ht : tst6 tf q many best i with
    | true =>
      rw [List.find?_cons_of_pos ht] at hf
      cases hf
      rw [ht, if_pos rfl] at g2
      refine ⟨ks1, vs1, m1, by omega, ?_⟩
      rw [forL, g1]
      simp only [g2]
    | false =>
      rw [List.find?_cons_of_neg (by simp [ht])] at hf
      rw [ht, if_neg (by simp)] at g2
      obtain ⟨ks2, vs2, i1, i2, i3⟩ := six_loop hF hd hm ‹fd.length < 1000› n (i + 1) ks1 vs1 (some (.val (.int ((i : Nat) : Int)))) (some (.val (oI (cd tf q (many - i) i)))) hf (by omega) (by omega) m1 (by omega) (.inr ⟨_, rfl⟩) (.inr ⟨_, rfl⟩)
      refine ⟨ks2, vs2, i1, by omega, ?_⟩
      rw [forL_cons g1 g2, i3]
/-- the first row with the least due -/
def row1 (tf : Tf) (q many least best : Nat) : Option (List Nat) := (rowsL q many least).find? fun r => decide (sd tf r = best)
theorem row_block {tf : Tf} {q many f best : Nat} (hb : ∀ r, cd tf q (many - f) f = some r → best ≤ due tf f + r) :
    ((rowsL q (many - f) f).map (f :: ·)).find? (fun r => decide (sd tf r = best)) = if tst6 tf q many best f then (row1 tf q (many - f) f ((cd tf q (many - f) f).getD 0)).map (f :: ·) else none := by
  rw [List.find?_map]
  have hsd : ∀ r, sd tf (f :: r) = due tf f + sd tf r := fun r => by simp [sd]
  cases hc : cd tf q (many - f) f with
  | none =>
    have : rowsL q (many - f) f = [] := by
      have := mn_none.mp hc
      simpa using this
    simp [this, tst6, hc]
  | some r0 =>
    have h0 := hb r0 hc
    obtain ⟨_, hmin⟩ := mn_some.mp hc
    by_cases ht : due tf f + r0 = best
    · have : tst6 tf q many best f = true := by simp [tst6, hc, ht]
      rw [if_pos this]
      unfold row1
      congr 2
      funext r
      simp only [Function.comp, hsd, Option.getD]
      congr 1
      apply propext
      omega
    · have : tst6 tf q many best f = false := by simp [tst6, hc, ht]
      rw [if_neg (by simp [this])]
      rw [List.find?_eq_none.mpr, Option.map_none]
      intro r hr
      have := hmin _ (List.mem_map_of_mem hr)
      simp [hsd]
      omega
theorem row_step {tf : Tf} {q many least best : Nat} (h0 : many ≠ 0) (h : cd tf (q + 1) many least = some best) : ∃ f0, (List.range' least (many + 1 - least)).find? (tst6 tf q many best) = some f0 ∧
    row1 tf (q + 1) many least best = (row1 tf q (many - f0) f0 ((cd tf q (many - f0) f0).getD 0)).map (f0 :: ·) ∧ ∃ r, cd tf q (many - f0) f0 = some r := by
  rw [cd_succ h0] at h
  obtain ⟨h1, h2⟩ := mn_some.mp h
  have hb : ∀ f ∈ List.range' least (many + 1 - least), ∀ r, cd tf q (many - f) f = some r → best ≤ due tf f + r := fun f hf r hr => by
    refine h2 _ (List.mem_filterMap.mpr ⟨f, hf, ?_⟩)
    rw [hr]; rfl
  have hrow : row1 tf (q + 1) many least best = (List.range' least (many + 1 - least)).findSome? fun f => if tst6 tf q many best f then (row1 tf q (many - f) f ((cd tf q (many - f) f).getD 0)).map (f :: ·) else none := by
    unfold row1
    rw [rowsL, if_neg h0, List.find?_flatMap]
    have cong : ∀ {α β : Type} {l : List α} {f g : α → Option β}, (∀ x ∈ l, f x = g x) → l.findSome? f = l.findSome? g := fun {α β l f g} hh => by
      induction l with
      | nil => rfl
      | cons a l ih => rw [List.findSome?_cons, List.findSome?_cons, hh a (by simp), ih fun x m => hh x (by simp [m])]
    exact cong fun f hf => row_block (hb f hf)
  obtain ⟨f, hf, hq⟩ := List.mem_filterMap.mp h1
  obtain ⟨r, hr, hbest⟩ := Option.map_eq_some_iff.mp hq
  have ht : tst6 tf q many best f = true := by simp [tst6, hr, hbest]
  cases hfind : (List.range' least (many + 1 - least)).find? (tst6 tf q many best) with
  | none => exact absurd ht (by simpa using List.find?_eq_none.mp hfind f hf)
  | some f0 =>
    refine ⟨f0, rfl, ?_, ?_⟩
    · rw [hrow]
      have gen : ∀ l : List Nat, l.find? (tst6 tf q many best) = some f0 → (l.findSome? fun f => if tst6 tf q many best f then (row1 tf q (many - f) f ((cd tf q (many - f) f).getD 0)).map (f :: ·) else none) = (row1 tf q (many - f0) f0 ((cd tf q (many - f0) f0).getD 0)).map (f0 :: ·) := fun l => by
        induction l with
        | nil => intro h; cases h
        | cons a l ih =>
          intro h
          cases ha : tst6 tf q many best a with
          | false =>
            rw [List.find?_cons_of_neg (by simp [ha])] at h
            rw [List.findSome?_cons, ha, if_neg (by simp), ih h]
          | true =>
            rw [List.find?_cons_of_pos ha] at h
            cases h
            rw [List.findSome?_cons, ha, if_pos rfl]
            have : ∃ x, row1 tf q (many - f0) f0 ((cd tf q (many - f0) f0).getD 0) = some x := by
              cases hc : cd tf q (many - f0) f0 with
              | none => simp [tst6, hc] at ha
              | some r0 =>
                obtain ⟨m, _⟩ := mn_some.mp hc
                obtain ⟨x, hx, e⟩ := List.mem_map.mp m
                unfold row1
                cases hh : (rowsL q (many - f0) f0).find? fun r => decide (sd tf r = r0) with
                | none => exact absurd e (by simpa using List.find?_eq_none.mp hh x hx)
                | some y => exact ⟨y, hh⟩
            obtain ⟨x, hx⟩ := this
            rw [hx]
            rfl
      exact gen _ hfind
    · have := List.find?_some hfind
      unfold tst6 at this
      cases hc : cd tf q (many - f0) f0 with
      | none => rw [hc] at this; cases this
      | some r => exact ⟨r, rfl⟩
def wc : Nat → Nat
  | 0 => 0
  | q + 1 => 13 * cost q + wc q
theorem six_while {tf : Tf} {F : Nat → List Sl → CR} (hd : ∀ f ≤ 1000, F 3 [.val (dT tf), .val (.int (f : Nat))] = .ok false (.int (due tf f : Nat)) [none, none]) :
    ∀ (q : Nat), (∀ p < q, Call7 tf F p) → ∀ (many least best : Nat) (fd : List Nat) (ks : List (List L2.Key)) (vs : List D) (z7 z8 : Option Sl), many ≤ 12 → 1 ≤ least → least ≤ 100 → cd tf q many least = some best → fd.length + q < 1000 → Mem tf ks vs → ks.length + wc q ≤ 1000000 → Cm z7 → Cm z8 →
    ∃ row n x1 x2 x3 x4 x6 x7 x8, row1 tf q many least best = some row ∧ whileN (tst F G (.cmp .gt (.var 1) (.cst (.int 0)))) (execs F G b6_1) n [some (.val (dT tf)), (some (.val (.int ((many : Nat) : Int)))), (some (.val (.int ((q : Nat) : Int)))), some (.own (.dt ks vs)), (some (.val (.int ((best : Nat) : Int)))), some (.val (tN fd)), (some (.val (.int ((least : Nat) : Int)))), z7, z8] = .nx [some (.val (dT tf)), x1, x2, x3, x4, some (.val (tN (fd ++ row))), x6, x7, x8]
  | q, hF, many, least, best, fd, ks, vs, z7, z8, hm, hl, hl2, hc, hf, hM, hz, c7, c8 => by
    by_cases h0 : many = 0
    · subst h0
      rw [cd_zero] at hc
      cases hc
      refine ⟨[], 1, (some (.val (.int ((0 : Nat) : Int)))), (some (.val (.int ((q : Nat) : Int)))), some (.own (.dt ks vs)), (some (.val (.int ((0 : Nat) : Int)))), (some (.val (.int ((least : Nat) : Int)))), z7, z8, by cases q <;> rfl, ?_⟩
      rw [List.append_nil]
      exact whileN_stop (o := false) (by simp [execs, exec, evos, evs, args, argV, argD, AR.bind, AR.call, back, ev, tst, opB, truthOf, gt, take, asVar, fin1, fin2, fetch, pr1, pr2, cmpD, bl?, truth, Sl.d, tgt, tgts, tgtOs, tgtO, storeS, locked, Out.only, Out.then, ER.out, ER.bind, ER.test, constOf, isTy, walk, opI, opN, isMut, isLst, lockS, unlockS, unlockAll, rows, IR.for_, IR.comp, IR.calm, calmE, lastPs, lastH, putS, atD, finM])
    · cases q with
      | zero => rw [cd_q0 h0] at hc; cases hc
      | succ q =>
        obtain ⟨f0, g1, g2, r, g3⟩ := row_step h0 hc
        have hmem := List.mem_range'_1.mp (List.mem_of_find?_eq_some g1)
        have hcost : (many + 1 - least) * cost q ≤ 13 * cost q := Nat.mul_le_mul_right _ (by omega)
        have hwc : ks.length + (13 * cost q + wc q) ≤ 1000000 := hz
        obtain ⟨ks1, vs1, m1, m2, g4⟩ := six_loop (least := least) (hF q (by omega)) hd hm (fd := fd) (by omega) (many + 1 - least) least ks vs z7 z8 g1 hl (by omega) hM (by omega) c7 c8
        rw [g3, Option.getD] at g4 g2
        obtain ⟨row, n, x1, x2, x3, x4, x6, x7, x8, i1, i2⟩ := six_while hd q (fun p hp => hF p (by omega)) (many - f0) f0 r (fd ++ [f0]) ks1 vs1 (some (.val (.int ((f0 : Nat) : Int)))) (some (.val (oI (some r)))) (by omega) (by omega) (by omega) g3 (by simp; omega) m1 (by omega) (.inr ⟨_, rfl⟩) (.inr ⟨_, rfl⟩)
        refine ⟨f0 :: row, n + 1, x1, x2, x3, x4, x6, x7, x8, by rw [g2, i1]; rfl, ?_⟩
        have e2 : ((many : Int) + 1) = ((many + 1 : Nat) : Int) := by omega
        have hg : rgOk (least : Int) ((many + 1 : Nat) : Int) = true := by simp [rgOk]; omega
        have hpos : 0 < many := by omega
        rw [whileN_step (o := false) (E1 := [some (.val (dT tf)), (some (.val (.int ((many : Nat) : Int)))), (some (.val (.int (((q + 1) : Nat) : Int)))), some (.own (.dt ks vs)), (some (.val (.int ((best : Nat) : Int)))), some (.val (tN fd)), (some (.val (.int ((least : Nat) : Int)))), z7, z8]) (E2 := [some (.val (dT tf)), (some (.val (.int (((many - f0) : Nat) : Int)))), (some (.val (.int ((q : Nat) : Int)))), some (.own (.dt ks1 vs1)), (some (.val (.int ((r : Nat) : Int)))), some (.val (tN (fd ++ [f0]))), (some (.val (.int ((f0 : Nat) : Int)))), (some (.val (.int ((f0 : Nat) : Int)))), (some (.val (oI (some r))))]) (by simp [execs, exec, evos, evs, args, argV, argD, AR.bind, AR.call, back, ev, tst, opB, truthOf, gt, take, asVar, fin1, fin2, fetch, pr1, pr2, cmpD, bl?, truth, Sl.d, tgt, tgts, tgtOs, tgtO, storeS, locked, Out.only, Out.then, ER.out, ER.bind, ER.test, constOf, isTy, walk, opI, opN, isMut, isLst, lockS, unlockS, unlockAll, rows, IR.for_, IR.comp, IR.calm, calmE, lastPs, lastH, putS, atD, finM, hpos]) (by
          rw [b6_1, execs_nx, execs_end]
          rw [exec, walk]
          simp only [opN, ev, opB, asVar, take, gt, List.getElem?_cons_zero, List.getElem?_cons_succ, ER.bind, fin2, fetch, Option.map, Sl.d, pr2, e2, hg, if_true, IR.for_, rangeD_nat, g4]
          rfl), i2]
        simp
/-- the first row with the least due, if any -/
def best1 (tf : Tf) (q many : Nat) : Option (List Nat) := match cd tf q many 1 with
  | some b => row1 tf q many 1 b
  | none => none
def oN : Option (List Nat) → D
  | some r => tN r
  | none => .non
theorem cost_le {q : Nat} (h : q ≤ 3) : cost q + wc q ≤ 10000 := by
  have : ∀ q < 4, cost q + wc q ≤ 10000 := by decide
  exact this q (by omega)
theorem c_parts {tf : Tf} (h : tf ≠ []) {k q many : Nat} (hq : q ≤ 3) (hm : many ≤ 12) : (cd tf q many 1 = none → callK T G (k + 7) 6 [.val (dT tf), .val (.int (many : Nat)), .val (.int (q : Nat))] = .ex "Missing" [none, none, none]) ∧
    (∀ b, cd tf q many 1 = some b → ∃ row, row1 tf q many 1 b = some row ∧ callK T G (k + 7) 6 [.val (dT tf), .val (.int (many : Nat)), .val (.int (q : Nat))] = .ok false (tN row) [none, none, none]) := by
  have hF : ∀ p ≤ 3, Call7 tf (callK T G (k + 6)) p := fun p hp => by
    have := c_cdue h (k + 3 - p) p
    rw [show k + 3 - p + p + 3 = k + 6 by omega] at this
    exact this
  have hd : ∀ f ≤ 1000, callK T G (k + 6) 3 [.val (dT tf), .val (.int (f : Nat))] = .ok false (.int (due tf f : Nat)) [none, none] := fun f hf => c_due (k := k + 4) h hf
  have hc := cost_le hq
  obtain ⟨ks, vs, q1, q2, q3⟩ := hF q hq many 1 [] [] hm (by omega) ⟨rfl, fun m q l d e => by cases e⟩ (by simp; omega)
  simp only [List.length_nil, Nat.zero_add] at q3
  have s1 : exec (callK T G (k + 6)) G (.asg (.nm 3) (.dict0 true)) [some (.val (dT tf)), (some (.val (.int ((many : Nat) : Int)))), (some (.val (.int ((q : Nat) : Int)))), none, none, none, none, none, none] = .nx [some (.val (dT tf)), (some (.val (.int ((many : Nat) : Int)))), (some (.val (.int ((q : Nat) : Int)))), some (.own (.dt [] [])), none, none, none, none, none] := by
    simp [execs, exec, evos, evs, args, argV, argD, AR.bind, AR.call, back, ev, tst, opB, truthOf, gt, take, asVar, fin1, fin2, fetch, pr1, pr2, cmpD, bl?, truth, Sl.d, tgt, tgts, tgtOs, tgtO, storeS, locked, Out.only, Out.then, ER.out, ER.bind, ER.test, constOf, isTy, walk, opI, opN, isMut, isLst, lockS, unlockS, unlockAll, rows, IR.for_, IR.comp, IR.calm, calmE, lastPs, lastH, putS, atD, finM]
  have s2 : exec (callK T G (k + 6)) G (.asg (.nm 4) (.call 7 (.cons (.var 0) (.cons (.var 1) (.cons (.var 2) (.cons (.cst (.int 1)) (.cons (.var 3) .nil))))))) [some (.val (dT tf)), (some (.val (.int ((many : Nat) : Int)))), (some (.val (.int ((q : Nat) : Int)))), some (.own (.dt [] [])), none, none, none, none, none] = .nx [some (.val (dT tf)), (some (.val (.int ((many : Nat) : Int)))), (some (.val (.int ((q : Nat) : Int)))), some (.own (.dt ks vs)), some (.val (oI (cd tf q many 1))), none, none, none, none] := by
    rw [show ((1 : Nat) : Int) = 1 from rfl] at q1
    rw [exec, ev]
    simp only [args, asVar, argV, argD, gt, List.getElem?_cons_zero, List.getElem?_cons_succ, AR.bind, ev, List.set_cons_succ, List.set_cons_zero, AR.call, q1, back]
    simp [ER.out, tgtO, storeS, locked, gt, Out.only]
  constructor
  · intro hn
    rw [hn] at s2
    have : execs (callK T G (k + 6)) G b6 [some (.val (dT tf)), (some (.val (.int ((many : Nat) : Int)))), (some (.val (.int ((q : Nat) : Int)))), none, none, none, none, none, none] = .ex "Missing" [some (.val (dT tf)), (some (.val (.int ((many : Nat) : Int)))), (some (.val (.int ((q : Nat) : Int)))), some (.own (.dt ks vs)), some (.val .non), none, none, none, none] := by
      rw [b6, execs_nx s1, execs_nx s2]
      simp [execs, exec, evos, evs, args, argV, argD, AR.bind, AR.call, back, ev, tst, opB, truthOf, gt, take, asVar, fin1, fin2, fetch, pr1, pr2, cmpD, bl?, truth, Sl.d, tgt, tgts, tgtOs, tgtO, storeS, locked, Out.only, Out.then, ER.out, ER.bind, ER.test, constOf, isTy, walk, opI, opN, isMut, isLst, lockS, unlockS, unlockAll, rows, IR.for_, IR.comp, IR.calm, calmE, lastPs, lastH, putS, atD, finM, oI]
    exact (run_ex (n := 3) (m := 9) (b := b6) rfl rfl this).trans rfl
  · intro b hb
    rw [hb] at s2
    have hk0 : ks.length + wc q ≤ 1000000 := by omega
    obtain ⟨row, n, x1, x2, x3, x4, x6, x7, x8, i1, i2⟩ := six_while hd q (fun p hp => hF p (by omega)) many 1 b [] ks vs none none hm (by omega) (by omega) hb (by simp; omega) q2 hk0 (.inl rfl) (.inl rfl)
    refine ⟨row, i1, ?_⟩
    rw [List.nil_append] at i2
    refine (run_rt (n := 3) (m := 9) (b := b6) rfl rfl (o := false) (E1 := [some (.val (dT tf)), x1, x2, x3, x4, some (.val (tN row)), x6, x7, x8]) ?_).trans rfl
    show execs (callK T G (k + 6)) G b6 [some (.val (dT tf)), (some (.val (.int ((many : Nat) : Int)))), (some (.val (.int ((q : Nat) : Int)))), none, none, none, none, none, none] = _
    rw [b6, execs_nx s1, execs_nx s2, execs_nx (E1 := [some (.val (dT tf)), (some (.val (.int ((many : Nat) : Int)))), (some (.val (.int ((q : Nat) : Int)))), some (.own (.dt ks vs)), (some (.val (.int ((b : Nat) : Int)))), none, none, none, none]), execs_nx (E1 := [some (.val (dT tf)), (some (.val (.int ((many : Nat) : Int)))), (some (.val (.int ((q : Nat) : Int)))), some (.own (.dt ks vs)), (some (.val (.int ((b : Nat) : Int)))), some (.val (tN [])), (some (.val (.int ((1 : Nat) : Int)))), none, none]), execs_nx (exec_while i2 (by simp)), execs_rt (o := false)]
    · simp [execs, exec, evos, evs, args, argV, argD, AR.bind, AR.call, back, ev, tst, opB, truthOf, gt, take, asVar, fin1, fin2, fetch, pr1, pr2, cmpD, bl?, truth, Sl.d, tgt, tgts, tgtOs, tgtO, storeS, locked, Out.only, Out.then, ER.out, ER.bind, ER.test, constOf, isTy, walk, opI, opN, isMut, isLst, lockS, unlockS, unlockAll, rows, IR.for_, IR.comp, IR.calm, calmE, lastPs, lastH, putS, atD, finM]
    · simp [execs, exec, evos, evs, args, argV, argD, AR.bind, AR.call, back, ev, tst, opB, truthOf, gt, take, asVar, fin1, fin2, fetch, pr1, pr2, cmpD, bl?, truth, Sl.d, tgt, tgts, tgtOs, tgtO, storeS, locked, Out.only, Out.then, ER.out, ER.bind, ER.test, constOf, isTy, walk, opI, opN, isMut, isLst, lockS, unlockS, unlockAll, rows, IR.for_, IR.comp, IR.calm, calmE, lastPs, lastH, putS, atD, finM, tN]
    · simp [execs, exec, evos, evs, args, argV, argD, AR.bind, AR.call, back, ev, tst, opB, truthOf, gt, take, asVar, fin1, fin2, fetch, pr1, pr2, cmpD, bl?, truth, Sl.d, tgt, tgts, tgtOs, tgtO, storeS, locked, Out.only, Out.then, ER.out, ER.bind, ER.test, constOf, isTy, walk, opI, opN, isMut, isLst, lockS, unlockS, unlockAll, rows, IR.for_, IR.comp, IR.calm, calmE, lastPs, lastH, putS, atD, finM, oI]
theorem c_told0 {tf : Tf} (h : tf ≠ []) {k q many : Nat} (hq : q ≤ 3) (hm : many ≤ 12) : callK T G (k + 8) 25 [.val (.int 0), .val (dT tf), .val (.int (many : Nat)), .val (.int (q : Nat))] = .ok false (oN (best1 tf q many)) [none, none, none, none] := by
  obtain ⟨p1, p2⟩ := c_parts h (k := k) hq hm
  refine (run_rt (n := 4) (m := 4) (b := b25) rfl rfl (o := false) (E1 := [some (.val (.int 0)), some (.val (dT tf)), (some (.val (.int ((many : Nat) : Int)))), (some (.val (.int ((q : Nat) : Int))))]) ?_).trans rfl
  show execs (callK T G (k + 7)) G b25 [some (.val (.int 0)), some (.val (dT tf)), (some (.val (.int ((many : Nat) : Int)))), (some (.val (.int ((q : Nat) : Int))))] = _
  unfold best1
  cases hc : cd tf q many 1 with
  | none =>
    have := p1 hc
    rw [b25, execs_rt (o := false)]
    simp [execs, exec, evos, evs, args, argV, argD, AR.bind, AR.call, back, ev, tst, opB, truthOf, gt, take, asVar, fin1, fin2, fetch, pr1, pr2, cmpD, bl?, truth, Sl.d, tgt, tgts, tgtOs, tgtO, storeS, locked, Out.only, Out.then, ER.out, ER.bind, ER.test, constOf, isTy, walk, opI, opN, isMut, isLst, lockS, unlockS, unlockAll, rows, IR.for_, IR.comp, IR.calm, calmE, lastPs, lastH, putS, atD, finM, plain, eqv, this, oN]
  | some b =>
    obtain ⟨row, r1, r2⟩ := p2 b hc
    rw [b25, execs_rt (o := false)]
    simp [execs, exec, evos, evs, args, argV, argD, AR.bind, AR.call, back, ev, tst, opB, truthOf, gt, take, asVar, fin1, fin2, fetch, pr1, pr2, cmpD, bl?, truth, Sl.d, tgt, tgts, tgtOs, tgtO, storeS, locked, Out.only, Out.then, ER.out, ER.bind, ER.test, constOf, isTy, walk, opI, opN, isMut, isLst, lockS, unlockS, unlockAll, rows, IR.for_, IR.comp, IR.calm, calmE, lastPs, lastH, putS, atD, finM, plain, eqv, r1, r2, oN]
end Law
namespace Law
open Rx
/-! ### stays -/
abbrev Sy := List (Nat × Nat × Nat)
def rowS (p : Nat × Nat × Nat) : D := .tup [.int (p.1 : Nat), .int (p.2.1 : Nat), .int (p.2.2 : Nat)]
def dS (ss : Sy) : D := .tup (ss.map rowS)
def gs (ss : Sy) (k : Nat) : Nat × Nat × Nat := ss.getD k (0, 0, 0)
def has (p : Nat × Nat × Nat) (n : Nat) : Bool := decide (p.1 ≤ n) && decide (n ≤ p.2.1)
def gu (ss : Sy) (n : Nat) : List Nat := (List.range ss.length).filter fun k => has (gs ss k) n
theorem enum_S {ss : Sy} : enumD (ss.map rowS) = (List.range ss.length).map fun k => D.tup [nI k, rowS (gs ss k)] := by
  apply List.ext_getElem
  · simp [enumD]
  · intro i h1 h2
    simp at h2
    simp [enumD, nI, gs, List.getD_eq_getElem?_getD, List.getElem?_eq_getElem h2]
theorem c_has {k n : Nat} {p : Nat × Nat × Nat} : callK T G (k + 1) 10 [.val (rowS p), .val (.int (n : Nat))] = .ok false (.bl (has p n)) [none, none] := by
  refine (run_rt (n := 2) (m := 2) (b := b10) rfl rfl (o := false) (E1 := [some (.val (rowS p)), (some (.val (.int ((n : Nat) : Int))))]) ?_).trans rfl
  show execs _ G b10 [some (.val (rowS p)), (some (.val (.int ((n : Nat) : Int))))] = _
  rw [b10, execs_rt (o := false)]
  by_cases h : p.1 ≤ n <;> simp [execs, exec, evos, evs, args, argV, argD, AR.bind, AR.call, back, ev, tst, opB, truthOf, gt, take, asVar, fin1, fin2, fetch, pr1, pr2, cmpD, bl?, truth, Sl.d, tgt, tgts, tgtOs, tgtO, storeS, locked, Out.only, Out.then, ER.out, ER.bind, ER.test, constOf, isTy, walk, opI, opN, isMut, isLst, lockS, unlockS, unlockAll, rows, IR.for_, IR.comp, IR.calm, calmE, lastPs, lastH, putS, atD, finM, rowS, has, h]
theorem c_guests {k n : Nat} {ss : Sy} (hl : ss.length ≤ 1000) : callK T G (k + 2) 11 [.val (dS ss), .val (.int (n : Nat))] = .ok false (.tup ((gu ss n).map nI)) [none, none] := by
  have hc : compL [2, 3] (tgt (callK T G (k + 1)) G (.tup (.cons (.nm 2) (.cons (.nm 3) .nil)))) (tst (callK T G (k + 1)) G (.call 10 (.cons (.var 3) (.cons (.var 1) .nil)))) (ev (callK T G (k + 1)) G b11_0) (enumD (ss.map rowS)) [] [some (.val (dS ss)), (some (.val (.int ((n : Nat) : Int)))), none, none] = .ok true (.lst ((gu ss n).map nI)) [some (.val (dS ss)), (some (.val (.int ((n : Nat) : Int)))), none, none] := by
    rw [enum_S, comp_of (f := fun k => D.tup [nI k, rowS (gs ss k)]) (p := fun k => has (gs ss k) n) (g := nI) (fun j hj => ?_) (by simpa using SZ_big hl)]
    · rfl
    · have hh := c_has (k := k) (n := n) (p := gs ss j)
      exact ⟨[some (.val (dS ss)), (some (.val (.int ((n : Nat) : Int)))), some (.val (nI j)), some (.val (rowS (gs ss j)))], [some (.val (dS ss)), (some (.val (.int ((n : Nat) : Int)))), some (.val (nI j)), some (.val (rowS (gs ss j)))], false, by simp [execs, exec, evos, evs, args, argV, argD, AR.bind, AR.call, back, ev, tst, opB, truthOf, gt, take, asVar, fin1, fin2, fetch, pr1, pr2, cmpD, bl?, truth, Sl.d, tgt, tgts, tgtOs, tgtO, storeS, locked, Out.only, Out.then, ER.out, ER.bind, ER.test, constOf, isTy, walk, opI, opN, isMut, isLst, lockS, unlockS, unlockAll, rows, IR.for_, IR.comp, IR.calm, calmE, lastPs, lastH, putS, atD, finM, wipeE, unpk, Tgs.len], by simp [execs, exec, evos, evs, args, argV, argD, AR.bind, AR.call, back, ev, tst, opB, truthOf, gt, take, asVar, fin1, fin2, fetch, pr1, pr2, cmpD, bl?, truth, Sl.d, tgt, tgts, tgtOs, tgtO, storeS, locked, Out.only, Out.then, ER.out, ER.bind, ER.test, constOf, isTy, walk, opI, opN, isMut, isLst, lockS, unlockS, unlockAll, rows, IR.for_, IR.comp, IR.calm, calmE, lastPs, lastH, putS, atD, finM, hh], by simp [wipeE], fun _ => ⟨false, [some (.val (dS ss)), (some (.val (.int ((n : Nat) : Int)))), some (.val (nI j)), some (.val (rowS (gs ss j)))], by simp [execs, exec, evos, evs, args, argV, argD, AR.bind, AR.call, back, ev, tst, opB, truthOf, gt, take, asVar, fin1, fin2, fetch, pr1, pr2, cmpD, bl?, truth, Sl.d, tgt, tgts, tgtOs, tgtO, storeS, locked, Out.only, Out.then, ER.out, ER.bind, ER.test, constOf, isTy, walk, opI, opN, isMut, isLst, lockS, unlockS, unlockAll, rows, IR.for_, IR.comp, IR.calm, calmE, lastPs, lastH, putS, atD, finM, b11_0], by simp [wipeE]⟩⟩
  refine (run_rt (n := 2) (m := 4) (b := b11) rfl rfl (o := false) (E1 := [some (.val (dS ss)), (some (.val (.int ((n : Nat) : Int)))), none, none]) ?_).trans rfl
  show execs _ G b11 [some (.val (dS ss)), (some (.val (.int ((n : Nat) : Int)))), none, none] = _
  rw [b11, execs_rt (o := false)]
  rw [exec, ev]
  · simp only [opB, asVar]
    rw [ev, walk]
    simp only [opI, asVar, gt, isMut, Sl.d, rows, dS, List.getElem?_cons_zero, List.getElem?_cons_succ, Bool.false_eq_true, if_false, IR.comp, calmE, List.all_cons, List.all_nil, Bool.and_self, if_true]
    rw [← dS, hc]
    simp only [restE, unlockAll, ER.bind, fin1, fetch, pr1, ER.out]
    rfl
  · intro i e; cases e
/-- how many beds -/
def beds (ss : Sy) : Nat := mxN 0 (ss.map fun p => (gu ss p.1).length)
theorem c_beds {k : Nat} {ss : Sy} (hl : ss.length ≤ 1000) : callK T G (k + 3) 12 [.val (dS ss)] = .ok false (.int (beds ss : Nat)) [none] := by
  have hc : compL [1, 2] (tgt (callK T G (k + 2)) G (.tup (.cons (.nm 1) (.cons (.nm 2) (.cons (.nm 2) .nil))))) (fun E => .ok false (.bl true) E) (ev (callK T G (k + 2)) G b12_0) (ss.map rowS) [] [some (.val (dS ss)), none, none] = .ok true (.lst ((ss.map fun p => (gu ss p.1).length).map nI)) [some (.val (dS ss)), none, none] := by
    rw [comp_all (f := rowS) (g := fun p => nI (gu ss p.1).length) (fun p hp => ?_) (SZ_big hl), List.map_map]
    · rfl
    · have hh := c_guests (k := k) (n := p.1) hl
      exact ⟨[some (.val (dS ss)), (some (.val (.int ((p.1 : Nat) : Int)))), (some (.val (.int ((p.2.2 : Nat) : Int))))], false, [some (.val (dS ss)), (some (.val (.int ((p.1 : Nat) : Int)))), (some (.val (.int ((p.2.2 : Nat) : Int))))], by simp [execs, exec, evos, evs, args, argV, argD, AR.bind, AR.call, back, ev, tst, opB, truthOf, gt, take, asVar, fin1, fin2, fetch, pr1, pr2, cmpD, bl?, truth, Sl.d, tgt, tgts, tgtOs, tgtO, storeS, locked, Out.only, Out.then, ER.out, ER.bind, ER.test, constOf, isTy, walk, opI, opN, isMut, isLst, lockS, unlockS, unlockAll, rows, IR.for_, IR.comp, IR.calm, calmE, lastPs, lastH, putS, atD, finM, wipeE, unpk, Tgs.len, rowS], by simp [execs, exec, evos, evs, args, argV, argD, AR.bind, AR.call, back, ev, tst, opB, truthOf, gt, take, asVar, fin1, fin2, fetch, pr1, pr2, cmpD, bl?, truth, Sl.d, tgt, tgts, tgtOs, tgtO, storeS, locked, Out.only, Out.then, ER.out, ER.bind, ER.test, constOf, isTy, walk, opI, opN, isMut, isLst, lockS, unlockS, unlockAll, rows, IR.for_, IR.comp, IR.calm, calmE, lastPs, lastH, putS, atD, finM, b12_0, hh, nI], by simp [wipeE], by simp [wipeE]⟩
  have hz : 1 + ss.length ≤ SZ := Nat.le_trans (show _ ≤ 1001 by omega) (by decide)
  refine (run_rt (n := 1) (m := 3) (b := b12) rfl rfl (o := false) (E1 := [some (.val (dS ss)), none, none]) ?_).trans rfl
  show execs _ G b12 [some (.val (dS ss)), none, none] = _
  rw [b12, execs_rt (o := false)]
  rw [exec, ev]
  · simp only [opB, asVar]
    rw [ev]
    · simp only [opB, asVar]
      rw [ev]
      simp only [evs, argD, AR.bind, AR.call, ev.eq_1, back, List.map_cons, List.map_nil, Sl.d, ER.bind]
      rw [ev, walk]
      simp only [opI, asVar, gt, isMut, Sl.d, rows, dS, List.getElem?_cons_zero, List.getElem?_cons_succ, Bool.false_eq_true, if_false, IR.comp, calmE, List.all_cons, List.all_nil, Bool.and_self, if_true]
      rw [← dS, hc]
      simp only [restE, unlockAll, fin2, fetch, pr2, List.length_map, List.length_singleton, hz, if_true, ER.bind, fin1]
      rw [show ([D.int 0] ++ (ss.map fun p => (gu ss p.1).length).map nI) = ((0 :: ss.map fun p => (gu ss p.1).length).map nI) from rfl, pr1_max (a := beds ss) rfl]
      rfl
  · intro i e; cases e
def clash (p q : Nat × Nat × Nat) : Bool := decide (p.1 ≤ q.2.1) && decide (q.1 ≤ p.2.1)
theorem c_clash {k : Nat} {p q : Nat × Nat × Nat} : callK T G (k + 1) 13 [.val (rowS p), .val (rowS q)] = .ok false (.bl (clash p q)) [none, none] := by
  refine (run_rt (n := 2) (m := 2) (b := b13) rfl rfl (o := false) (E1 := [some (.val (rowS p)), some (.val (rowS q))]) ?_).trans rfl
  show execs _ G b13 [some (.val (rowS p)), some (.val (rowS q))] = _
  rw [b13, execs_rt (o := false)]
  by_cases h : p.1 ≤ q.2.1 <;> simp [execs, exec, evos, evs, args, argV, argD, AR.bind, AR.call, back, ev, tst, opB, truthOf, gt, take, asVar, fin1, fin2, fetch, pr1, pr2, cmpD, bl?, truth, Sl.d, tgt, tgts, tgtOs, tgtO, storeS, locked, Out.only, Out.then, ER.out, ER.bind, ER.test, constOf, isTy, walk, opI, opN, isMut, isLst, lockS, unlockS, unlockAll, rows, IR.for_, IR.comp, IR.calm, calmE, lastPs, lastH, putS, atD, finM, rowS, clash, h]
end Law
namespace Law
open Rx
/-! ### groups without a clash -/
def bad (ss : Sy) (s : List Nat) (k : Nat) : Bool := s.any fun j => clash (gs ss j) (gs ss k)
def stepG (ss : Sy) (fs : List (List Nat)) (k : Nat) : List (List Nat) := fs ++ (fs.filter fun s => !bad ss s k).map (· ++ [k])
def chs (ss : Sy) : Nat → List (List Nat)
  | 0 => [[]]
  | k + 1 => stepG ss (chs ss k) k
theorem at_S {ss : Sy} {j : Nat} (h : j < ss.length) : atD (ss.map rowS) (j : Int) = some (rowS (gs ss j)) := by
  unfold atD
  rw [if_pos (by omega)]
  simp [gs, List.getElem?_eq_getElem h, List.getD_eq_getElem?_getD]
theorem chs_ok {ss : Sy} : ∀ k, (∀ s ∈ chs ss k, s.length ≤ k ∧ ∀ j ∈ s, j < k) ∧ (chs ss k).length ≤ 2 ^ k
  | 0 => by simp [chs]
  | k + 1 => by
    obtain ⟨h1, h2⟩ := chs_ok (ss := ss) k
    constructor
    · intro s hs
      unfold chs stepG at hs
      rcases List.mem_append.mp hs with hs | hs
      · obtain ⟨a, b⟩ := h1 s hs
        exact ⟨by omega, fun j m => by have := b j m; omega⟩
      · obtain ⟨s', hs', rfl⟩ := List.mem_map.mp hs
        obtain ⟨a, b⟩ := h1 s' (List.mem_filter.mp hs').1
        refine ⟨by simp; omega, fun j m => ?_⟩
        rcases List.mem_append.mp m with m | m
        · have := b j m; omega
        · simp at m; omega
    · unfold chs stepG
      have := List.length_filter_le (fun s => !bad ss s k) (chs ss k)
      simp only [List.length_append, List.length_map, Nat.pow_succ]
      omega
theorem bad_comp (F) {ss : Sy} {k : Nat} (hF : ∀ p q, F 13 [.val (rowS p), .val (rowS q)] = .ok false (.bl (clash p q)) [none, none]) (hk : k < ss.length) {s : List Nat} (hs : ∀ j ∈ s, j < k) (hz : s.length ≤ 1000) {x1 z4 : Option Sl} :
    compL [4] (tgt F G (.nm 4)) (fun E => .ok false (.bl true) E) (ev F G b14_0) (s.map nI) [] [some (.val (dS ss)), x1, (some (.val (.int ((k : Nat) : Int)))), some (.val (tN s)), z4] = .ok true (.lst (s.map fun j => .bl (clash (gs ss j) (gs ss k)))) [some (.val (dS ss)), x1, (some (.val (.int ((k : Nat) : Int)))), some (.val (tN s)), none] := by
  rw [comp_all (f := nI) (g := fun j => .bl (clash (gs ss j) (gs ss k))) (fun j hj => ?_) (SZ_big hz)]
  · rfl
  · have a1 := at_S (ss := ss) (j := j) (by have := hs j hj; omega)
    have a2 := at_S (ss := ss) (j := k) hk
    refine ⟨[some (.val (dS ss)), x1, (some (.val (.int ((k : Nat) : Int)))), some (.val (tN s)), (some (.val (.int ((j : Nat) : Int))))], false, [some (.val (dS ss)), x1, (some (.val (.int ((k : Nat) : Int)))), some (.val (tN s)), (some (.val (.int ((j : Nat) : Int))))], by simp [execs, exec, evos, evs, args, argV, argD, AR.bind, AR.call, back, ev, tst, opB, truthOf, gt, take, asVar, fin1, fin2, fetch, pr1, pr2, cmpD, bl?, truth, Sl.d, tgt, tgts, tgtOs, tgtO, storeS, locked, Out.only, Out.then, ER.out, ER.bind, ER.test, constOf, isTy, walk, opI, opN, isMut, isLst, lockS, unlockS, unlockAll, rows, IR.for_, IR.comp, IR.calm, calmE, lastPs, lastH, putS, atD, finM, wipeE, nI], ?_, by simp [wipeE], by simp [wipeE]⟩
    rw [b14_0]
    rw [ev]
    simp only [args, asVar, argD, ev, opB, gt, List.getElem?_cons_zero, List.getElem?_cons_succ, fin2, fetch, Option.map, Sl.d, pr2, dS, a1, a2, AR.bind, AR.call, hF, back]
theorem bad_tst (F) {ss : Sy} {k : Nat} (hF : ∀ p q, F 13 [.val (rowS p), .val (rowS q)] = .ok false (.bl (clash p q)) [none, none]) (hk : k < ss.length) {s : List Nat} (hs : ∀ j ∈ s, j < k) (hz : s.length ≤ 1000) {x1 z4 : Option Sl} (c4 : z4 = none) :
    tst F G (.not (.p1 .any (.lc b14_0 (.nm 4) (.seq (.var 3)) none [4]))) [some (.val (dS ss)), x1, (some (.val (.int ((k : Nat) : Int)))), some (.val (tN s)), z4] = .ok false (.bl (!bad ss s k)) [some (.val (dS ss)), x1, (some (.val (.int ((k : Nat) : Int)))), some (.val (tN s)), z4] := by
  subst c4
  have hc := bad_comp F hF hk hs hz (x1 := x1) (z4 := none)
  rw [tst, tst]
  · simp only [truthOf, opB, asVar]
    rw [ev]
    simp only [opB, asVar]
    rw [ev, walk]
    simp only [opI, asVar, gt, isMut, Sl.d, rows, tN, List.getElem?_cons_zero, List.getElem?_cons_succ, Bool.false_eq_true, if_false, IR.comp, calmE, List.all_cons, List.all_nil, Bool.and_self, if_true]
    rw [← tN, hc]
    simp only [restE, unlockAll, ER.bind, fin1, fetch, pr1, isBls_map, truth, bl?, Option.map, ER.test, bad, List.any_map, Function.comp_def, id]
    rfl
  all_goals (intros; rename_i e; cases e)
theorem step_comp (F) {ss : Sy} {k : Nat} (hF : ∀ p q, F 13 [.val (rowS p), .val (rowS q)] = .ok false (.bl (clash p q)) [none, none]) (hk : k < ss.length) {fs : List (List Nat)} (hs : ∀ s ∈ fs, s.length ≤ 999 ∧ ∀ j ∈ s, j < k) (hz : fs.length ≤ 1000) {x1 z3 : Option Sl} :
    compL [3] (tgt F G (.nm 3)) (tst F G (.not (.p1 .any (.lc b14_0 (.nm 4) (.seq (.var 3)) none [4])))) (ev F G b14_1) (fs.map tN) [] [some (.val (dS ss)), x1, (some (.val (.int ((k : Nat) : Int)))), z3, none] = .ok true (.lst (((fs.filter fun s => !bad ss s k).map (· ++ [k])).map tN)) [some (.val (dS ss)), x1, (some (.val (.int ((k : Nat) : Int)))), none, none] := by
  rw [comp_of (f := tN) (p := fun s => !bad ss s k) (g := fun s => tN (s ++ [k])) (fun s hm => ?_) (by simpa using SZ_big hz), List.nil_append, List.map_map]
  · rfl
  · obtain ⟨h1, h2⟩ := hs s hm
    have hh := bad_tst F hF hk h2 (by omega) (x1 := x1) (z4 := none) rfl
    have hz : s.length + 1 ≤ SZ := SZ_big (by omega)
    refine ⟨[some (.val (dS ss)), x1, (some (.val (.int ((k : Nat) : Int)))), some (.val (tN s)), none], [some (.val (dS ss)), x1, (some (.val (.int ((k : Nat) : Int)))), some (.val (tN s)), none], false, by simp [execs, exec, evos, evs, args, argV, argD, AR.bind, AR.call, back, ev, tst, opB, truthOf, gt, take, asVar, fin1, fin2, fetch, pr1, pr2, cmpD, bl?, truth, Sl.d, tgt, tgts, tgtOs, tgtO, storeS, locked, Out.only, Out.then, ER.out, ER.bind, ER.test, constOf, isTy, walk, opI, opN, isMut, isLst, lockS, unlockS, unlockAll, rows, IR.for_, IR.comp, IR.calm, calmE, lastPs, lastH, putS, atD, finM, wipeE], hh, by simp [wipeE], fun _ => ⟨false, [some (.val (dS ss)), x1, (some (.val (.int ((k : Nat) : Int)))), some (.val (tN s)), none], ?_, by simp [wipeE]⟩⟩
    simp [b14_1, execs, exec, evos, evs, args, argV, argD, AR.bind, AR.call, back, ev, tst, opB, truthOf, gt, take, asVar, fin1, fin2, fetch, pr1, pr2, cmpD, bl?, truth, Sl.d, tgt, tgts, tgtOs, tgtO, storeS, locked, Out.only, Out.then, ER.out, ER.bind, ER.test, constOf, isTy, walk, opI, opN, isMut, isLst, lockS, unlockS, unlockAll, rows, IR.for_, IR.comp, IR.calm, calmE, lastPs, lastH, putS, atD, finM, tN, hz, nI]
theorem choice_turn (F) {ss : Sy} {k : Nat} (hF : ∀ p q, F 13 [.val (rowS p), .val (rowS q)] = .ok false (.bl (clash p q)) [none, none]) (hk : k < ss.length) (hk6 : k ≤ 8) {z2 : Option Sl} (c2 : Cm z2) :
    tgt F G (.nm 2) (nI k) [some (.val (dS ss)), some (.own (.lst ((chs ss k).map tN))), z2, none, none] = .nx [some (.val (dS ss)), some (.own (.lst ((chs ss k).map tN))), (some (.val (.int ((k : Nat) : Int)))), none, none] ∧
    execs F G b14_2 [some (.val (dS ss)), some (.own (.lst ((chs ss k).map tN))), (some (.val (.int ((k : Nat) : Int)))), none, none] = .nx [some (.val (dS ss)), some (.own (.lst ((chs ss (k + 1)).map tN))), (some (.val (.int ((k : Nat) : Int)))), none, none] := by
  refine ⟨by rcases c2 with rfl | ⟨d, rfl⟩ <;> simp [execs, exec, evos, evs, args, argV, argD, AR.bind, AR.call, back, ev, tst, opB, truthOf, gt, take, asVar, fin1, fin2, fetch, pr1, pr2, cmpD, bl?, truth, Sl.d, tgt, tgts, tgtOs, tgtO, storeS, locked, Out.only, Out.then, ER.out, ER.bind, ER.test, constOf, isTy, walk, opI, opN, isMut, isLst, lockS, unlockS, unlockAll, rows, IR.for_, IR.comp, IR.calm, calmE, lastPs, lastH, putS, atD, finM, nI], ?_⟩
  obtain ⟨o1, o2⟩ := chs_ok (ss := ss) k
  have hp : 2 ^ k ≤ 2 ^ 8 := Nat.pow_le_pow_right (by omega) hk6
  have hc := step_comp F hF hk (fs := chs ss k) (fun s hs => ⟨by have := (o1 s hs).1; omega, (o1 s hs).2⟩) (by omega) (x1 := some (.lck true (.lst ((chs ss k).map tN)))) (z3 := none)
  have hz : (chs ss k).length + ((chs ss k).filter fun s => !bad ss s k).length ≤ SZ := by
    have := List.length_filter_le (fun s => !bad ss s k) (chs ss k)
    exact SZ_big (by omega)
  rw [b14_2, execs_nx, execs_end]
  rw [exec, ev]
  simp only [opB, asVar, gt, List.getElem?_cons_zero, List.getElem?_cons_succ]
  rw [ev, walk]
  simp only [opI, asVar, gt, isMut, isLst, Sl.d, rows, lockS, List.getElem?_cons_zero, List.getElem?_cons_succ, if_true, List.set_cons_succ, List.set_cons_zero, IR.comp, calmE, List.all_cons, List.all_nil, Bool.and_self, hc]
  simp [-List.map_map, restE, unlockAll, unlockS, gt, ER.bind, fin2, fetch, Sl.d, pr2, hz, ER.out, tgtO, storeS, locked, Out.only, chs, stepG]
theorem choice_loop (F) {ss : Sy} (hF : ∀ p q, F 13 [.val (rowS p), .val (rowS q)] = .ok false (.bl (clash p q)) [none, none]) (h8 : ss.length ≤ 8) : ∀ (n k : Nat) (z2 : Option Sl), k + n = ss.length → Cm z2 →
    ∃ z2', forL (tgt F G (.nm 2)) (execs F G b14_2) ((List.range' k n).map nI) [some (.val (dS ss)), some (.own (.lst ((chs ss k).map tN))), z2, none, none] = .nx [some (.val (dS ss)), some (.own (.lst ((chs ss ss.length).map tN))), z2', none, none]
  | 0, k, z2, hk, c2 => ⟨z2, by rw [show k = ss.length by omega]; simp [forL]⟩
  | n + 1, k, z2, hk, c2 => by
    obtain ⟨g1, g2⟩ := choice_turn F (ss := ss) hF (k := k) (by omega) (by omega) c2
    obtain ⟨z2', g⟩ := choice_loop F hF h8 n (k + 1) (some (.val (.int ((k : Nat) : Int)))) (by omega) (.inr ⟨_, rfl⟩)
    exact ⟨z2', by rw [List.range'_succ, List.map_cons, forL_cons g1 g2, g]⟩
/-! ### sorting rows of numbers -/
def cI (r : List Nat) : List Int := r.map fun n : Nat => (n : Int)
def srt (l : List (List Nat)) : List (List Nat) := (sortTI (l.map cI)).map fun r => r.map Int.toNat
theorem toNat_cI (r : List Nat) : (cI r).map Int.toNat = r := by
  simp [cI, List.map_map, Function.comp_def]
theorem srt_perm (l : List (List Nat)) : (srt l).Perm l := by
  have h := (sortTI_perm (l.map cI)).map fun r => r.map Int.toNat
  rw [List.map_map] at h
  have e : (fun r : List Int => r.map Int.toNat) ∘ cI = id := by
    funext r
    exact toNat_cI r
  rw [e, List.map_id] at h
  exact h
theorem srt_cI (l : List (List Nat)) : (srt l).map cI = sortTI (l.map cI) := by
  unfold srt
  rw [List.map_map]
  have : ∀ r ∈ sortTI (l.map cI), (cI ∘ fun r => r.map Int.toNat) r = r := fun r hr => by
    obtain ⟨r', _, rfl⟩ := List.mem_map.mp ((sortTI_perm _).mem_iff.mp hr)
    show cI ((cI r').map Int.toNat) = cI r'
    rw [toNat_cI]
  exact (List.map_congr_left this).trans (List.map_id _)
theorem tupD_cI (r : List Nat) : tupD (cI r) = tN r := by
  simp [tupD, cI, tN, List.map_map, nI]
theorem isTups_N : ∀ (l : List (List Nat)), isTups (l.map tN) = some (l.map cI)
  | [] => rfl
  | r :: l => by
    rw [List.map_cons, tN, isTups, isInts_nat, isTups_N l]
    rfl
theorem pr1_sorted {l : List (List Nat)} (h : tupsOk (l.map cI) = true) (hn : l ≠ []) : pr1 .sorted (.lst (l.map tN)) = some (true, .lst ((srt l).map tN)) := by
  have e : isInts (l.map tN) = none := by
    cases l with
    | nil => exact absurd rfl hn
    | cons a l => rfl
  rw [pr1, e]
  simp only [isTups_N, h, if_true]
  rw [← srt_cI, List.map_map]
  congr 4
  funext r
  exact tupD_cI r
theorem chs_head {ss : Sy} : ∀ k, ∃ l, chs ss k = [] :: l
  | 0 => ⟨[], rfl⟩
  | k + 1 => by
    obtain ⟨l, h⟩ := chs_head (ss := ss) k
    exact ⟨l ++ ((chs ss k).filter fun s => !bad ss s k).map (· ++ [k]), by show chs ss k ++ _ = _; rw [h]; rfl⟩
theorem c_choices {k : Nat} {ss : Sy} (h8 : ss.length ≤ 8) : callK T G (k + 2) 14 [.val (dS ss)] = .ok true (.lst ((srt (chs ss ss.length)).map tN)) [none] := by
  obtain ⟨z2, g⟩ := choice_loop (callK T G (k + 1)) (ss := ss) (fun p q => c_clash) h8 ss.length 0 none (by omega) (.inl rfl)
  obtain ⟨l, hl⟩ := chs_head (ss := ss) ss.length
  have ps := pr1_sorted (l := chs ss ss.length) (by rw [hl]; rfl) (by rw [hl]; simp)
  refine (run_rt (n := 1) (m := 5) (b := b14) rfl rfl (o := true) (E1 := [some (.val (dS ss)), some (.own (.lst ((chs ss ss.length).map tN))), z2, none, none]) ?_).trans rfl
  show execs _ G b14 [some (.val (dS ss)), none, none, none, none] = _
  rw [b14, execs_nx (E1 := [some (.val (dS ss)), some (.own (.lst ((chs ss 0).map tN))), none, none, none]), execs_nx (E1 := [some (.val (dS ss)), some (.own (.lst ((chs ss ss.length).map tN))), z2, none, none]), execs_rt (o := true)]
  · rw [exec, ev]
    · simp only [opB, asVar, gt, List.getElem?_cons_zero, List.getElem?_cons_succ, fin1, fetch, Option.map, Sl.d, ps, ER.out]
    · intro i e; cases e
  · have hg : rgOk 0 (ss.length : Int) = true := by simp [rgOk]; omega
    rw [exec, walk]
    rw [ev]
    simp only [opN, opB, asVar, gt, List.getElem?_cons_zero, List.getElem?_cons_succ, fin1, fetch, Option.map, Sl.d, dS, pr1, List.length_map, hg, if_true, IR.for_, range_0]
    rw [List.range_eq_range', ← dS, g]
    rfl
  · simp [execs, exec, evos, evs, args, argV, argD, AR.bind, AR.call, back, ev, tst, opB, truthOf, gt, take, asVar, fin1, fin2, fetch, pr1, pr2, cmpD, bl?, truth, Sl.d, tgt, tgts, tgtOs, tgtO, storeS, locked, Out.only, Out.then, ER.out, ER.bind, ER.test, constOf, isTy, walk, opI, opN, isMut, isLst, lockS, unlockS, unlockAll, rows, IR.for_, IR.comp, IR.calm, calmE, lastPs, lastH, putS, atD, finM, chs, tN]
/-- the first with a number -/
theorem idx_find {α : Type} {f : α → Nat} {a : Nat} : ∀ {l : List α}, a ∈ l.map f → ∃ (j : Nat) (r : α), (l.map fun x => nI (f x)).findIdx? (fun x => eqv x (.int (a : Nat))) = some j ∧ l.find? (fun r => decide (f r = a)) = some r ∧ l[j]? = some r
  | [], h => by cases h
  | x :: l, h => by
    have e : eqv (nI (f x)) (.int (a : Nat)) = decide (f x = a) := by
      show ((f x : Int) == (a : Int)) = _
      by_cases h : f x = a
      · simp [h]
      · have : ¬ (f x : Int) = (a : Int) := by omega
        simp [h, this]
    by_cases hx : f x = a
    · refine ⟨0, x, ?_, ?_, rfl⟩
      · rw [List.map_cons, List.findIdx?_cons, e]; simp [hx]
      · rw [List.find?_cons_of_pos (by simpa using hx)]
    · have hm : a ∈ l.map f := by
        rcases List.mem_cons.mp h with h | h
        · exact absurd h.symm hx
        · exact h
      obtain ⟨j, r, h1, h2, h3⟩ := idx_find hm
      refine ⟨j + 1, r, ?_, ?_, by simpa using h3⟩
      · rw [List.map_cons, List.findIdx?_cons, e]; simp [hx, h1]
      · rw [List.find?_cons_of_neg (by simpa using hx), h2]
theorem flat_nI {α : Type} {f : α → Nat} {l : List α} : (l.map fun x => nI (f x)).all flatD = true := by
  simp [nI, flatD]
theorem ix_find {α : Type} {f : α → Nat} {a : Nat} {l : List α} (h : a ∈ l.map f) : ∃ (j : Nat) (r : α), ixF (.lst (l.map fun x => nI (f x))) (.int (a : Nat)) = some (false, .int (j : Nat)) ∧ l.find? (fun r => decide (f r = a)) = some r ∧ l[j]? = some r := by
  obtain ⟨j, r, h1, h2, h3⟩ := idx_find h
  refine ⟨j, r, ?_, h2, h3⟩
  have e : ixF (.lst (l.map fun x => nI (f x))) (.int (a : Nat)) = (if (flatD (.int (a : Nat)) && (l.map fun x => nI (f x)).all flatD) = true then (match (l.map fun x => nI (f x)).findIdx? (fun x => eqv x (.int (a : Nat))) with
    | some j => some (false, .int (j : Nat))
    | none => none) else none) := rfl
  rw [e, flat_nI, h1]
  rfl
end Law
namespace Law
open Rx
def worth (ss : Sy) (s : List Nat) : Nat := (s.map fun k => (gs ss k).2.2).sum
/-- the first of the greatest worth -/
def bestG (ss : Sy) (l : List (List Nat)) : Option (List Nat) := match mx? (l.map (worth ss)) with
  | some m => l.find? fun r => decide (worth ss r = m)
  | none => none
theorem at_row2 {p : Nat × Nat × Nat} : atD [D.int (p.1 : Nat), D.int (p.2.1 : Nat), D.int (p.2.2 : Nat)] 2 = some (.int (p.2.2 : Nat)) := rfl
theorem worth_ev (F) {ss : Sy} {s : List Nat} (hs : ∀ j ∈ s, j < ss.length) (hz : s.length ≤ 1000) {x1 x2 z3 : Option Sl} (c3 : z3 = none) :
    ev F G b15_1 [some (.val (dS ss)), x1, x2, z3, some (.val (tN s))] = .ok false (.int (worth ss s : Nat)) [some (.val (dS ss)), x1, x2, z3, some (.val (tN s))] := by
  subst c3
  have hc : compL [3] (tgt F G (.nm 3)) (fun E => .ok false (.bl true) E) (ev F G b15_0) (s.map nI) [] [some (.val (dS ss)), x1, x2, none, some (.val (tN s))] = .ok true (.lst ((s.map fun k => (gs ss k).2.2).map nI)) [some (.val (dS ss)), x1, x2, none, some (.val (tN s))] := by
    rw [comp_all (f := nI) (g := fun k => nI (gs ss k).2.2) (fun j hj => ?_) (SZ_big hz), List.map_map]
    · rfl
    · have a1 := at_S (hs j hj)
      refine ⟨[some (.val (dS ss)), x1, x2, (some (.val (.int ((j : Nat) : Int)))), some (.val (tN s))], false, [some (.val (dS ss)), x1, x2, (some (.val (.int ((j : Nat) : Int)))), some (.val (tN s))], by simp [execs, exec, evos, evs, args, argV, argD, AR.bind, AR.call, back, ev, tst, opB, truthOf, gt, take, asVar, fin1, fin2, fetch, pr1, pr2, cmpD, bl?, truth, Sl.d, tgt, tgts, tgtOs, tgtO, storeS, locked, Out.only, Out.then, ER.out, ER.bind, ER.test, constOf, isTy, walk, opI, opN, isMut, isLst, lockS, unlockS, unlockAll, rows, IR.for_, IR.comp, IR.calm, calmE, lastPs, lastH, putS, atD, finM, wipeE, nI], ?_, by simp [wipeE], by simp [wipeE]⟩
      rw [b15_0]
      simp only [ev, opB, asVar, gt, List.getElem?_cons_zero, List.getElem?_cons_succ, fin2, fetch, Option.map, Sl.d, pr2, dS, a1, ER.bind, rowS, at_row2, nI]
  rw [b15_1, ev]
  · simp only [opB, asVar]
    rw [ev, walk]
    simp only [opI, asVar, gt, isMut, Sl.d, rows, tN, List.getElem?_cons_zero, List.getElem?_cons_succ, Bool.false_eq_true, if_false, IR.comp, calmE, List.all_cons, List.all_nil, Bool.and_self, if_true]
    rw [← tN, hc]
    simp only [restE, unlockAll, ER.bind, fin1, fetch, pr1_sum, worth]
    rfl
theorem find_max {ss : Sy} {l : List (List Nat)} (hn : l ≠ []) : ∃ m j r, mx? (l.map (worth ss)) = some m ∧ ixF (.lst ((l.map (worth ss)).map nI)) (.int (m : Nat)) = some (false, .int (j : Nat)) ∧ bestG ss l = some r ∧ l[j]? = some r := by
  cases hm : mx? (l.map (worth ss)) with
  | none => exact absurd (by simpa using mx_none.mp hm) hn
  | some m =>
    obtain ⟨j, r, h1, h2, h3⟩ := ix_find (mx_some.mp hm).1
    refine ⟨m, j, r, rfl, ?_, ?_, h3⟩
    · rw [List.map_map]
      exact h1
    · unfold bestG
      rw [hm]
      exact h2
theorem srt_mem {l : List (List Nat)} {s : List Nat} : s ∈ srt l ↔ s ∈ l := (srt_perm l).mem_iff
theorem at_N {l : List (List Nat)} {j : Nat} {r : List Nat} (h : l[j]? = some r) : atD (l.map tN) (j : Int) = some (tN r) := by
  unfold atD
  rw [if_pos (by omega)]
  simp [h]
theorem c_best {k : Nat} {ss : Sy} (h8 : ss.length ≤ 8) : ∃ r, bestG ss (srt (chs ss ss.length)) = some r ∧ callK T G (k + 3) 15 [.val (dS ss)] = .ok false (tN r) [none] := by
  have hch := c_choices (k := k) h8
  obtain ⟨o1, o2⟩ := chs_ok (ss := ss) ss.length
  have hp : 2 ^ ss.length ≤ 2 ^ 8 := Nat.pow_le_pow_right (by omega) h8
  have hne : srt (chs ss ss.length) ≠ [] := fun e => by
    obtain ⟨l, hl⟩ := chs_head (ss := ss) ss.length
    have : [] ∈ srt (chs ss ss.length) := srt_mem.mpr (by rw [hl]; simp)
    rw [e] at this
    cases this
  have hlen : (srt (chs ss ss.length)).length ≤ 1000 := by rw [(srt_perm _).length_eq]; omega
  obtain ⟨m, j, r, f1, f2, f3, f4⟩ := find_max (ss := ss) hne
  have hc : ∀ x1, compL [4] (tgt (callK T G (k + 2)) G (.nm 4)) (fun E => .ok false (.bl true) E) (ev (callK T G (k + 2)) G b15_1) ((srt (chs ss ss.length)).map tN) [] [some (.val (dS ss)), x1, none, none, none] = .ok true (.lst (((srt (chs ss ss.length)).map (worth ss)).map nI)) [some (.val (dS ss)), x1, none, none, none] := fun x1 => by
    rw [comp_all (f := tN) (g := fun s => nI (worth ss s)) (fun s hs => ?_) (SZ_big hlen), List.map_map]
    · rfl
    · obtain ⟨a, b⟩ := o1 s (srt_mem.mp hs)
      exact ⟨[some (.val (dS ss)), x1, none, none, some (.val (tN s))], false, [some (.val (dS ss)), x1, none, none, some (.val (tN s))], by simp [execs, exec, evos, evs, args, argV, argD, AR.bind, AR.call, back, ev, tst, opB, truthOf, gt, take, asVar, fin1, fin2, fetch, pr1, pr2, cmpD, bl?, truth, Sl.d, tgt, tgts, tgtOs, tgtO, storeS, locked, Out.only, Out.then, ER.out, ER.bind, ER.test, constOf, isTy, walk, opI, opN, isMut, isLst, lockS, unlockS, unlockAll, rows, IR.for_, IR.comp, IR.calm, calmE, lastPs, lastH, putS, atD, finM, wipeE], worth_ev _ b (by omega) rfl, by simp [wipeE], by simp [wipeE]⟩
  refine ⟨r, f3, (run_rt (n := 1) (m := 5) (b := b15) rfl rfl (o := false) (E1 := [some (.val (dS ss)), some (.own (.lst ((srt (chs ss ss.length)).map tN))), some (.own (.lst (((srt (chs ss ss.length)).map (worth ss)).map nI))), none, none]) ?_).trans rfl⟩
  show execs _ G b15 [some (.val (dS ss)), none, none, none, none] = _
  rw [b15, execs_nx (E1 := [some (.val (dS ss)), some (.own (.lst ((srt (chs ss ss.length)).map tN))), none, none, none]), execs_nx (E1 := [some (.val (dS ss)), some (.own (.lst ((srt (chs ss ss.length)).map tN))), some (.own (.lst (((srt (chs ss ss.length)).map (worth ss)).map nI))), none, none]), execs_rt (o := false)]
  · rw [exec, ev]
    · simp only [opB, asVar, gt, List.getElem?_cons_zero, List.getElem?_cons_succ]
      rw [ev]
      simp only [isLst, gt, List.getElem?_cons_zero, List.getElem?_cons_succ, Sl.d, if_true, opB, asVar]
      rw [ev]
      simp only [opB, asVar, gt, List.getElem?_cons_zero, List.getElem?_cons_succ, fin1, fin2, fetch, Option.map, Sl.d, pr1_max f1, ER.bind, f2, pr2, at_N f4, ER.out]
    · intro i e; cases e
  · rw [exec, ev, walk]
    simp only [opI, asVar, gt, isMut, isLst, Sl.d, rows, lockS, List.getElem?_cons_zero, List.getElem?_cons_succ, if_true, List.set_cons_succ, List.set_cons_zero, IR.comp, calmE, List.all_cons, List.all_nil, Bool.and_self, hc]
    simp [-List.map_map, restE, unlockAll, unlockS, gt, ER.out, tgtO, storeS, locked, Out.only]
  · simp [-List.map_map, execs, exec, evos, evs, args, argV, argD, AR.bind, AR.call, back, ev, tst, opB, truthOf, gt, take, asVar, fin1, fin2, fetch, pr1, pr2, cmpD, bl?, truth, Sl.d, tgt, tgts, tgtOs, tgtO, storeS, locked, Out.only, Out.then, ER.out, ER.bind, ER.test, constOf, isTy, walk, opI, opN, isMut, isLst, lockS, unlockS, unlockAll, rows, IR.for_, IR.comp, IR.calm, calmE, lastPs, lastH, putS, atD, finM, hch]
end Law
namespace Law
open Rx
def oP : Option (Nat × Nat) → D
  | none => .non
  | some p => .tup [.int (p.1 : Nat), .int (p.2 : Nat)]
def isFree (fr : Nat → Bool) (b t : Nat) : Bool := decide (t ≤ b) && fr t
def newB (best : Option (Nat × Nat)) (s t : Nat) : Option (Nat × Nat) := match best with
  | none => some (s, t - 1)
  | some p => if p.2 - p.1 + 1 < t - s then some (s, t - 1) else some p
def lfB (fr : Nat → Bool) (b : Nat) (best : Option (Nat × Nat)) (start : Option Nat) (t : Nat) : Option (Nat × Nat) := match isFree fr b t, start with
  | false, some s => newB best s t
  | _, _ => best
def lfS (fr : Nat → Bool) (b : Nat) (start : Option Nat) (t : Nat) : Option Nat := match isFree fr b t, start with
  | false, _ => none
  | true, some s => some s
  | true, none => some t
/-! ### what a best run is -/
def Run (fr : Nat → Bool) (a b s e : Nat) : Prop := a ≤ s ∧ s ≤ e ∧ e ≤ b ∧ ∀ n, s ≤ n → n ≤ e → fr n = true
def BestL (fr : Nat → Bool) (a b lim : Nat) (best : Option (Nat × Nat)) : Prop := match best with
  | none => ∀ s e, Run fr a b s e → e < lim → False
  | some p => Run fr a b p.1 p.2 ∧ p.2 < lim ∧ ∀ s e, Run fr a b s e → e < lim → e - s < p.2 - p.1 ∨ (e - s = p.2 - p.1 ∧ p.1 ≤ s)
def LInv (fr : Nat → Bool) (a b t : Nat) (best : Option (Nat × Nat)) (start : Option Nat) : Prop := a ≤ t ∧ match start with
  | some s => a ≤ s ∧ s < t ∧ (∀ n, s ≤ n → n < t → fr n = true) ∧ (s = a ∨ fr (s - 1) = false) ∧ t ≤ b + 1 ∧ BestL fr a b s best
  | none => (t = a ∨ fr (t - 1) = false ∨ b + 1 < t) ∧ BestL fr a b t best
theorem lf_step {fr : Nat → Bool} {a b t : Nat} {best : Option (Nat × Nat)} {start : Option Nat} (h : LInv fr a b t best start) (ht : t ≤ b + 1) : LInv fr a b (t + 1) (lfB fr b best start t) (lfS fr b start t) := by
  obtain ⟨h0, h⟩ := h
  refine ⟨by omega, ?_⟩
  unfold lfB lfS
  cases hf : isFree fr b t with
  | true =>
    simp only [isFree, Bool.and_eq_true, decide_eq_true_eq] at hf
    cases start with
    | none =>
      dsimp only at h ⊢
      refine ⟨h0, by omega, fun n h1 h2 => ?_, ?_, by omega, h.2⟩
      · obtain rfl : n = t := by omega
        exact hf.2
      · rcases h.1 with h | h | h
        · exact .inl h
        · exact .inr h
        · omega
    | some s =>
      dsimp only at h ⊢
      obtain ⟨h1, h2, h3, h4, h5, h6⟩ := h
      refine ⟨h1, by omega, fun n n1 n2 => ?_, h4, by omega, h6⟩
      by_cases e : n = t
      · rw [e]; exact hf.2
      · exact h3 n n1 (by omega)
  | false =>
    have hno : ∀ s e, Run fr a b s e → e < t + 1 → e < t := fun s e ⟨r1, r2, r3, r4⟩ he => by
      by_cases e1 : e = t
      · subst e1
        have := r4 e r2 (Nat.le_refl _)
        simp [isFree, r3, this] at hf
      · omega
    have hend : fr t = false ∨ b + 1 < t + 1 := by
      by_cases hb : t ≤ b
      · left; simpa [isFree, hb] using hf
      · right; omega
    cases start with
    | none =>
      dsimp only at h ⊢
      refine ⟨.inr (by simpa using hend), ?_⟩
      unfold BestL at h ⊢
      cases best with
      | none => exact fun s e r l => h.2 s e r (hno s e r l)
      | some p =>
        obtain ⟨_, g1, g2, g3⟩ := h
        exact ⟨g1, by omega, fun s e r l => g3 s e r (hno s e r l)⟩
    | some s =>
      dsimp only at h ⊢
      obtain ⟨h1, h2, h3, h4, h5, h6⟩ := h
      refine ⟨.inr (by simpa using hend), ?_⟩
      have inner : ∀ s' e, Run fr a b s' e → s ≤ e → s ≤ s' := fun s' e ⟨r1, r2, r3, r4⟩ he => by
        by_cases hs : s ≤ s'
        · exact hs
        · rcases h4 with h4 | h4
          · omega
          · have := r4 (s - 1) (by omega) (by omega)
            rw [h4] at this
            cases this
      have hrun : Run fr a b s (t - 1) := ⟨h1, by omega, by omega, fun n n1 n2 => h3 n n1 (by omega)⟩
      unfold newB
      cases best with
      | none =>
        refine ⟨hrun, by dsimp only; omega, fun s' e r l => ?_⟩
        have l := hno s' e r l
        dsimp only
        by_cases he : e < s
        · exact (h6 s' e r he).elim
        · have := inner s' e r (by omega)
          have := r.2.1
          omega
      | some p =>
        obtain ⟨g1, g2, g3⟩ := h6
        have gg := g1.2.1
        dsimp only
        split
        · rename_i hc
          refine ⟨hrun, by dsimp only; omega, fun s' e r l => ?_⟩
          have l := hno s' e r l
          dsimp only
          by_cases he : e < s
          · have := g3 s' e r he
            omega
          · have := inner s' e r (by omega)
            have := r.2.1
            omega
        · rename_i hc
          refine ⟨g1, by omega, fun s' e r l => ?_⟩
          have l := hno s' e r l
          by_cases he : e < s
          · exact g3 s' e r he
          · have := inner s' e r (by omega)
            have := r.2.1
            omega
/-! ### the walk -/
def frS (ss : Sy) (n : Nat) : Bool := (gu ss n).isEmpty
theorem free_turn (F) {ss : Sy} {a b t : Nat} (hF : ∀ n : Nat, F 11 [.val (dS ss), .val (.int (n : Nat))] = .ok false (.tup ((gu ss n).map nI)) [none, none]) {best : Option (Nat × Nat)} {start : Option Nat} (hI : LInv (frS ss) a b t best start) {z5 z6 : Option Sl} (c5 : Cm z5) (c6 : Cm z6) :
    tgt F G (.nm 5) (nI t) [some (.val (dS ss)), (some (.val (.int ((a : Nat) : Int)))), (some (.val (.int ((b : Nat) : Int)))), some (.val (oP best)), some (.val (oI start)), z5, z6] = .nx [some (.val (dS ss)), (some (.val (.int ((a : Nat) : Int)))), (some (.val (.int ((b : Nat) : Int)))), some (.val (oP best)), some (.val (oI start)), (some (.val (.int ((t : Nat) : Int)))), z6] ∧
    execs F G b16_0 [some (.val (dS ss)), (some (.val (.int ((a : Nat) : Int)))), (some (.val (.int ((b : Nat) : Int)))), some (.val (oP best)), some (.val (oI start)), (some (.val (.int ((t : Nat) : Int)))), z6] = .nx [some (.val (dS ss)), (some (.val (.int ((a : Nat) : Int)))), (some (.val (.int ((b : Nat) : Int)))), some (.val (oP (lfB (frS ss) b best start t))), some (.val (oI (lfS (frS ss) b start t))), (some (.val (.int ((t : Nat) : Int)))), (some (.val (.bl (isFree (frS ss) b t))))] := by
  refine ⟨by rcases c5 with rfl | ⟨d, rfl⟩ <;> simp [execs, exec, evos, evs, args, argV, argD, AR.bind, AR.call, back, ev, tst, opB, truthOf, gt, take, asVar, fin1, fin2, fetch, pr1, pr2, cmpD, bl?, truth, Sl.d, tgt, tgts, tgtOs, tgtO, storeS, locked, Out.only, Out.then, ER.out, ER.bind, ER.test, constOf, isTy, walk, opI, opN, isMut, isLst, lockS, unlockS, unlockAll, rows, IR.for_, IR.comp, IR.calm, calmE, lastPs, lastH, putS, atD, finM, nI], ?_⟩
  have s1 : exec F G (.asg (.nm 6) (.and (.cmp .le (.var 5) (.var 2)) (.one (.not (.call 11 (.cons (.var 0) (.cons (.var 5) .nil))))))) [some (.val (dS ss)), (some (.val (.int ((a : Nat) : Int)))), (some (.val (.int ((b : Nat) : Int)))), some (.val (oP best)), some (.val (oI start)), (some (.val (.int ((t : Nat) : Int)))), z6] = .nx [some (.val (dS ss)), (some (.val (.int ((a : Nat) : Int)))), (some (.val (.int ((b : Nat) : Int)))), some (.val (oP best)), some (.val (oI start)), (some (.val (.int ((t : Nat) : Int)))), (some (.val (.bl (isFree (frS ss) b t))))] := by
    have hh := hF t
    rw [exec, ev]
    by_cases hb : t ≤ b
    · have e : isFree (frS ss) b t = (gu ss t).isEmpty := by simp [isFree, frS, hb]
      rw [e]
      simp only [ev, opB, asVar, gt, List.getElem?_cons_zero, List.getElem?_cons_succ, fin2, fetch, Option.map, Sl.d, cmpD, bl?, ER.test, ER.bind, args, argV, AR.bind, AR.call, hh, back, fin1, truth]
      rcases c6 with rfl | ⟨d, rfl⟩ <;> simp [hb, ER.out, tgtO, storeS, locked, gt, Out.only]
    · have e : isFree (frS ss) b t = false := by simp [isFree, hb]
      rw [e]
      simp only [ev, opB, asVar, gt, List.getElem?_cons_zero, List.getElem?_cons_succ, fin2, fetch, Option.map, Sl.d, cmpD, bl?, ER.test, ER.bind]
      rcases c6 with rfl | ⟨d, rfl⟩ <;> simp [hb, ER.out, tgtO, storeS, locked, gt, Out.only]
  rw [b16_0, execs_nx s1]
  unfold lfB lfS
  obtain ⟨h0, hI⟩ := hI
  cases hf : isFree (frS ss) b t with
  | true =>
    cases start with
    | none => simp [execs, exec, evos, evs, args, argV, argD, AR.bind, AR.call, back, ev, tst, opB, truthOf, gt, take, asVar, fin1, fin2, fetch, pr1, pr2, cmpD, bl?, truth, Sl.d, tgt, tgts, tgtOs, tgtO, storeS, locked, Out.only, Out.then, ER.out, ER.bind, ER.test, constOf, isTy, walk, opI, opN, isMut, isLst, lockS, unlockS, unlockAll, rows, IR.for_, IR.comp, IR.calm, calmE, lastPs, lastH, putS, atD, finM, oI]
    | some s => simp [execs, exec, evos, evs, args, argV, argD, AR.bind, AR.call, back, ev, tst, opB, truthOf, gt, take, asVar, fin1, fin2, fetch, pr1, pr2, cmpD, bl?, truth, Sl.d, tgt, tgts, tgtOs, tgtO, storeS, locked, Out.only, Out.then, ER.out, ER.bind, ER.test, constOf, isTy, walk, opI, opN, isMut, isLst, lockS, unlockS, unlockAll, rows, IR.for_, IR.comp, IR.calm, calmE, lastPs, lastH, putS, atD, finM, oI]
  | false =>
    cases start with
    | none => simp [execs, exec, evos, evs, args, argV, argD, AR.bind, AR.call, back, ev, tst, opB, truthOf, gt, take, asVar, fin1, fin2, fetch, pr1, pr2, cmpD, bl?, truth, Sl.d, tgt, tgts, tgtOs, tgtO, storeS, locked, Out.only, Out.then, ER.out, ER.bind, ER.test, constOf, isTy, walk, opI, opN, isMut, isLst, lockS, unlockS, unlockAll, rows, IR.for_, IR.comp, IR.calm, calmE, lastPs, lastH, putS, atD, finM, oI]
    | some s =>
      obtain ⟨h1, h2, h3, h4, h5, h6⟩ := hI
      have e1 : (t : Int) - 1 = ((t - 1 : Nat) : Int) := by omega
      cases best with
      | none => simp [execs, exec, evos, evs, args, argV, argD, AR.bind, AR.call, back, ev, tst, opB, truthOf, gt, take, asVar, fin1, fin2, fetch, pr1, pr2, cmpD, bl?, truth, Sl.d, tgt, tgts, tgtOs, tgtO, storeS, locked, Out.only, Out.then, ER.out, ER.bind, ER.test, constOf, isTy, walk, opI, opN, isMut, isLst, lockS, unlockS, unlockAll, rows, IR.for_, IR.comp, IR.calm, calmE, lastPs, lastH, putS, atD, finM, oI, oP, newB, e1]
      | some p =>
        have hp := h6.1.2.1
        by_cases hc : p.2 - p.1 + 1 < t - s
        · have hc2 : (p.2 : Int) - (p.1 : Int) + 1 < (t : Int) - (s : Int) := by omega
          simp [execs, exec, evos, evs, args, argV, argD, AR.bind, AR.call, back, ev, tst, opB, truthOf, gt, take, asVar, fin1, fin2, fetch, pr1, pr2, cmpD, bl?, truth, Sl.d, tgt, tgts, tgtOs, tgtO, storeS, locked, Out.only, Out.then, ER.out, ER.bind, ER.test, constOf, isTy, walk, opI, opN, isMut, isLst, lockS, unlockS, unlockAll, rows, IR.for_, IR.comp, IR.calm, calmE, lastPs, lastH, putS, atD, finM, oI, oP, newB, e1, hc, hc2]
        · have hc2 : ¬ (p.2 : Int) - (p.1 : Int) + 1 < (t : Int) - (s : Int) := by omega
          simp [execs, exec, evos, evs, args, argV, argD, AR.bind, AR.call, back, ev, tst, opB, truthOf, gt, take, asVar, fin1, fin2, fetch, pr1, pr2, cmpD, bl?, truth, Sl.d, tgt, tgts, tgtOs, tgtO, storeS, locked, Out.only, Out.then, ER.out, ER.bind, ER.test, constOf, isTy, walk, opI, opN, isMut, isLst, lockS, unlockS, unlockAll, rows, IR.for_, IR.comp, IR.calm, calmE, lastPs, lastH, putS, atD, finM, oI, oP, newB, e1, hc, hc2]
theorem free_loop (F) {ss : Sy} {a b : Nat} (hF : ∀ n : Nat, F 11 [.val (dS ss), .val (.int (n : Nat))] = .ok false (.tup ((gu ss n).map nI)) [none, none]) : ∀ (n t : Nat) (best : Option (Nat × Nat)) (start : Option Nat) (z5 z6 : Option Sl), t + n = b + 2 → LInv (frS ss) a b t best start → Cm z5 → Cm z6 →
    ∃ best' start' z5' z6', LInv (frS ss) a b (b + 2) best' start' ∧ forL (tgt F G (.nm 5)) (execs F G b16_0) ((List.range' t n).map nI) [some (.val (dS ss)), (some (.val (.int ((a : Nat) : Int)))), (some (.val (.int ((b : Nat) : Int)))), some (.val (oP best)), some (.val (oI start)), z5, z6] = .nx [some (.val (dS ss)), (some (.val (.int ((a : Nat) : Int)))), (some (.val (.int ((b : Nat) : Int)))), some (.val (oP best')), some (.val (oI start')), z5', z6']
  | 0, t, best, start, z5, z6, ht, hI, c5, c6 => ⟨best, start, z5, z6, by rw [← ht]; exact hI, by simp [forL]⟩
  | n + 1, t, best, start, z5, z6, ht, hI, c5, c6 => by
    obtain ⟨g1, g2⟩ := free_turn F hF hI c5 c6
    obtain ⟨best', start', z5', z6', i1, i2⟩ := free_loop F hF n (t + 1) (lfB (frS ss) b best start t) (lfS (frS ss) b start t) (some (.val (.int ((t : Nat) : Int)))) (some (.val (.bl (isFree (frS ss) b t)))) (by omega) (lf_step hI (by omega)) (.inr ⟨_, rfl⟩) (.inr ⟨_, rfl⟩)
    exact ⟨best', start', z5', z6', i1, by rw [List.range'_succ, List.map_cons, forL_cons g1 g2, i2]⟩
theorem lf_start {fr : Nat → Bool} {a b : Nat} : LInv fr a b a none none := ⟨Nat.le_refl _, .inl rfl, fun s e r l => by have := r.1; have := r.2.1; omega⟩
theorem lf_end {fr : Nat → Bool} {a b : Nat} {best : Option (Nat × Nat)} {start : Option Nat} (h : LInv fr a b (b + 2) best start) : BestL fr a b (b + 2) best := by
  obtain ⟨h0, h⟩ := h
  cases start with
  | some s => dsimp only at h; omega
  | none => exact h.2
theorem c_free {ss : Sy} (hl : ss.length ≤ 1000) {k a b : Nat} (hab : a ≤ b) (hb : b ≤ 1000) : ∃ best, BestL (frS ss) a b (b + 2) best ∧ callK T G (k + 3) 16 [.val (dS ss), .val (.int (a : Nat)), .val (.int (b : Nat))] = match best with
    | none => .ex "Missing" [none, none, none]
    | some p => .ok false (oP (some p)) [none, none, none] := by
  obtain ⟨best, start, z5, z6, i1, i2⟩ := free_loop (callK T G (k + 2)) (ss := ss) (a := a) (b := b) (fun n => c_guests hl) (b + 2 - a) a none none none none (by omega) lf_start (.inl rfl) (.inl rfl)
  refine ⟨best, lf_end i1, ?_⟩
  have s1 : exec (callK T G (k + 2)) G (.par (.cons (.nm 3) (.cons (.nm 4) .nil)) (.cons (.cst .non) (.cons (.cst .non) .nil))) [some (.val (dS ss)), (some (.val (.int ((a : Nat) : Int)))), (some (.val (.int ((b : Nat) : Int)))), none, none, none, none] = .nx [some (.val (dS ss)), (some (.val (.int ((a : Nat) : Int)))), (some (.val (.int ((b : Nat) : Int)))), some (.val (oP none)), some (.val (oI none)), none, none] := by
    simp [execs, exec, evos, evs, args, argV, argD, AR.bind, AR.call, back, ev, tst, opB, truthOf, gt, take, asVar, fin1, fin2, fetch, pr1, pr2, cmpD, bl?, truth, Sl.d, tgt, tgts, tgtOs, tgtO, storeS, locked, Out.only, Out.then, ER.out, ER.bind, ER.test, constOf, isTy, walk, opI, opN, isMut, isLst, lockS, unlockS, unlockAll, rows, IR.for_, IR.comp, IR.calm, calmE, lastPs, lastH, putS, atD, finM, oP, oI]
  have s2 : exec (callK T G (k + 2)) G (.for_ (.nm 5) (.range2 (.var 1) (.p2 .add (.var 2) (.cst (.int 2)))) b16_0) [some (.val (dS ss)), (some (.val (.int ((a : Nat) : Int)))), (some (.val (.int ((b : Nat) : Int)))), some (.val (oP none)), some (.val (oI none)), none, none] = .nx [some (.val (dS ss)), (some (.val (.int ((a : Nat) : Int)))), (some (.val (.int ((b : Nat) : Int)))), some (.val (oP best)), some (.val (oI start)), z5, z6] := by
    have e2 : ((b : Int) + 2) = ((b + 2 : Nat) : Int) := by omega
    have hg : rgOk (a : Int) ((b + 2 : Nat) : Int) = true := by simp [rgOk]; omega
    rw [exec, walk]
    simp only [opN, ev, opB, asVar, take, gt, List.getElem?_cons_zero, List.getElem?_cons_succ, ER.bind, fin2, fetch, Option.map, Sl.d, pr2, e2, hg, if_true, IR.for_, rangeD_nat, i2]
    rfl
  cases best with
  | none =>
    refine (run_ex (n := 3) (m := 7) (b := b16) (c := "Missing") (E1 := [some (.val (dS ss)), (some (.val (.int ((a : Nat) : Int)))), (some (.val (.int ((b : Nat) : Int)))), some (.val (oP none)), some (.val (oI start)), z5, z6]) rfl rfl ?_).trans rfl
    show execs _ G b16 [some (.val (dS ss)), (some (.val (.int ((a : Nat) : Int)))), (some (.val (.int ((b : Nat) : Int)))), none, none, none, none] = _
    rw [b16, execs_nx s1, execs_nx s2]
    simp [execs, exec, evos, evs, args, argV, argD, AR.bind, AR.call, back, ev, tst, opB, truthOf, gt, take, asVar, fin1, fin2, fetch, pr1, pr2, cmpD, bl?, truth, Sl.d, tgt, tgts, tgtOs, tgtO, storeS, locked, Out.only, Out.then, ER.out, ER.bind, ER.test, constOf, isTy, walk, opI, opN, isMut, isLst, lockS, unlockS, unlockAll, rows, IR.for_, IR.comp, IR.calm, calmE, lastPs, lastH, putS, atD, finM, oP]
  | some p =>
    refine (run_rt (n := 3) (m := 7) (b := b16) rfl rfl (o := false) (E1 := [some (.val (dS ss)), (some (.val (.int ((a : Nat) : Int)))), (some (.val (.int ((b : Nat) : Int)))), some (.val (oP (some p))), some (.val (oI start)), z5, z6]) ?_).trans rfl
    show execs _ G b16 [some (.val (dS ss)), (some (.val (.int ((a : Nat) : Int)))), (some (.val (.int ((b : Nat) : Int)))), none, none, none, none] = _
    rw [b16, execs_nx s1, execs_nx s2, execs_nx (E1 := [some (.val (dS ss)), (some (.val (.int ((a : Nat) : Int)))), (some (.val (.int ((b : Nat) : Int)))), some (.val (oP (some p))), some (.val (oI start)), z5, z6]), execs_rt (o := false)]
    · simp [execs, exec, evos, evs, args, argV, argD, AR.bind, AR.call, back, ev, tst, opB, truthOf, gt, take, asVar, fin1, fin2, fetch, pr1, pr2, cmpD, bl?, truth, Sl.d, tgt, tgts, tgtOs, tgtO, storeS, locked, Out.only, Out.then, ER.out, ER.bind, ER.test, constOf, isTy, walk, opI, opN, isMut, isLst, lockS, unlockS, unlockAll, rows, IR.for_, IR.comp, IR.calm, calmE, lastPs, lastH, putS, atD, finM]
    · simp [execs, exec, evos, evs, args, argV, argD, AR.bind, AR.call, back, ev, tst, opB, truthOf, gt, take, asVar, fin1, fin2, fetch, pr1, pr2, cmpD, bl?, truth, Sl.d, tgt, tgts, tgtOs, tgtO, storeS, locked, Out.only, Out.then, ER.out, ER.bind, ER.test, constOf, isTy, walk, opI, opN, isMut, isLst, lockS, unlockS, unlockAll, rows, IR.for_, IR.comp, IR.calm, calmE, lastPs, lastH, putS, atD, finM, oP]
theorem c_told1 {ss : Sy} (hl : ss.length ≤ 1000) {k a b : Nat} (hab : a ≤ b) (hb : b ≤ 1000) : ∃ best, BestL (frS ss) a b (b + 2) best ∧ callK T G (k + 4) 25 [.val (.int 1), .val (dS ss), .val (.int (a : Nat)), .val (.int (b : Nat))] = .ok false (oP best) [none, none, none, none] := by
  obtain ⟨best, h1, h2⟩ := c_free hl (k := k) hab hb
  refine ⟨best, h1, (run_rt (n := 4) (m := 4) (b := b25) rfl rfl (o := false) (E1 := [some (.val (.int 1)), some (.val (dS ss)), (some (.val (.int ((a : Nat) : Int)))), (some (.val (.int ((b : Nat) : Int))))]) ?_).trans rfl⟩
  show execs (callK T G (k + 3)) G b25 [some (.val (.int 1)), some (.val (dS ss)), (some (.val (.int ((a : Nat) : Int)))), (some (.val (.int ((b : Nat) : Int))))] = _
  cases best with
  | none =>
    rw [b25, execs_rt (o := false)]
    simp [execs, exec, evos, evs, args, argV, argD, AR.bind, AR.call, back, ev, tst, opB, truthOf, gt, take, asVar, fin1, fin2, fetch, pr1, pr2, cmpD, bl?, truth, Sl.d, tgt, tgts, tgtOs, tgtO, storeS, locked, Out.only, Out.then, ER.out, ER.bind, ER.test, constOf, isTy, walk, opI, opN, isMut, isLst, lockS, unlockS, unlockAll, rows, IR.for_, IR.comp, IR.calm, calmE, lastPs, lastH, putS, atD, finM, plain, eqv, h2, oP]
  | some p =>
    rw [b25, execs_rt (o := false)]
    simp [execs, exec, evos, evs, args, argV, argD, AR.bind, AR.call, back, ev, tst, opB, truthOf, gt, take, asVar, fin1, fin2, fetch, pr1, pr2, cmpD, bl?, truth, Sl.d, tgt, tgts, tgtOs, tgtO, storeS, locked, Out.only, Out.then, ER.out, ER.bind, ER.test, constOf, isTy, walk, opI, opN, isMut, isLst, lockS, unlockS, unlockAll, rows, IR.for_, IR.comp, IR.calm, calmE, lastPs, lastH, putS, atD, finM, plain, eqv, h2, oP]
end Law
namespace Law
open Rx
abbrev Fd := List (Nat × Option Nat)
def fK (fd : Fd) : List L2.Key := fd.map fun p => .inl (p.1 : Int)
def fV (fd : Fd) : List D := fd.map fun p => oI p.2
def fD (fd : Fd) : D := .dk (fK fd) (fV fd)
def itS (p : Nat × Option Nat) : D := .tup [.int (p.1 : Nat), oI p.2]
def Cn (z : Option Sl) : Prop := z = none ∨ (∃ d, z = some (.val d)) ∨ ∃ d, z = some (.own d)
theorem items_fd : ∀ (fd : Fd), itemsD (fK fd) (fV fd) = fd.map itS
  | [] => rfl
  | p :: fd => by
    have := items_fd fd
    simp only [itemsD, fK, fV, List.map_cons, List.zip_cons_cons] at this ⊢
    rw [this]
    rfl
theorem keys_fd (fd : Fd) : (fK fd).map ofKey = fd.map fun p => nI p.1 := by
  simp [fK, ofKey, nI]
theorem get_fd {fd : Fd} {k : Nat} : dget (fK fd) (fV fd) (.inl (k : Int)) = (fd.find? fun p => decide (p.1 = k)).map fun p => oI p.2 := by
  induction fd with
  | nil => rfl
  | cons p fd ih =>
    simp only [fK, fV, List.map_cons, dget] at ih ⊢
    by_cases h : p.1 = k
    · rw [if_pos (by rw [h]), List.find?_cons_of_pos (by simpa using h)]; rfl
    · rw [if_neg (fun e => h (by have := Sum.inl.inj e; omega)), List.find?_cons_of_neg (by simpa using h), ih]
theorem put_fd {fd : Fd} {k : Nat} {v : Option Nat} (h : ∀ p ∈ fd, p.1 ≠ k) (hz : fd.length < SZ) : setD G (fD fd) (.int (k : Nat)) (oI v) = some (fD (fd ++ [(k, v)])) := by
  have e : setD G (fD fd) (.int (k : Nat)) (oI v) = (if (fK fd).length < SZ then some (.dk (dputK (fK fd) (.inl (k : Int))) (dputV (fK fd) (fV fd) (.inl (k : Int)) (oI v))) else none) := rfl
  have hm : (Sum.inl (k : Int) : L2.Key) ∉ fK fd := fun m => by
    obtain ⟨p, hp, e⟩ := List.mem_map.mp m
    have := h p hp
    simp at e
    omega
  rw [e, if_pos (by simpa [fK] using hz), dputK, if_neg hm, dputV, if_neg hm]
  simp [fD, fK, fV]
def freeB (beds : Nat) (taken : List (Option Nat)) : List Nat := (List.range beds).filter fun b => !taken.contains (some b)
def pickB (beds : Nat) (taken : List (Option Nat)) : Option Nat := (freeB beds taken).head?
def takenP (ss : Sy) (fd : Fd) (k : Nat) : List (Option Nat) := (fd.filter fun p => clash (gs ss p.1) (gs ss k)).map (·.2)
def stepP (ss : Sy) (beds : Nat) (fd : Fd) (k : Nat) : Fd := fd ++ [(k, pickB beds (takenP ss fd k))]
theorem any_oI {l : List (Option Nat)} {b : Nat} : (l.map oI).any (fun x => eqv x (.int (b : Nat))) = l.contains (some b) := by
  induction l with
  | nil => rfl
  | cons x l ih =>
    rw [List.map_cons, List.any_cons, ih, List.contains_cons]
    congr 1
    cases x with
    | none => rfl
    | some n =>
      show ((n : Int) == (b : Int)) = _
      by_cases h : b = n
      · subst h; simp
      · have : ¬ (n : Int) = (b : Int) := by omega
        have e1 : ((n : Int) == (b : Int)) = false := by simpa using this
        have e2 : (some b == some n) = false := by simpa using h
        rw [e1, e2]
theorem plains_oI {l : List (Option Nat)} : plain DP (.lst (l.map oI)) = true := by
  have : plains 39 (l.map oI) = true := by
    induction l with
    | nil => rfl
    | cons x l ih =>
      rw [List.map_cons, plains, ih]
      cases x <;> rfl
  exact this
theorem notin_oI {l : List (Option Nat)} {b : Nat} : cmpD G .notin (.int (b : Nat)) (.lst (l.map oI)) = some (!l.contains (some b)) := by
  have e : cmpD G .notin (.int (b : Nat)) (.lst (l.map oI)) = (if (plain DP (.int (b : Nat)) && plain DP (.lst (l.map oI))) = true then some (!((l.map oI).any fun x => eqv x (.int (b : Nat)))) else none) := rfl
  rw [e, plains_oI, any_oI]
  rfl
/-! ### moved in, the walk -/
theorem taken_ex (F) {ss : Sy} {bd k : Nat} {fd : Fd} (hF : ∀ p q, F 13 [.val (rowS p), .val (rowS q)] = .ok false (.bl (clash p q)) [none, none]) (hk : k < ss.length) (hfd : ∀ p ∈ fd, p.1 < ss.length) (hz : fd.length ≤ 1000) {z3 z6 z9 : Option Sl} (c6 : Cn z6) :
    exec F G (.asg (.nm 6) (.lcd b17_3 (.tup (.cons (.nm 7) (.cons (.nm 8) .nil))) 2 true (some (.call 13 (.cons (.p2 .item (.var 0) (.var 7)) (.cons (.p2 .item (.var 0) (.var 4)) .nil)))) [7, 8])) [some (.val (dS ss)), (some (.val (.int ((bd : Nat) : Int)))), some (.own (fD fd)), z3, (some (.val (.int ((k : Nat) : Int)))), none, z6, none, none, z9] =
      .nx [some (.val (dS ss)), (some (.val (.int ((bd : Nat) : Int)))), some (.own (fD fd)), z3, (some (.val (.int ((k : Nat) : Int)))), none, (some (.own (.lst ((takenP ss fd k).map oI)))), none, none, z9] := by
  have hc : compL [7, 8] (tgt F G (.tup (.cons (.nm 7) (.cons (.nm 8) .nil)))) (tst F G (.call 13 (.cons (.p2 .item (.var 0) (.var 7)) (.cons (.p2 .item (.var 0) (.var 4)) .nil)))) (ev F G b17_3) (fd.map itS) [] [some (.val (dS ss)), (some (.val (.int ((bd : Nat) : Int)))), some (.lck true (fD fd)), z3, (some (.val (.int ((k : Nat) : Int)))), none, z6, none, none, z9] =
      .ok true (.lst ((takenP ss fd k).map oI)) [some (.val (dS ss)), (some (.val (.int ((bd : Nat) : Int)))), some (.lck true (fD fd)), z3, (some (.val (.int ((k : Nat) : Int)))), none, z6, none, none, z9] := by
    rw [comp_of (f := itS) (p := fun p => clash (gs ss p.1) (gs ss k)) (g := fun p => oI p.2) (fun p hp => ?_) (by simpa using SZ_big hz), List.nil_append]
    · simp [takenP, wipeE]
    · have a1 := at_S (hfd p hp)
      have a2 := at_S hk
      refine ⟨[some (.val (dS ss)), (some (.val (.int ((bd : Nat) : Int)))), some (.lck true (fD fd)), z3, (some (.val (.int ((k : Nat) : Int)))), none, z6, (some (.val (.int ((p.1 : Nat) : Int)))), some (.val (oI p.2)), z9], [some (.val (dS ss)), (some (.val (.int ((bd : Nat) : Int)))), some (.lck true (fD fd)), z3, (some (.val (.int ((k : Nat) : Int)))), none, z6, (some (.val (.int ((p.1 : Nat) : Int)))), some (.val (oI p.2)), z9], false, by simp [execs, exec, evos, evs, args, argV, argD, AR.bind, AR.call, back, ev, tst, opB, truthOf, gt, take, asVar, fin1, fin2, fetch, pr1, pr2, cmpD, bl?, truth, Sl.d, tgt, tgts, tgtOs, tgtO, storeS, locked, Out.only, Out.then, ER.out, ER.bind, ER.test, constOf, isTy, walk, opI, opN, isMut, isLst, lockS, unlockS, unlockAll, rows, IR.for_, IR.comp, IR.calm, calmE, lastPs, lastH, putS, atD, finM, wipeE, unpk, Tgs.len, itS], ?_, by simp [wipeE], fun _ => ⟨false, [some (.val (dS ss)), (some (.val (.int ((bd : Nat) : Int)))), some (.lck true (fD fd)), z3, (some (.val (.int ((k : Nat) : Int)))), none, z6, (some (.val (.int ((p.1 : Nat) : Int)))), some (.val (oI p.2)), z9], by simp [execs, exec, evos, evs, args, argV, argD, AR.bind, AR.call, back, ev, tst, opB, truthOf, gt, take, asVar, fin1, fin2, fetch, pr1, pr2, cmpD, bl?, truth, Sl.d, tgt, tgts, tgtOs, tgtO, storeS, locked, Out.only, Out.then, ER.out, ER.bind, ER.test, constOf, isTy, walk, opI, opN, isMut, isLst, lockS, unlockS, unlockAll, rows, IR.for_, IR.comp, IR.calm, calmE, lastPs, lastH, putS, atD, finM, b17_3], by simp [wipeE]⟩⟩
      rw [tst]
      · simp only [truthOf, opB, asVar, ev, args, argD, gt, List.getElem?_cons_zero, List.getElem?_cons_succ, fin2, fetch, Option.map, Sl.d, pr2, dS, a1, a2, ER.bind, AR.bind, AR.call, hF, back, fin1, truth, bl?]
      all_goals (intros; rename_i e; cases e)
  rw [exec, ev]
  simp only [dkAt, gt, List.getElem?_cons_zero, List.getElem?_cons_succ, fD, rowsK, if_true, items_fd, lockS, List.set_cons_succ, List.set_cons_zero, IR.comp, calmE, List.all_cons, List.all_nil, Bool.and_self]
  rw [← fD, hc]
  rcases c6 with rfl | ⟨d, rfl⟩ | ⟨d, rfl⟩ <;> simp [-List.map_map, restE, unlockAll, ER.unl, unlockS, gt, ER.out, tgtO, storeS, locked, Out.only]
theorem free_ex (F) {ss : Sy} {bd k : Nat} {fd : Fd} (hb : bd ≤ 1000) {tk : List (Option Nat)} {z3 z9 : Option Sl} (c9 : Cn z9) :
    exec F G (.asg (.nm 9) (.lc b17_2 (.nm 8) (.range1 (.var 1)) (some (.cmp .notin (.var 8) (.var 6))) [8])) [some (.val (dS ss)), (some (.val (.int ((bd : Nat) : Int)))), some (.own (fD fd)), z3, (some (.val (.int ((k : Nat) : Int)))), none, (some (.own (.lst (tk.map oI)))), none, none, z9] =
      .nx [some (.val (dS ss)), (some (.val (.int ((bd : Nat) : Int)))), some (.own (fD fd)), z3, (some (.val (.int ((k : Nat) : Int)))), none, (some (.own (.lst (tk.map oI)))), none, none, (some (.own (.lst ((freeB bd tk).map nI))))] := by
  have hc : compL [8] (tgt F G (.nm 8)) (tst F G (.cmp .notin (.var 8) (.var 6))) (ev F G b17_2) (rangeD 0 (bd : Int)) [] [some (.val (dS ss)), (some (.val (.int ((bd : Nat) : Int)))), some (.own (fD fd)), z3, (some (.val (.int ((k : Nat) : Int)))), none, (some (.own (.lst (tk.map oI)))), none, none, z9] =
      .ok true (.lst ((freeB bd tk).map nI)) [some (.val (dS ss)), (some (.val (.int ((bd : Nat) : Int)))), some (.own (fD fd)), z3, (some (.val (.int ((k : Nat) : Int)))), none, (some (.own (.lst (tk.map oI)))), none, none, z9] := by
    rw [range_0, comp_of (f := nI) (p := fun b => !tk.contains (some b)) (g := nI) (fun b hm => ?_) (by simpa using SZ_big hb), List.nil_append]
    · simp [freeB, wipeE]
    · refine ⟨[some (.val (dS ss)), (some (.val (.int ((bd : Nat) : Int)))), some (.own (fD fd)), z3, (some (.val (.int ((k : Nat) : Int)))), none, some (.own (.lst (tk.map oI))), none, (some (.val (.int ((b : Nat) : Int)))), z9], [some (.val (dS ss)), (some (.val (.int ((bd : Nat) : Int)))), some (.own (fD fd)), z3, (some (.val (.int ((k : Nat) : Int)))), none, some (.own (.lst (tk.map oI))), none, (some (.val (.int ((b : Nat) : Int)))), z9], false, by simp [execs, exec, evos, evs, args, argV, argD, AR.bind, AR.call, back, ev, tst, opB, truthOf, gt, take, asVar, fin1, fin2, fetch, pr1, pr2, cmpD, bl?, truth, Sl.d, tgt, tgts, tgtOs, tgtO, storeS, locked, Out.only, Out.then, ER.out, ER.bind, ER.test, constOf, isTy, walk, opI, opN, isMut, isLst, lockS, unlockS, unlockAll, rows, IR.for_, IR.comp, IR.calm, calmE, lastPs, lastH, putS, atD, finM, wipeE, nI], ?_, by simp [wipeE], fun _ => ⟨false, [some (.val (dS ss)), (some (.val (.int ((bd : Nat) : Int)))), some (.own (fD fd)), z3, (some (.val (.int ((k : Nat) : Int)))), none, some (.own (.lst (tk.map oI))), none, (some (.val (.int ((b : Nat) : Int)))), z9], by simp [execs, exec, evos, evs, args, argV, argD, AR.bind, AR.call, back, ev, tst, opB, truthOf, gt, take, asVar, fin1, fin2, fetch, pr1, pr2, cmpD, bl?, truth, Sl.d, tgt, tgts, tgtOs, tgtO, storeS, locked, Out.only, Out.then, ER.out, ER.bind, ER.test, constOf, isTy, walk, opI, opN, isMut, isLst, lockS, unlockS, unlockAll, rows, IR.for_, IR.comp, IR.calm, calmE, lastPs, lastH, putS, atD, finM, b17_2, nI], by simp [wipeE]⟩⟩
      rw [tst]
      simp only [opB, asVar, gt, List.getElem?_cons_zero, List.getElem?_cons_succ, fin2, fetch, Option.map, Sl.d, notin_oI, bl?]
  have hg : rgOk 0 (bd : Int) = true := by simp [rgOk]; omega
  rw [exec, ev, walk]
  simp only [opN, ev, take, gt, List.getElem?_cons_zero, List.getElem?_cons_succ, hg, if_true, IR.comp, calmE, List.all_cons, List.all_nil, Bool.and_self, hc]
  rcases c9 with rfl | ⟨d, rfl⟩ | ⟨d, rfl⟩ <;> simp [-List.map_map, restE, unlockAll, ER.out, tgtO, storeS, locked, gt, Out.only]
theorem put_ex (F) {ss : Sy} {bd k : Nat} {fd : Fd} (hk : ∀ p ∈ fd, p.1 ≠ k) (hz : fd.length ≤ 1000) {fb : List Nat} {z3 z6 : Option Sl} :
    exec F G (.asg (.sub 2 (.var 4)) (.ifx (.var 9) (.p2 .item (.var 9) (.cst (.int 0))) (.cst .non))) [some (.val (dS ss)), (some (.val (.int ((bd : Nat) : Int)))), some (.own (fD fd)), z3, (some (.val (.int ((k : Nat) : Int)))), none, z6, none, none, (some (.own (.lst (fb.map nI))))] =
      .nx [some (.val (dS ss)), (some (.val (.int ((bd : Nat) : Int)))), some (.own (fD (fd ++ [(k, fb.head?)]))), z3, (some (.val (.int ((k : Nat) : Int)))), none, z6, none, none, (some (.own (.lst (fb.map nI))))] := by
  have hs : fd.length < SZ := Nat.lt_of_le_of_lt hz (by decide)
  have hp := put_fd (v := fb.head?) hk hs
  rw [exec, ev]
  cases fb with
  | nil =>
    simp only [List.head?_nil] at hp ⊢
    simp only [tst, truthOf, opB, asVar, gt, List.getElem?_cons_zero, List.getElem?_cons_succ, fin1, fetch, Option.map, Sl.d, truth, List.map_nil, List.isEmpty, Bool.not_true, bl?, ER.test, ER.bind, Bool.false_eq_true, if_false, ev, ER.out, tgtO, tgt, Out.only, Option.isNone]
    rw [show (D.non) = oI none from rfl, hp]
    rfl
  | cons b fb =>
    simp only [List.head?_cons] at hp ⊢
    simp only [tst, truthOf, opB, asVar, gt, List.getElem?_cons_zero, List.getElem?_cons_succ, fin1, fin2, fetch, Option.map, Sl.d, truth, List.map_cons, List.isEmpty, Bool.not_false, bl?, ER.test, ER.bind, if_true, ev, pr2, show atD (nI b :: fb.map nI) 0 = some (nI b) from rfl, ER.out, tgtO, tgt, Out.only, Option.isNone]
    rw [show nI b = oI (some b) from rfl, hp]
    rfl
theorem moved_loop (F) {ss : Sy} {bd : Nat} (hF : ∀ p q, F 13 [.val (rowS p), .val (rowS q)] = .ok false (.bl (clash p q)) [none, none]) (hb : bd ≤ 1000) : ∀ (js : List Nat) (fd : Fd) (z3 z4 z6 z9 : Option Sl), (∀ j ∈ js, j < ss.length) → (∀ p ∈ fd, p.1 < ss.length) → js.Nodup → (∀ p ∈ fd, p.1 ∉ js) → fd.length + js.length ≤ 1000 → Cm z3 → Cm z4 → Cn z6 → Cn z9 →
    ∃ z3' z4' z6' z9', forL (tgt F G (.tup (.cons (.nm 3) (.cons (.nm 4) .nil)))) (execs F G b17_4) (js.map fun k => tN [(gs ss k).1, k]) [some (.val (dS ss)), (some (.val (.int ((bd : Nat) : Int)))), some (.own (fD fd)), z3, z4, none, z6, none, none, z9] = .nx [some (.val (dS ss)), (some (.val (.int ((bd : Nat) : Int)))), some (.own (fD (js.foldl (stepP ss bd) fd))), z3', z4', none, z6', none, none, z9'] ∧ Cm z4'
  | [], fd, z3, z4, z6, z9, _, _, _, _, _, _, c4, _, _ => ⟨z3, z4, z6, z9, by simp [forL], c4⟩
  | k :: js, fd, z3, z4, z6, z9, hj, hfd, hn, hd, hz, c3, c4, c6, c9 => by
    have hk := hj k (by simp)
    simp only [List.length_cons] at hz
    rw [List.nodup_cons] at hn
    have g1 : tgt F G (.tup (.cons (.nm 3) (.cons (.nm 4) .nil))) (tN [(gs ss k).1, k]) [some (.val (dS ss)), (some (.val (.int ((bd : Nat) : Int)))), some (.own (fD fd)), z3, z4, none, z6, none, none, z9] = .nx [some (.val (dS ss)), (some (.val (.int ((bd : Nat) : Int)))), some (.own (fD fd)), (some (.val (.int (((gs ss k).1 : Nat) : Int)))), (some (.val (.int ((k : Nat) : Int)))), none, z6, none, none, z9] := by
      rcases c3 with rfl | ⟨d, rfl⟩ <;> rcases c4 with rfl | ⟨d, rfl⟩ <;> simp [execs, exec, evos, evs, args, argV, argD, AR.bind, AR.call, back, ev, tst, opB, truthOf, gt, take, asVar, fin1, fin2, fetch, pr1, pr2, cmpD, bl?, truth, Sl.d, tgt, tgts, tgtOs, tgtO, storeS, locked, Out.only, Out.then, ER.out, ER.bind, ER.test, constOf, isTy, walk, opI, opN, isMut, isLst, lockS, unlockS, unlockAll, rows, IR.for_, IR.comp, IR.calm, calmE, lastPs, lastH, putS, atD, finM, tN, nI, unpk, Tgs.len]
    have g2 : execs F G b17_4 [some (.val (dS ss)), (some (.val (.int ((bd : Nat) : Int)))), some (.own (fD fd)), (some (.val (.int (((gs ss k).1 : Nat) : Int)))), (some (.val (.int ((k : Nat) : Int)))), none, z6, none, none, z9] = .nx [some (.val (dS ss)), (some (.val (.int ((bd : Nat) : Int)))), some (.own (fD (stepP ss bd fd k))), (some (.val (.int (((gs ss k).1 : Nat) : Int)))), (some (.val (.int ((k : Nat) : Int)))), none, (some (.own (.lst ((takenP ss fd k).map oI)))), none, none, (some (.own (.lst ((freeB bd (takenP ss fd k)).map nI))))] := by
      rw [b17_4, execs_nx (taken_ex F hF hk hfd (by omega) c6), execs_nx (free_ex F hb c9), execs_nx (put_ex F (fun p hp e => hd p hp (by rw [e]; simp)) (by omega)), execs_end]
      rfl
    obtain ⟨z3', z4', z6', z9', i1, i2⟩ := moved_loop F hF hb js (stepP ss bd fd k) (some (.val (.int (((gs ss k).1 : Nat) : Int)))) (some (.val (.int ((k : Nat) : Int)))) (some (.own (.lst ((takenP ss fd k).map oI)))) (some (.own (.lst ((freeB bd (takenP ss fd k)).map nI)))) (fun j m => hj j (by simp [m])) (fun p hp => by
        rcases List.mem_append.mp hp with hp | hp
        · exact hfd p hp
        · simp at hp; subst hp; exact hk) hn.2 (fun p hp m => by
        rcases List.mem_append.mp hp with hp | hp
        · exact hd p hp (by simp [m])
        · simp at hp; subst hp; exact hn.1 m) (by simp [stepP]; omega) (.inr ⟨_, rfl⟩) (.inr ⟨_, rfl⟩) (.inr (.inr ⟨_, rfl⟩)) (.inr (.inr ⟨_, rfl⟩))
    exact ⟨z3', z4', z6', z9', by rw [List.map_cons, forL_cons g1 g2, i1]; rfl, i2⟩
end Law
namespace Law
open Rx
def ordL (ss : Sy) : List Nat := (List.range 30).flatMap fun n => (List.range ss.length).filter fun k => decide ((gs ss k).1 = n)
def Ear (ss : Sy) : Prop := ∀ k < ss.length, (gs ss k).1 < 30
theorem ord_mem {ss : Sy} (h : Ear ss) {k : Nat} : k ∈ ordL ss ↔ k < ss.length := by
  unfold ordL
  rw [List.mem_flatMap]
  constructor
  · rintro ⟨n, _, hk⟩
    exact List.mem_range.mp (List.mem_filter.mp hk).1
  · intro hk
    exact ⟨(gs ss k).1, List.mem_range.mpr (h k hk), List.mem_filter.mpr ⟨List.mem_range.mpr hk, by simp⟩⟩
theorem ord_pw {ss : Sy} : (ordL ss).Pairwise fun j k => (gs ss j).1 < (gs ss k).1 ∨ ((gs ss j).1 = (gs ss k).1 ∧ j < k) := by
  unfold ordL
  rw [List.pairwise_flatMap]
  constructor
  · intro n _
    have h := (List.pairwise_lt_range (n := ss.length)).filter fun k => decide ((gs ss k).1 = n)
    refine h.imp_of_mem ?_
    intro j k hj hk hjk
    have a := of_decide_eq_true (List.mem_filter.mp hj).2
    have b := of_decide_eq_true (List.mem_filter.mp hk).2
    exact .inr ⟨by omega, hjk⟩
  · refine (List.pairwise_lt_range (n := 30)).imp ?_
    intro m n hmn j hj k hk
    have a := of_decide_eq_true (List.mem_filter.mp hj).2
    have b := of_decide_eq_true (List.mem_filter.mp hk).2
    exact .inl (by omega)
theorem ord_nodup {ss : Sy} : (ordL ss).Nodup := by
  unfold List.Nodup
  exact ord_pw.imp fun h e => by subst e; omega
theorem ord_perm {ss : Sy} (h : Ear ss) : (ordL ss).Perm (List.range ss.length) := by
  rw [List.perm_ext_iff_of_nodup ord_nodup List.nodup_range]
  intro k
  rw [ord_mem h, List.mem_range]
theorem ltL_pair {a b c d : Nat} : ltL (cI [a, b]) (cI [c, d]) = (decide (a < c) || (decide (a = c) && decide (b < d))) := by
  simp only [cI, List.map_cons, List.map_nil, ltL]
  by_cases h1 : a = c
  · subst h1
    by_cases h2 : b = d
    · subst h2; simp
    · simp [h2]; omega
  · have : ¬ (a : Int) = (c : Int) := by omega
    simp [h1]; intro e; omega
theorem srt_ord {ss : Sy} (h : Ear ss) : srt ((List.range ss.length).map fun k => [(gs ss k).1, k]) = (ordL ss).map fun k => [(gs ss k).1, k] := by
  have e : ((ordL ss).map fun k => cI [(gs ss k).1, k]) = sortTI (((List.range ss.length).map fun k => [(gs ss k).1, k]).map cI) := by
    rw [List.map_map]
    refine sortTI_is ((ord_perm h).map _) ?_
    rw [List.pairwise_map]
    refine ord_pw.imp ?_
    intro j k hjk
    rw [ltL_pair]
    simp
    omega
  unfold srt
  rw [← e, List.map_map]
  apply List.map_congr_left
  intro k _
  exact toNat_cI _
theorem fold_keys {ss : Sy} {bd : Nat} : ∀ (js : List Nat) (fd : Fd), (js.foldl (stepP ss bd) fd).map (·.1) = fd.map (·.1) ++ js
  | [], fd => by simp
  | k :: js, fd => by
    rw [List.foldl_cons, fold_keys js]
    simp [stepP]
def movedF (ss : Sy) (bd : Nat) : Fd := (ordL ss).foldl (stepP ss bd) []
def lookF (fd : Fd) (k : Nat) : Option Nat := (fd.find? fun p => decide (p.1 = k)).bind (·.2)
theorem look_ok {fd : Fd} {k : Nat} (h : k ∈ fd.map (·.1)) : dget (fK fd) (fV fd) (.inl (k : Int)) = some (oI (lookF fd k)) := by
  rw [get_fd]
  obtain ⟨p, hp, e⟩ := List.mem_map.mp h
  unfold lookF
  cases hf : fd.find? fun p => decide (p.1 = k) with
  | none => exact absurd e (by simpa using List.find?_eq_none.mp hf p hp)
  | some q => rfl
theorem moved_keys {ss : Sy} {bd : Nat} (h : Ear ss) {k : Nat} (hk : k < ss.length) : k ∈ (movedF ss bd).map (·.1) := by
  unfold movedF
  rw [fold_keys]
  simpa using (ord_mem h).mpr hk
theorem moved_sub {ss : Sy} {bd : Nat} (h : Ear ss) : ∀ p ∈ movedF ss bd, p.1 < ss.length := fun p hp => by
  have : p.1 ∈ (movedF ss bd).map (·.1) := List.mem_map_of_mem hp
  unfold movedF at this
  rw [fold_keys] at this
  simp only [List.map_nil, List.nil_append] at this
  exact (ord_mem h).mp this
theorem pr_item {fd : Fd} {k : Nat} (h : k ∈ fd.map (·.1)) : pr2 G .item (fD fd) (.int (k : Nat)) = some (false, oI (lookF fd k)) := by
  have e : pr2 G .item (fD fd) (.int (k : Nat)) = (match dget (fK fd) (fV fd) (.inl (k : Int)) with
    | some d => some (false, d)
    | none => none) := rfl
  rw [e, look_ok h]
def movedD (ss : Sy) (bd : Nat) : D := .tup ((List.range ss.length).map fun k => oI (lookF (movedF ss bd) k))
theorem sorted_ord {ss : Sy} (h : Ear ss) : pr1 .sorted (.lst ((List.range ss.length).map fun k => tN [(gs ss k).1, k])) = some (true, .lst ((ordL ss).map fun k => tN [(gs ss k).1, k])) := by
  by_cases h0 : ss.length = 0
  · have e : ordL ss = [] := by
      have := (ord_perm h).length_eq
      rw [h0] at this
      exact List.eq_nil_of_length_eq_zero this
    rw [h0, e]
    simp [pr1, isInts]
  · have hn : (List.range ss.length).map (fun k => [(gs ss k).1, k]) ≠ [] := by simpa using h0
    have := pr1_sorted (l := (List.range ss.length).map fun k => [(gs ss k).1, k]) ?_ hn
    · rw [srt_ord h, List.map_map, List.map_map] at this
      exact this
    · rw [List.map_map]
      unfold tupsOk
      rw [Bool.or_eq_true]
      right
      simp [cI]
theorem c_moved {ss : Sy} (h : Ear ss) (hl : ss.length ≤ 500) {k bd : Nat} (hb : bd ≤ 1000) : callK T G (k + 2) 17 [.val (dS ss), .val (.int (bd : Nat))] = .ok false (movedD ss bd) [none, none] := by
  have hlen : (ordL ss).length = ss.length := by simpa using (ord_perm h).length_eq
  obtain ⟨z3, z4, z6, z9, g, c4⟩ := moved_loop (callK T G (k + 1)) (ss := ss) (fun p q => c_clash) hb (ordL ss) [] none none none none (fun j hj => (ord_mem h).mp hj) (fun p hp => by cases hp) ord_nodup (fun p hp => by cases hp) (by rw [hlen]; simp; omega) (.inl rfl) (.inl rfl) (.inl rfl) (.inl rfl)
  refine (run_rt (n := 2) (m := 10) (b := b17) rfl rfl (o := false) (E1 := [some (.val (dS ss)), (some (.val (.int ((bd : Nat) : Int)))), some (.own (fD (movedF ss bd))), z3, z4, none, z6, none, none, z9]) ?_).trans rfl
  show execs _ G b17 [some (.val (dS ss)), (some (.val (.int ((bd : Nat) : Int)))), none, none, none, none, none, none, none, none] = _
  rw [b17, execs_nx (E1 := [some (.val (dS ss)), (some (.val (.int ((bd : Nat) : Int)))), some (.own (fD [])), none, none, none, none, none, none, none]), execs_nx (E1 := [some (.val (dS ss)), (some (.val (.int ((bd : Nat) : Int)))), some (.own (fD (movedF ss bd))), z3, z4, none, z6, none, none, z9]), execs_rt (o := false)]
  · have hc : compL [4] (tgt (callK T G (k + 1)) G (.nm 4)) (fun E => .ok false (.bl true) E) (ev (callK T G (k + 1)) G b17_0) (rangeD 0 (ss.length : Int)) [] [some (.val (dS ss)), (some (.val (.int ((bd : Nat) : Int)))), some (.own (fD (movedF ss bd))), z3, z4, none, z6, none, none, z9] =
        .ok true (.lst ((List.range ss.length).map fun k => oI (lookF (movedF ss bd) k))) [some (.val (dS ss)), (some (.val (.int ((bd : Nat) : Int)))), some (.own (fD (movedF ss bd))), z3, none, none, z6, none, none, z9] := by
      rw [range_0, comp_all (f := nI) (g := fun k => oI (lookF (movedF ss bd) k)) (fun j hj => ?_) (by simpa using SZ_big (by omega))]
      · rfl
      · have hi := pr_item (moved_keys (bd := bd) h (List.mem_range.mp hj))
        refine ⟨[some (.val (dS ss)), (some (.val (.int ((bd : Nat) : Int)))), some (.own (fD (movedF ss bd))), z3, (some (.val (.int ((j : Nat) : Int)))), none, z6, none, none, z9], false, [some (.val (dS ss)), (some (.val (.int ((bd : Nat) : Int)))), some (.own (fD (movedF ss bd))), z3, (some (.val (.int ((j : Nat) : Int)))), none, z6, none, none, z9], by simp [execs, exec, evos, evs, args, argV, argD, AR.bind, AR.call, back, ev, tst, opB, truthOf, gt, take, asVar, fin1, fin2, fetch, pr1, pr2, cmpD, bl?, truth, Sl.d, tgt, tgts, tgtOs, tgtO, storeS, locked, Out.only, Out.then, ER.out, ER.bind, ER.test, constOf, isTy, walk, opI, opN, isMut, isLst, lockS, unlockS, unlockAll, rows, IR.for_, IR.comp, IR.calm, calmE, lastPs, lastH, putS, atD, finM, wipeE, nI], ?_, by simp [wipeE], by simp [wipeE]⟩
        rw [b17_0, ev]
        · simp only [opB, asVar, gt, List.getElem?_cons_zero, List.getElem?_cons_succ, fin2, fetch, Option.map, Sl.d, hi]
    have hg : rgOk 0 (ss.length : Int) = true := by simp [rgOk]; omega
    rw [exec, ev]
    · simp only [opB, asVar]
      rw [ev, walk]
      rw [ev]
      simp only [opN, opB, asVar, gt, List.getElem?_cons_zero, List.getElem?_cons_succ, fin1, fetch, Option.map, Sl.d, dS, pr1, List.length_map, hg, if_true, IR.comp]
      rw [← dS]
      have hcal : calmE [some (.val (dS ss)), (some (.val (.int ((bd : Nat) : Int)))), some (.own (fD (movedF ss bd))), z3, z4, none, z6, none, none, z9] [4] = true := by
        rcases c4 with rfl | ⟨d, rfl⟩ <;> rfl
      rw [hcal, hc]
      rcases c4 with rfl | ⟨d, rfl⟩ <;> simp [-List.map_map, restE, unlockAll, ER.bind, fin1, fetch, pr1, ER.out, movedD]
    · intro i e; cases e
  · have hc : compL [4, 5] (tgt (callK T G (k + 1)) G (.tup (.cons (.nm 4) (.cons (.nm 5) .nil)))) (fun E => .ok false (.bl true) E) (ev (callK T G (k + 1)) G b17_1) (enumD (ss.map rowS)) [] [some (.val (dS ss)), (some (.val (.int ((bd : Nat) : Int)))), some (.own (fD [])), none, none, none, none, none, none, none] = .ok true (.lst ((List.range ss.length).map fun k => tN [(gs ss k).1, k])) [some (.val (dS ss)), (some (.val (.int ((bd : Nat) : Int)))), some (.own (fD [])), none, none, none, none, none, none, none] := by
      rw [enum_S, comp_all (f := fun k => D.tup [nI k, rowS (gs ss k)]) (g := fun k => tN [(gs ss k).1, k]) (fun j hj => ?_) (by simpa using SZ_big (by omega))]
      · rfl
      · exact ⟨[some (.val (dS ss)), (some (.val (.int ((bd : Nat) : Int)))), some (.own (fD [])), none, (some (.val (.int ((j : Nat) : Int)))), some (.val (rowS (gs ss j))), none, none, none, none], false, [some (.val (dS ss)), (some (.val (.int ((bd : Nat) : Int)))), some (.own (fD [])), none, (some (.val (.int ((j : Nat) : Int)))), some (.val (rowS (gs ss j))), none, none, none, none], by simp [execs, exec, evos, evs, args, argV, argD, AR.bind, AR.call, back, ev, tst, opB, truthOf, gt, take, asVar, fin1, fin2, fetch, pr1, pr2, cmpD, bl?, truth, Sl.d, tgt, tgts, tgtOs, tgtO, storeS, locked, Out.only, Out.then, ER.out, ER.bind, ER.test, constOf, isTy, walk, opI, opN, isMut, isLst, lockS, unlockS, unlockAll, rows, IR.for_, IR.comp, IR.calm, calmE, lastPs, lastH, putS, atD, finM, wipeE, unpk, Tgs.len, nI], by simp [execs, exec, evos, evs, args, argV, argD, AR.bind, AR.call, back, ev, tst, opB, truthOf, gt, take, asVar, fin1, fin2, fetch, pr1, pr2, cmpD, bl?, truth, Sl.d, tgt, tgts, tgtOs, tgtO, storeS, locked, Out.only, Out.then, ER.out, ER.bind, ER.test, constOf, isTy, walk, opI, opN, isMut, isLst, lockS, unlockS, unlockAll, rows, IR.for_, IR.comp, IR.calm, calmE, lastPs, lastH, putS, atD, finM, b17_1, rowS, tN, nI], by simp [wipeE], by simp [wipeE]⟩
    rw [exec, walk]
    simp only [opI, asVar]
    rw [ev]
    · simp only [opB, asVar]
      rw [ev, walk]
      simp only [opI, asVar, gt, isMut, Sl.d, rows, dS, List.getElem?_cons_zero, List.getElem?_cons_succ, Bool.false_eq_true, if_false, IR.comp, calmE, List.all_cons, List.all_nil, Bool.and_self, if_true]
      rw [← dS, hc]
      simp only [restE, unlockAll, ER.bind, fin1, fetch, sorted_ord h, IR.for_, List.set_cons_succ, List.set_cons_zero, List.getElem?_cons_zero, List.getElem?_cons_succ, Option.getD, g]
      rfl
  · simp [execs, exec, evos, evs, args, argV, argD, AR.bind, AR.call, back, ev, tst, opB, truthOf, gt, take, asVar, fin1, fin2, fetch, pr1, pr2, cmpD, bl?, truth, Sl.d, tgt, tgts, tgtOs, tgtO, storeS, locked, Out.only, Out.then, ER.out, ER.bind, ER.test, constOf, isTy, walk, opI, opN, isMut, isLst, lockS, unlockS, unlockAll, rows, IR.for_, IR.comp, IR.calm, calmE, lastPs, lastH, putS, atD, finM, fD, fK, fV]
/-! ### the law's own order -/
def Ok (ss : Sy) : Prop := ∀ k < ss.length, (gs ss k).1 ≤ (gs ss k).2.1
def takenQ (ss : Sy) (fd : Fd) (n : Nat) : List (Option Nat) := (fd.filter fun p => decide (n ≤ (gs ss p.1).2.1)).map (·.2)
def stepQ (ss : Sy) (bd n : Nat) (fd : Fd) (k : Nat) : Fd := if (gs ss k).1 = n then fd ++ [(k, pickB bd (takenQ ss fd n))] else fd
theorem step_eq {ss : Sy} {bd n k : Nat} {fd : Fd} (ho : (gs ss k).1 ≤ (gs ss k).2.1) (hl : ∀ p ∈ fd, (gs ss p.1).1 ≤ n) (hk : (gs ss k).1 = n) : stepQ ss bd n fd k = stepP ss bd fd k := by
  unfold stepQ stepP
  rw [if_pos hk]
  congr 4
  unfold takenQ takenP
  congr 1
  apply List.filter_congr
  intro p hp
  have := hl p hp
  have e1 : decide ((gs ss p.1).1 ≤ (gs ss k).2.1) = true := by simp; omega
  simp [clash, e1, hk]
theorem inner_eq {ss : Sy} {bd n : Nat} : ∀ (ks : List Nat) (fd : Fd), (∀ k ∈ ks, (gs ss k).1 ≤ (gs ss k).2.1) → (∀ p ∈ fd, (gs ss p.1).1 ≤ n) → ks.foldl (stepQ ss bd n) fd = (ks.filter fun k => decide ((gs ss k).1 = n)).foldl (stepP ss bd) fd ∧ ∀ p ∈ ks.foldl (stepQ ss bd n) fd, (gs ss p.1).1 ≤ n
  | [], fd, _, hl => ⟨rfl, hl⟩
  | k :: ks, fd, ho, hl => by
    by_cases hk : (gs ss k).1 = n
    · have e := step_eq (bd := bd) (ho k (by simp)) hl hk
      have := inner_eq (bd := bd) (n := n) ks (stepP ss bd fd k) (fun j m => ho j (by simp [m])) (fun p hp => by
        rcases List.mem_append.mp hp with hp | hp
        · exact hl p hp
        · simp at hp; subst hp; exact Nat.le_of_eq hk)
      rw [List.foldl_cons, e, List.filter_cons_of_pos (by simpa using hk), List.foldl_cons]
      exact this
    · have e : stepQ ss bd n fd k = fd := by unfold stepQ; rw [if_neg hk]
      rw [List.foldl_cons, e, List.filter_cons_of_neg (by simpa using hk)]
      exact inner_eq ks fd (fun j m => ho j (by simp [m])) hl
theorem outer_eq {ss : Sy} {bd : Nat} (ho : Ok ss) : ∀ (r n : Nat) (fd : Fd), (∀ p ∈ fd, (gs ss p.1).1 ≤ n) → (List.range' n r).foldl (fun fd n => (List.range ss.length).foldl (stepQ ss bd n) fd) fd = ((List.range' n r).flatMap fun n => (List.range ss.length).filter fun k => decide ((gs ss k).1 = n)).foldl (stepP ss bd) fd
  | 0, n, fd, _ => rfl
  | r + 1, n, fd, hl => by
    obtain ⟨e1, e2⟩ := inner_eq (bd := bd) (n := n) (List.range ss.length) fd (fun k hk => ho k (List.mem_range.mp hk)) hl
    rw [List.range'_succ, List.foldl_cons, outer_eq ho r (n + 1) _ (fun p hp => Nat.le_succ_of_le (e2 p hp)), e1, List.flatMap_cons, List.foldl_append]
theorem law_moved {ss : Sy} {bd : Nat} (ho : Ok ss) : (List.range' 0 30).foldl (fun fd n => (List.range ss.length).foldl (stepQ ss bd n) fd) [] = movedF ss bd := by
  rw [outer_eq ho 30 0 [] (fun p hp => by cases hp)]
  unfold movedF ordL
  rw [List.range_eq_range' (n := 30)]
end Law
namespace Law
open Rx
/-! ### as many beds -/
theorem gs_mem {ss : Sy} {k : Nat} (h : k < ss.length) : gs ss k ∈ ss := by
  unfold gs
  rw [List.getD_eq_getElem?_getD, List.getElem?_eq_getElem h]
  exact List.getElem_mem h
theorem gu_mem {ss : Sy} {n k : Nat} : k ∈ gu ss n ↔ k < ss.length ∧ (gs ss k).1 ≤ n ∧ n ≤ (gs ss k).2.1 := by
  unfold gu has
  simp
theorem gu_le {ss : Sy} (n : Nat) : (gu ss n).length ≤ beds ss := by
  obtain ⟨_, _, h3⟩ := mxN_spec (ss.map fun p => (gu ss p.1).length) 0
  cases hm : mx? ((gu ss n).map fun k => (gs ss k).1) with
  | none =>
    have := mx_none.mp hm
    have : gu ss n = [] := by simpa using this
    rw [this]
    exact Nat.zero_le _
  | some s =>
    obtain ⟨h1, h2⟩ := mx_some.mp hm
    obtain ⟨k, hk, rfl⟩ := List.mem_map.mp h1
    have hk' := gu_mem.mp hk
    refine Nat.le_trans ?_ (h3 _ (List.mem_map.mpr ⟨gs ss k, gs_mem hk'.1, rfl⟩))
    unfold gu
    rw [← List.countP_eq_length_filter, ← List.countP_eq_length_filter]
    refine List.countP_mono_left fun j hj hh => ?_
    have hj' : j ∈ gu ss n := List.mem_filter.mpr ⟨hj, hh⟩
    have := h2 _ (List.mem_map.mpr ⟨j, hj', rfl⟩)
    have := (gu_mem.mp hj').2
    simp [has]
    omega
theorem beds_max {ss : Sy} (he : Ear ss) : mx? ((List.range 30).map fun n => (gu ss n).length) = some (beds ss) := by
  rw [mx_some]
  constructor
  · obtain ⟨h1, _, _⟩ := mxN_spec (ss.map fun p => (gu ss p.1).length) 0
    rcases h1 with h1 | h1
    · have h0 := gu_le (ss := ss) 0
      have e : beds ss = 0 := h1
      refine List.mem_map.mpr ⟨0, by simp, ?_⟩
      omega
    · obtain ⟨p, hp, e⟩ := List.mem_map.mp h1
      obtain ⟨i, hi, rfl⟩ := List.getElem_of_mem hp
      have := he i hi
      have e2 : gs ss i = ss[i] := by simp [gs, List.getD_eq_getElem?_getD, List.getElem?_eq_getElem hi]
      rw [e2] at this
      exact List.mem_map.mpr ⟨ss[i].1, List.mem_range.mpr this, e⟩
  · intro b hb
    obtain ⟨n, _, rfl⟩ := List.mem_map.mp hb
    exact gu_le n
/-! ### groups -/
def grp : Nat → List (List Nat)
  | 0 => [[]]
  | k + 1 => grp k ++ (grp k).map (· ++ [k])
def cnt (ss : Sy) (s : List Nat) (n : Nat) : Nat := ((gu ss n).filter fun k => s.contains k).length
def okG (ss : Sy) (s : List Nat) : Bool := (List.range 30).all fun n => !decide (1 < cnt ss s n)
theorem cnt_app {s l : List Nat} {k : Nat} (hk : k ∉ s) : (l.filter fun j => (s ++ [k]).contains j).length = (l.filter fun j => s.contains j).length + l.count k := by
  induction l with
  | nil => rfl
  | cons a l ih =>
    rw [List.filter_cons, List.filter_cons]
    by_cases h : a = k
    · subst h
      have h1 : s.contains a = false := by simpa using hk
      have h2 : (s ++ [a]).contains a = true := by simp
      rw [h1, h2, if_pos rfl, if_neg (by simp), List.length_cons, ih, List.count_cons_self]
      omega
    · have h2 : (s ++ [k]).contains a = s.contains a := by
        simp [h]
      rw [List.count_cons_of_ne (by simpa using h), h2]
      cases h1 : s.contains a with
      | true => rw [if_pos rfl, if_pos rfl, List.length_cons, List.length_cons, ih]; omega
      | false => rw [if_neg (by simp), if_neg (by simp), ih]
theorem gu_nodup {ss : Sy} {n : Nat} : (gu ss n).Nodup := List.nodup_range.filter _
theorem ok_app {ss : Sy} (he : Ear ss) (ho : Ok ss) {s : List Nat} {k : Nat} (hs : ∀ j ∈ s, j < k) (hk : k < ss.length) : okG ss (s ++ [k]) = (okG ss s && !bad ss s k) := by
  have hks : k ∉ s := fun m => by have := hs k m; omega
  have hc : ∀ n, cnt ss (s ++ [k]) n = cnt ss s n + (gu ss n).count k := fun n => cnt_app hks
  have hone : ∀ n, (gu ss n).count k ≤ 1 := fun n => List.nodup_iff_count.mp gu_nodup k
  have hpos : ∀ n, k ∈ gu ss n → (gu ss n).count k = 1 := fun n m => by
    have := List.count_pos_iff.mpr m
    have := hone n
    omega
  rw [Bool.eq_iff_iff]
  simp only [okG, bad, List.all_eq_true, Bool.and_eq_true, Bool.not_eq_true', decide_eq_false_iff_not, List.mem_range, List.any_eq_false, hc]
  constructor
  · intro h
    refine ⟨fun n hn => by have := h n hn; omega, fun j hj hcl => ?_⟩
    simp only [clash, Bool.and_eq_true, decide_eq_true_eq] at hcl
    have hjl : j < ss.length := by have := hs j hj; omega
    have o1 := ho j hjl
    have o2 := ho k hk
    have e1 := he j hjl
    have e2 := he k hk
    let n := max (gs ss j).1 (gs ss k).1
    have m1 : j ∈ gu ss n := gu_mem.mpr ⟨hjl, by omega, by omega⟩
    have m2 : k ∈ gu ss n := gu_mem.mpr ⟨hk, by omega, by omega⟩
    have hn := h n (by omega)
    have h1 := hpos n m2
    have : 0 < cnt ss s n := by
      unfold cnt
      exact List.length_pos_of_mem (List.mem_filter.mpr ⟨m1, by simpa using hj⟩)
    omega
  · intro ⟨h1, h2⟩ n hn
    have a := h1 n hn
    by_cases hm : k ∈ gu ss n
    · have hz : cnt ss s n = 0 := by
        unfold cnt
        rw [List.length_eq_zero_iff, List.filter_eq_nil_iff]
        intro j hj hjs
        have hjs : j ∈ s := by simpa using hjs
        refine h2 j hjs ?_
        have p1 := gu_mem.mp hj
        have p2 := gu_mem.mp hm
        simp [clash]
        omega
      have := hone n
      omega
    · have : (gu ss n).count k = 0 := List.count_eq_zero.mpr hm
      omega
theorem grp_mem : ∀ (k : Nat) (s : List Nat), s ∈ grp k → s.length ≤ k ∧ ∀ j ∈ s, j < k
  | 0, s, h => by simp [grp] at h; subst h; simp
  | k + 1, s, h => by
    unfold grp at h
    rcases List.mem_append.mp h with h | h
    · obtain ⟨a, b⟩ := grp_mem k s h
      exact ⟨by omega, fun j m => by have := b j m; omega⟩
    · obtain ⟨s', hs', rfl⟩ := List.mem_map.mp h
      obtain ⟨a, b⟩ := grp_mem k s' hs'
      refine ⟨by simp; omega, fun j m => ?_⟩
      rcases List.mem_append.mp m with m | m
      · have := b j m; omega
      · simp at m; omega
theorem grp_len : ∀ k, (grp k).length = 2 ^ k
  | 0 => rfl
  | k + 1 => by
    unfold grp
    simp only [List.length_append, List.length_map, grp_len k, Nat.pow_succ]
    omega
theorem good_eq {ss : Sy} (he : Ear ss) (ho : Ok ss) : ∀ k, k ≤ ss.length → (grp k).filter (okG ss) = chs ss k
  | 0, _ => by
    have : okG ss [] = true := by
      unfold okG cnt
      have : ∀ l : List Nat, l.filter (fun k => ([] : List Nat).contains k) = [] := fun l => by
        rw [List.filter_eq_nil_iff]; simp
      rw [List.all_eq_true]
      intro n _
      rw [this]
      rfl
    show List.filter (okG ss) [[]] = [[]]
    rw [List.filter_cons_of_pos this]
    rfl
  | k + 1, hk => by
    have ih := good_eq he ho k (by omega)
    show (grp k ++ (grp k).map (· ++ [k])).filter (okG ss) = chs ss k ++ ((chs ss k).filter fun s => !bad ss s k).map (· ++ [k])
    rw [List.filter_append, ih, List.filter_map]
    congr 2
    rw [← ih, List.filter_filter]
    apply List.filter_congr
    intro s hs
    rw [Function.comp, ok_app he ho (grp_mem k s hs).2 (by omega), Bool.and_comm]
/-! ### runs -/
def runsL (fr : Nat → Bool) (a b : Nat) : List (Nat × Nat) := (List.range' a (b + 1 - a)).flatMap fun s => ((List.range' s (b + 1 - s)).filter fun e => ((List.range' s (e + 1 - s)).filter fun n => !fr n).isEmpty).map fun e => (s, e)
theorem runs_mem {fr : Nat → Bool} {a b : Nat} {p : Nat × Nat} : p ∈ runsL fr a b ↔ Run fr a b p.1 p.2 := by
  unfold runsL Run
  rw [List.mem_flatMap]
  constructor
  · rintro ⟨s, hs, hp⟩
    obtain ⟨e, he, rfl⟩ := List.mem_map.mp hp
    obtain ⟨he, hf⟩ := List.mem_filter.mp he
    have hs := List.mem_range'_1.mp hs
    have he := List.mem_range'_1.mp he
    refine ⟨hs.1, he.1, by dsimp only; omega, fun n n1 n2 => ?_⟩
    rw [List.isEmpty_iff, List.filter_eq_nil_iff] at hf
    have := hf n (List.mem_range'_1.mpr ⟨n1, by dsimp only at n2; omega⟩)
    simpa using this
  · rintro ⟨h1, h2, h3, h4⟩
    refine ⟨p.1, List.mem_range'_1.mpr ⟨h1, by omega⟩, List.mem_map.mpr ⟨p.2, List.mem_filter.mpr ⟨List.mem_range'_1.mpr ⟨h2, by omega⟩, ?_⟩, rfl⟩⟩
    rw [List.isEmpty_iff, List.filter_eq_nil_iff]
    intro n hn
    have hn := List.mem_range'_1.mp hn
    simpa using h4 n hn.1 (by omega)
theorem runs_pw {fr : Nat → Bool} {a b : Nat} : (runsL fr a b).Pairwise fun p q => p.1 ≤ q.1 := by
  unfold runsL
  rw [List.pairwise_flatMap]
  constructor
  · intro s _
    rw [List.pairwise_map]
    exact List.pairwise_of_forall fun _ _ => Nat.le_refl _
  · refine (List.pairwise_lt_range').imp ?_
    intro s t hst p hp q hq
    obtain ⟨_, _, rfl⟩ := List.mem_map.mp hp
    obtain ⟨_, _, rfl⟩ := List.mem_map.mp hq
    exact Nat.le_of_lt hst
def longL (fr : Nat → Bool) (a b : Nat) : List (Nat × Nat) := match mx? ((runsL fr a b).map fun p => p.2 - p.1) with
  | some m => (runsL fr a b).filter fun p => decide (p.2 - p.1 = m)
  | none => []
theorem long_head {fr : Nat → Bool} {a b : Nat} {best : Option (Nat × Nat)} (h : BestL fr a b (b + 2) best) : (longL fr a b).head? = best := by
  unfold longL
  cases hm : mx? ((runsL fr a b).map fun p => p.2 - p.1) with
  | none =>
    have e := mx_none.mp hm
    have e : runsL fr a b = [] := by simpa using e
    cases best with
    | none => rfl
    | some p =>
      have := runs_mem.mpr h.1
      rw [e] at this
      cases this
  | some m =>
    obtain ⟨m1, m2⟩ := mx_some.mp hm
    obtain ⟨q, hq, hqm⟩ := List.mem_map.mp m1
    have hqr := runs_mem.mp hq
    cases best with
    | none => exact (h q.1 q.2 hqr (by have := hqr.2.2.1; omega)).elim
    | some p =>
      obtain ⟨h1, h2, h3⟩ := h
      have hp := runs_mem.mpr h1
      have g1 := m2 _ (List.mem_map_of_mem hp)
      have g2 := h3 q.1 q.2 hqr (by have := hqr.2.2.1; omega)
      have hpm : p.2 - p.1 = m := by omega
      cases hf : ((runsL fr a b).filter fun p => decide (p.2 - p.1 = m)) with
      | nil =>
        have := List.filter_eq_nil_iff.mp hf p hp
        simp [hpm] at this
      | cons r l =>
        have hr : r ∈ (runsL fr a b).filter fun p => decide (p.2 - p.1 = m) := by rw [hf]; simp
        obtain ⟨hr1, hr2⟩ := List.mem_filter.mp hr
        have hr2 := of_decide_eq_true hr2
        have hrr := runs_mem.mp hr1
        have g3 := h3 r.1 r.2 hrr (by have := hrr.2.2.1; omega)
        have pw := (runs_pw (fr := fr) (a := a) (b := b)).filter fun p => decide (p.2 - p.1 = m)
        rw [hf] at pw
        have hpf : p ∈ r :: l := by rw [← hf]; exact List.mem_filter.mpr ⟨hp, by simpa using hpm⟩
        have le : r.1 ≤ p.1 := by
          rcases List.mem_cons.mp hpf with rfl | hpf
          · exact Nat.le_refl _
          · exact (List.pairwise_cons.mp pw).1 p hpf
        have e1 : r.1 = p.1 := by omega
        have a1 := hrr.2.1
        have a2 := h1.2.1
        have e2 : r.2 = p.2 := by omega
        show (List.filter (fun p => decide (p.2 - p.1 = m)) (runsL fr a b)).head? = some p
        rw [hf, List.head?_cons, show r = p from Prod.ext e1 e2]
end Law
namespace Law
open Rx
theorem s_tariffs {d : D} (hd : Dw d) {x0 : Option Sl} {r : En} : ∃ (t u : Tf) (d' : D), t ≠ [] ∧ u ≠ [] ∧ TfOk t ∧ t.length ≤ 3 ∧ u.length ≤ 3 ∧ Dw d' ∧ exec (callK T G 19) G (.par (.cons (.nm 2) (.cons (.nm 3) .nil)) (.cons (.call 21 (.cons (.var 1) .nil)) (.cons (.call 21 (.cons (.var 1) .nil)) .nil))) (x0 :: some (.own d) :: none :: none :: r) = .nx (x0 :: some (.own d') :: (some (.val (dT t))) :: (some (.val (dT u))) :: r) := by
  obtain ⟨t, d1, t1, t2, t3, hd1, q1⟩ := c_tariff (k := 17) hd
  obtain ⟨u, d2, u1, u2, u3, hd2, q2⟩ := c_tariff (k := 17) hd1
  refine ⟨t, u, d2, t1, u1, t2, t3, u3, hd2, ?_⟩
  have q1' : (callK T G 19) 21 [.ref d] = _ := q1
  have q2' : (callK T G 19) 21 [.ref d1] = _ := q2
  simp [execs, exec, evos, evs, args, argV, argD, AR.bind, AR.call, back, ev, tst, opB, truthOf, gt, take, asVar, fin1, fin2, fetch, pr1, pr2, cmpD, bl?, truth, Sl.d, tgt, tgts, tgtOs, tgtO, storeS, locked, Out.only, Out.then, ER.out, ER.bind, ER.test, constOf, isTy, walk, opI, opN, isMut, isLst, lockS, unlockS, unlockAll, rows, IR.for_, IR.comp, IR.calm, calmE, lastPs, lastH, putS, atD, finM, q1', q2']
theorem s_counts {d : D} (hd : Dw d) {x0 x2 x3 : Option Sl} {r : En} : ∃ (m q : Nat) (d' : D), m ≤ 11 ∧ q ≤ 3 ∧ Dw d' ∧ exec (callK T G 19) G (.par (.cons (.nm 4) (.cons (.nm 5) .nil)) (.cons (.call 19 (.cons (.var 1) (.cons (.cst (.int 12)) .nil))) (.cons (.call 19 (.cons (.var 1) (.cons (.cst (.int 4)) .nil))) .nil))) (x0 :: some (.own d) :: x2 :: x3 :: none :: none :: r) = .nx (x0 :: some (.own d') :: x2 :: x3 :: (some (.val (.int ((m : Nat) : Int)))) :: (some (.val (.int ((q : Nat) : Int)))) :: r) := by
  obtain ⟨m, d1, h1, hd1, q1⟩ := takeN (k := 18) hd (m := 12) (by omega) (by omega)
  obtain ⟨q, d2, h2, hd2, q2⟩ := takeN (k := 18) hd1 (m := 4) (by omega) (by omega)
  refine ⟨m, q, d2, by omega, by omega, hd2, ?_⟩
  have q1' : (callK T G 19) 19 [.ref d, .val (.int 12)] = _ := q1
  have q2' : (callK T G 19) 19 [.ref d1, .val (.int 4)] = _ := q2
  simp [execs, exec, evos, evs, args, argV, argD, AR.bind, AR.call, back, ev, tst, opB, truthOf, gt, take, asVar, fin1, fin2, fetch, pr1, pr2, cmpD, bl?, truth, Sl.d, tgt, tgts, tgtOs, tgtO, storeS, locked, Out.only, Out.then, ER.out, ER.bind, ER.test, constOf, isTy, walk, opI, opN, isMut, isLst, lockS, unlockS, unlockAll, rows, IR.for_, IR.comp, IR.calm, calmE, lastPs, lastH, putS, atD, finM, q1', q2']
section
variable {t u : Tf} {m q : Nat}
theorem price_le (ht : TfOk t) (n : Nat) : price t n ≤ 5 := by
  unfold price
  cases hf : t.find? fun p => decide (n ≤ p.1) with
  | some p => exact ht p (List.mem_of_find?_eq_some hf)
  | none =>
    cases hl : t.getLast? with
    | none => simp
    | some p => simpa [hl] using ht p (List.mem_of_getLast? hl)
theorem due_le (ht : TfOk t) (n : Nat) : due t n ≤ 5 * n := by
  unfold due
  have : ∀ l : List Nat, (l.map (price t)).sum ≤ 5 * l.length := fun l => by
    induction l with
    | nil => simp
    | cons a l ih =>
      have := price_le ht a
      simp only [List.map_cons, List.sum_cons, List.length_cons]
      omega
  have := this (List.range' 1 n)
  simpa using this
theorem s_dues (h : t ≠ []) (hl : t.length ≤ 3) (hm : m ≤ 11) {x0 x1 x3 x5 : Option Sl} {r : En} : exec (callK T G 19) G (.ite (.or (.cmp .ne (.call 3 (.cons (.var 2) (.cons (.var 4) .nil))) (.call 23 (.cons (.var 2) (.cons (.var 4) .nil)))) (.or (.cmp .ne (.call 4 (.cons (.var 2) (.cons (.var 4) .nil))) (.ifx (.cmp .gt (.var 4) (.cst (.int 0))) (.p2 .mul (.var 4) (.call 22 (.cons (.var 2) (.cons (.var 4) .nil)))) (.cst (.int 0)))) (.one (.not (.isinst (.call 3 (.cons (.var 2) (.cons (.var 4) .nil))) "int"))))) (.cons (.ret (.cst (.bl false))) .nil) .nil) (x0 :: x1 :: (some (.val (dT t))) :: x3 :: (some (.val (.int ((m : Nat) : Int)))) :: x5 :: r) = .nx (x0 :: x1 :: (some (.val (dT t))) :: x3 :: (some (.val (.int ((m : Nat) : Int)))) :: x5 :: r) := by
  have q1 : (callK T G 19) 3 [.val (dT t), .val (.int (m : Nat))] = _ := c_due (k := 17) h (by omega)
  have q2 : (callK T G 19) 23 [.val (dT t), .val (.int (m : Nat))] = _ := c_ldue (k := 17) h (by omega) (by omega)
  have q3 : (callK T G 19) 4 [.val (dT t), .val (.int (m : Nat))] = _ := c_flat (k := 17) h (by omega)
  have q4 : (callK T G 19) 22 [.val (dT t), .val (.int (m : Nat))] = _ := c_lprice (k := 18) h (by omega)
  have mo : mulOk (m : Int) (price t m : Nat) = true := by
    simp [mulOk]
    left
    omega
  by_cases h0 : 0 < m
  · simp [execs, exec, evos, evs, args, argV, argD, AR.bind, AR.call, back, ev, tst, opB, truthOf, gt, take, asVar, fin1, fin2, fetch, pr1, pr2, cmpD, bl?, truth, Sl.d, tgt, tgts, tgtOs, tgtO, storeS, locked, Out.only, Out.then, ER.out, ER.bind, ER.test, constOf, isTy, walk, opI, opN, isMut, isLst, lockS, unlockS, unlockAll, rows, IR.for_, IR.comp, IR.calm, calmE, lastPs, lastH, putS, atD, finM, q1, q2, q3, q4, plain, eqv, mo, h0]
  · have hz : m = 0 := by omega
    have hz' : ((m : Int) * (price t m : Int) == 0) = true := by simp [hz]
    simp [execs, exec, evos, evs, args, argV, argD, AR.bind, AR.call, back, ev, tst, opB, truthOf, gt, take, asVar, fin1, fin2, fetch, pr1, pr2, cmpD, bl?, truth, Sl.d, tgt, tgts, tgtOs, tgtO, storeS, locked, Out.only, Out.then, ER.out, ER.bind, ER.test, constOf, isTy, walk, opI, opN, isMut, isLst, lockS, unlockS, unlockAll, rows, IR.for_, IR.comp, IR.calm, calmE, lastPs, lastH, putS, atD, finM, q1, q2, q3, q4, plain, eqv, mo, h0, hz']
theorem wd_due (ht : TfOk t) (hm : m ≤ 11) : Wd (due t m : Nat) := wd_nat (by have := due_le ht m; omega)
theorem eqv_lw {a b : Int} : plain DP (lw a b) = true ∧ eqv (lw a b) (lw a b) = true := by
  constructor
  · rfl
  · simp [lw, eqv, eqvs]
theorem s_fair (h : t ≠ []) (ht : TfOk t) (hl : t.length ≤ 3) (hm : m ≤ 11) {x0 x1 x3 x5 : Option Sl} {r : En} : exec (callK T G 19) G (.ite (.and (.cmp .gt (.var 4) (.cst (.int 0))) (.one (.cmp .ne (.call 5 (.cons (.var 2) (.cons (.var 4) .nil))) (.call 20 (.cons (.call 23 (.cons (.var 2) (.cons (.var 4) .nil))) (.cons (.var 4) .nil)))))) (.cons (.ret (.cst (.bl false))) .nil) .nil) (x0 :: x1 :: (some (.val (dT t))) :: x3 :: (some (.val (.int ((m : Nat) : Int)))) :: x5 :: r) = .nx (x0 :: x1 :: (some (.val (dT t))) :: x3 :: (some (.val (.int ((m : Nat) : Int)))) :: x5 :: r) := by
  by_cases h0 : m = 0
  · subst h0
    simp [execs, exec, evos, evs, args, argV, argD, AR.bind, AR.call, back, ev, tst, opB, truthOf, gt, take, asVar, fin1, fin2, fetch, pr1, pr2, cmpD, bl?, truth, Sl.d, tgt, tgts, tgtOs, tgtO, storeS, locked, Out.only, Out.then, ER.out, ER.bind, ER.test, constOf, isTy, walk, opI, opN, isMut, isLst, lockS, unlockS, unlockAll, rows, IR.for_, IR.comp, IR.calm, calmE, lastPs, lastH, putS, atD, finM]
  · have hp : 0 < m := by omega
    have q1 : (callK T G 19) 5 [.val (dT t), .val (.int (m : Nat))] = _ := c_fair (k := 16) h (by omega) hp
    have q2 : (callK T G 19) 23 [.val (dT t), .val (.int (m : Nat))] = _ := c_ldue (k := 17) h (by omega) (by omega)
    have q3 : (callK T G 19) 20 [.val (.int (due t m : Nat)), .val (.int (m : Nat))] = _ := c_llow (k := 18) (a := (due t m : Nat)) (b := (m : Nat)) (by omega) (wd_due ht hm) (wd_nat (by omega))
    obtain ⟨e1, e2⟩ := eqv_lw (a := (due t m : Nat)) (b := (m : Nat))
    simp [execs, exec, evos, evs, args, argV, argD, AR.bind, AR.call, back, ev, tst, opB, truthOf, gt, take, asVar, fin1, fin2, fetch, pr1, pr2, cmpD, bl?, truth, Sl.d, tgt, tgts, tgtOs, tgtO, storeS, locked, Out.only, Out.then, ER.out, ER.bind, ER.test, constOf, isTy, walk, opI, opN, isMut, isLst, lockS, unlockS, unlockAll, rows, IR.for_, IR.comp, IR.calm, calmE, lastPs, lastH, putS, atD, finM, q1, q2, q3, e1, e2, hp]
theorem due_comp (h : t ≠ []) (hl : t.length ≤ 3) {x0 x1 x3 x4 x5 x6 x7 : Option Sl} {r : En} {z : Option Sl} : compL [8] (tgt (callK T G 19) G (.nm 8)) (fun E => .ok false (.bl true) E) (ev (callK T G 19) G b26_26) (rangeD 0 201) [] (x0 :: x1 :: (some (.val (dT t))) :: x3 :: x4 :: x5 :: x6 :: x7 :: z :: r) = .ok true (.lst (((List.range 201).map (due t)).map nI)) (x0 :: x1 :: (some (.val (dT t))) :: x3 :: x4 :: x5 :: x6 :: x7 :: none :: r) := by
  rw [show rangeD 0 201 = (List.range 201).map nI from range_0 (m := 201), comp_all (f := nI) (g := fun n => nI (due t n)) (fun n hn => ?_) (by simpa using SZ_big (by omega)), List.map_map]
  · rfl
  · have hn := List.mem_range.mp hn
    have q2 : (callK T G 19) 23 [.val (dT t), .val (.int (n : Nat))] = _ := c_ldue (k := 17) h (by omega) (by omega)
    exact ⟨(x0 :: x1 :: (some (.val (dT t))) :: x3 :: x4 :: x5 :: x6 :: x7 :: (some (.val (.int ((n : Nat) : Int)))) :: r), false, (x0 :: x1 :: (some (.val (dT t))) :: x3 :: x4 :: x5 :: x6 :: x7 :: (some (.val (.int ((n : Nat) : Int)))) :: r), by simp [execs, exec, evos, evs, args, argV, argD, AR.bind, AR.call, back, ev, tst, opB, truthOf, gt, take, asVar, fin1, fin2, fetch, pr1, pr2, cmpD, bl?, truth, Sl.d, tgt, tgts, tgtOs, tgtO, storeS, locked, Out.only, Out.then, ER.out, ER.bind, ER.test, constOf, isTy, walk, opI, opN, isMut, isLst, lockS, unlockS, unlockAll, rows, IR.for_, IR.comp, IR.calm, calmE, lastPs, lastH, putS, atD, finM, wipeE, nI], by simp [b26_26, execs, exec, evos, evs, args, argV, argD, AR.bind, AR.call, back, ev, tst, opB, truthOf, gt, take, asVar, fin1, fin2, fetch, pr1, pr2, cmpD, bl?, truth, Sl.d, tgt, tgts, tgtOs, tgtO, storeS, locked, Out.only, Out.then, ER.out, ER.bind, ER.test, constOf, isTy, walk, opI, opN, isMut, isLst, lockS, unlockS, unlockAll, rows, IR.for_, IR.comp, IR.calm, calmE, lastPs, lastH, putS, atD, finM, q2, nI], by simp [wipeE], by simp [wipeE]⟩
theorem due_comp2 (h : t ≠ []) (hl : t.length ≤ 3) {x0 x1 x2 x4 x5 x6 x7 : Option Sl} {r : En} {z : Option Sl} : compL [8] (tgt (callK T G 19) G (.nm 8)) (fun E => .ok false (.bl true) E) (ev (callK T G 19) G b26_25) (rangeD 0 201) [] (x0 :: x1 :: x2 :: (some (.val (dT t))) :: x4 :: x5 :: x6 :: x7 :: z :: r) = .ok true (.lst (((List.range 201).map (due t)).map nI)) (x0 :: x1 :: x2 :: (some (.val (dT t))) :: x4 :: x5 :: x6 :: x7 :: none :: r) := by
  rw [show rangeD 0 201 = (List.range 201).map nI from range_0 (m := 201), comp_all (f := nI) (g := fun n => nI (due t n)) (fun n hn => ?_) (by simpa using SZ_big (by omega)), List.map_map]
  · rfl
  · have hn := List.mem_range.mp hn
    have q2 : (callK T G 19) 23 [.val (dT t), .val (.int (n : Nat))] = _ := c_ldue (k := 17) h (by omega) (by omega)
    exact ⟨(x0 :: x1 :: x2 :: (some (.val (dT t))) :: x4 :: x5 :: x6 :: x7 :: (some (.val (.int ((n : Nat) : Int)))) :: r), false, (x0 :: x1 :: x2 :: (some (.val (dT t))) :: x4 :: x5 :: x6 :: x7 :: (some (.val (.int ((n : Nat) : Int)))) :: r), by simp [execs, exec, evos, evs, args, argV, argD, AR.bind, AR.call, back, ev, tst, opB, truthOf, gt, take, asVar, fin1, fin2, fetch, pr1, pr2, cmpD, bl?, truth, Sl.d, tgt, tgts, tgtOs, tgtO, storeS, locked, Out.only, Out.then, ER.out, ER.bind, ER.test, constOf, isTy, walk, opI, opN, isMut, isLst, lockS, unlockS, unlockAll, rows, IR.for_, IR.comp, IR.calm, calmE, lastPs, lastH, putS, atD, finM, wipeE, nI], by simp [b26_25, execs, exec, evos, evs, args, argV, argD, AR.bind, AR.call, back, ev, tst, opB, truthOf, gt, take, asVar, fin1, fin2, fetch, pr1, pr2, cmpD, bl?, truth, Sl.d, tgt, tgts, tgtOs, tgtO, storeS, locked, Out.only, Out.then, ER.out, ER.bind, ER.test, constOf, isTy, walk, opI, opN, isMut, isLst, lockS, unlockS, unlockAll, rows, IR.for_, IR.comp, IR.calm, calmE, lastPs, lastH, putS, atD, finM, q2, nI], by simp [wipeE], by simp [wipeE]⟩
theorem s_lists (h : t ≠ []) (hl : t.length ≤ 3) (h' : u ≠ []) (hl' : u.length ≤ 3) {x0 x1 x4 x5 : Option Sl} {r : En} : exec (callK T G 19) G (.par (.cons (.nm 6) (.cons (.nm 7) .nil)) (.cons (.lc b26_26 (.nm 8) (.range1 (.cst (.int 201))) none [8]) (.cons (.lc b26_25 (.nm 8) (.range1 (.cst (.int 201))) none [8]) .nil))) (x0 :: x1 :: (some (.val (dT t))) :: (some (.val (dT u))) :: x4 :: x5 :: none :: none :: none :: r) =
    .nx (x0 :: x1 :: (some (.val (dT t))) :: (some (.val (dT u))) :: x4 :: x5 :: (some (.own (.lst (((List.range 201).map (due t)).map nI)))) :: (some (.own (.lst (((List.range 201).map (due u)).map nI)))) :: none :: r) := by
  have c1 := due_comp h hl (x0 := x0) (x1 := x1) (x3 := (some (.val (dT u)))) (x4 := x4) (x5 := x5) (x6 := none) (x7 := none) (r := r) (z := none)
  have c2 := due_comp2 h' hl' (x0 := x0) (x1 := x1) (x2 := (some (.val (dT t)))) (x4 := x4) (x5 := x5) (x6 := none) (x7 := none) (r := r) (z := none)
  rw [exec, evos, ev, walk]
  simp only [opN, ev.eq_1, show rgOk 0 201 = true from rfl, if_true, IR.comp, calmE, List.all_cons, List.all_nil, Bool.and_self, gt, List.getElem?_cons_zero, List.getElem?_cons_succ, c1, restE, unlockAll, List.set_cons_succ, List.set_cons_zero, Option.getD, evos]
  rw [ev, walk]
  simp only [opN, ev.eq_1, show rgOk 0 201 = true from rfl, if_true, IR.comp, calmE, List.all_cons, List.all_nil, Bool.and_self, gt, List.getElem?_cons_zero, List.getElem?_cons_succ, c2, restE, unlockAll, List.set_cons_succ, List.set_cons_zero, Option.getD, evos]
  simp [-List.map_map, tgtOs, tgtO, storeS, locked, gt, Out.only, Out.then]
end
end Law
namespace Law
open Rx
theorem plains_nI : ∀ {l : List Nat} {n : Nat}, plains n (l.map nI) = true
  | [], _ => rfl
  | a :: l, n => by rw [List.map_cons, plains, plains_nI, nI]; cases n <;> rfl
theorem eqvs_nI : ∀ {l : List Nat}, eqvs (l.map nI) (l.map nI) = true
  | [] => rfl
  | a :: l => by rw [List.map_cons, eqvs, eqvs_nI, nI]; simp [eqv]
theorem ne_tN {l : List Nat} : cmpD G .ne (.tup (l.map nI)) (.tup (l.map nI)) = some false := by
  have e : cmpD G .ne (.tup (l.map nI)) (.tup (l.map nI)) = (if (plains 39 (l.map nI) && plains 39 (l.map nI)) = true then some (!eqvs (l.map nI) (l.map nI)) else none) := rfl
  rw [e, plains_nI, eqvs_nI]
  rfl
theorem eq_nil {l : List Nat} : cmpD G .eq (.lst (l.map nI)) (.lst []) = some l.isEmpty := by
  have e : cmpD G .eq (.lst (l.map nI)) (.lst []) = (if (plains 39 (l.map nI) && plains 39 []) = true then some (eqvs (l.map nI) []) else none) := rfl
  rw [e, plains_nI]
  cases l <;> rfl
theorem ne_bl {b : Bool} : cmpD G .ne (.bl b) (.bl b) = some false := by cases b <;> rfl
theorem at_201 {f : Nat → Nat} {n : Nat} (h : n < 201) : atD (((List.range 201).map f).map nI) (n : Int) = some (.int (f n : Nat)) := by
  unfold atD
  rw [if_pos (by omega)]
  simp [h, nI]
section
variable {t u : Tf} {m q : Nat}
theorem gt_comp {x0 x1 x2 x3 x4 x5 : Option Sl} {r : En} {z : Option Sl} : compL [8] (tgt (callK T G 19) G (.nm 8)) (tst (callK T G 19) G (.cmp .gt (.p2 .item (.var 6) (.var 8)) (.p2 .item (.var 7) (.var 8)))) (ev (callK T G 19) G b26_24) (rangeD 0 201) [] (x0 :: x1 :: x2 :: x3 :: x4 :: x5 :: (some (.own (.lst (((List.range 201).map (due t)).map nI)))) :: (some (.own (.lst (((List.range 201).map (due u)).map nI)))) :: z :: r) = .ok true (.lst (((List.range 201).filter fun n => decide (due u n < due t n)).map nI)) (x0 :: x1 :: x2 :: x3 :: x4 :: x5 :: (some (.own (.lst (((List.range 201).map (due t)).map nI)))) :: (some (.own (.lst (((List.range 201).map (due u)).map nI)))) :: none :: r) := by
  rw [show rangeD 0 201 = (List.range 201).map nI from range_0 (m := 201), comp_of (f := nI) (p := fun n => decide (due u n < due t n)) (g := nI) (fun n hn => ?_) (by simpa using SZ_big (by omega))]
  · rfl
  · have hn := List.mem_range.mp hn
    have a1 := at_201 (f := due t) hn
    have a2 := at_201 (f := due u) hn
    refine ⟨(x0 :: x1 :: x2 :: x3 :: x4 :: x5 :: (some (.own (.lst (((List.range 201).map (due t)).map nI)))) :: (some (.own (.lst (((List.range 201).map (due u)).map nI)))) :: (some (.val (.int ((n : Nat) : Int)))) :: r), (x0 :: x1 :: x2 :: x3 :: x4 :: x5 :: (some (.own (.lst (((List.range 201).map (due t)).map nI)))) :: (some (.own (.lst (((List.range 201).map (due u)).map nI)))) :: (some (.val (.int ((n : Nat) : Int)))) :: r), false, by simp [-List.map_map, execs, exec, evos, evs, args, argV, argD, AR.bind, AR.call, back, ev, tst, opB, truthOf, gt, take, asVar, fin1, fin2, fetch, pr1, pr2, cmpD, bl?, truth, Sl.d, tgt, tgts, tgtOs, tgtO, storeS, locked, Out.only, Out.then, ER.out, ER.bind, ER.test, constOf, isTy, walk, opI, opN, isMut, isLst, lockS, unlockS, unlockAll, rows, IR.for_, IR.comp, IR.calm, calmE, lastPs, lastH, putS, atD, finM, wipeE, nI], ?_, by simp [wipeE], fun _ => ⟨false, (x0 :: x1 :: x2 :: x3 :: x4 :: x5 :: (some (.own (.lst (((List.range 201).map (due t)).map nI)))) :: (some (.own (.lst (((List.range 201).map (due u)).map nI)))) :: (some (.val (.int ((n : Nat) : Int)))) :: r), by simp [-List.map_map, execs, exec, evos, evs, args, argV, argD, AR.bind, AR.call, back, ev, tst, opB, truthOf, gt, take, asVar, fin1, fin2, fetch, pr1, pr2, cmpD, bl?, truth, Sl.d, tgt, tgts, tgtOs, tgtO, storeS, locked, Out.only, Out.then, ER.out, ER.bind, ER.test, constOf, isTy, walk, opI, opN, isMut, isLst, lockS, unlockS, unlockAll, rows, IR.for_, IR.comp, IR.calm, calmE, lastPs, lastH, putS, atD, finM, b26_24, nI], by simp [wipeE]⟩⟩
    rw [tst]
    simp only [opB, asVar, ev, gt, List.getElem?_cons_zero, List.getElem?_cons_succ, fin2, fetch, Option.map, Sl.d, pr2, a1, a2, ER.bind, cmpD, bl?]
    simp
theorem eq_comp {x0 x1 x2 x3 x4 x5 : Option Sl} {r : En} {z : Option Sl} : compL [8] (tgt (callK T G 19) G (.nm 8)) (tst (callK T G 19) G (.cmp .eq (.p2 .item (.var 6) (.var 8)) (.p2 .item (.var 7) (.var 8)))) (ev (callK T G 19) G b26_23) (rangeD 1 201) [] (x0 :: x1 :: x2 :: x3 :: x4 :: x5 :: (some (.own (.lst (((List.range 201).map (due t)).map nI)))) :: (some (.own (.lst (((List.range 201).map (due u)).map nI)))) :: z :: r) = .ok true (.lst (((List.range' 1 200).filter fun n => decide (due t n = due u n)).map nI)) (x0 :: x1 :: x2 :: x3 :: x4 :: x5 :: (some (.own (.lst (((List.range 201).map (due t)).map nI)))) :: (some (.own (.lst (((List.range 201).map (due u)).map nI)))) :: none :: r) := by
  rw [show rangeD 1 201 = (List.range' 1 200).map nI from range_1 (m := 200), comp_of (f := nI) (p := fun n => decide (due t n = due u n)) (g := nI) (fun n hn => ?_) (by simpa using SZ_big (by omega))]
  · rfl
  · have hn := List.mem_range'_1.mp hn
    have a1 := at_201 (f := due t) (n := n) (by omega)
    have a2 := at_201 (f := due u) (n := n) (by omega)
    have e3 : ((due t n : Int) == (due u n : Int)) = decide (due t n = due u n) := by
      by_cases h : due t n = due u n
      · simp [h]
      · have : ¬ (due t n : Int) = (due u n : Int) := by omega
        simp [h, this]
    refine ⟨(x0 :: x1 :: x2 :: x3 :: x4 :: x5 :: (some (.own (.lst (((List.range 201).map (due t)).map nI)))) :: (some (.own (.lst (((List.range 201).map (due u)).map nI)))) :: (some (.val (.int ((n : Nat) : Int)))) :: r), (x0 :: x1 :: x2 :: x3 :: x4 :: x5 :: (some (.own (.lst (((List.range 201).map (due t)).map nI)))) :: (some (.own (.lst (((List.range 201).map (due u)).map nI)))) :: (some (.val (.int ((n : Nat) : Int)))) :: r), false, by simp [-List.map_map, execs, exec, evos, evs, args, argV, argD, AR.bind, AR.call, back, ev, tst, opB, truthOf, gt, take, asVar, fin1, fin2, fetch, pr1, pr2, cmpD, bl?, truth, Sl.d, tgt, tgts, tgtOs, tgtO, storeS, locked, Out.only, Out.then, ER.out, ER.bind, ER.test, constOf, isTy, walk, opI, opN, isMut, isLst, lockS, unlockS, unlockAll, rows, IR.for_, IR.comp, IR.calm, calmE, lastPs, lastH, putS, atD, finM, wipeE, nI], ?_, by simp [wipeE], fun _ => ⟨false, (x0 :: x1 :: x2 :: x3 :: x4 :: x5 :: (some (.own (.lst (((List.range 201).map (due t)).map nI)))) :: (some (.own (.lst (((List.range 201).map (due u)).map nI)))) :: (some (.val (.int ((n : Nat) : Int)))) :: r), by simp [-List.map_map, execs, exec, evos, evs, args, argV, argD, AR.bind, AR.call, back, ev, tst, opB, truthOf, gt, take, asVar, fin1, fin2, fetch, pr1, pr2, cmpD, bl?, truth, Sl.d, tgt, tgts, tgtOs, tgtO, storeS, locked, Out.only, Out.then, ER.out, ER.bind, ER.test, constOf, isTy, walk, opI, opN, isMut, isLst, lockS, unlockS, unlockAll, rows, IR.for_, IR.comp, IR.calm, calmE, lastPs, lastH, putS, atD, finM, b26_23, nI], by simp [wipeE]⟩⟩
    rw [tst]
    simp only [opB, asVar, ev, gt, List.getElem?_cons_zero, List.getElem?_cons_succ, fin2, fetch, Option.map, Sl.d, pr2, a1, a2, ER.bind, cmpD, plain, Bool.and_self, if_true, eqv, e3, bl?]
theorem mild_is : ((List.range 201).filter fun n => decide (due u n < due t n)).isEmpty = (List.range 201).all fun n => decide (due t n ≤ due u n) := by
  rw [Bool.eq_iff_iff, List.isEmpty_iff, List.filter_eq_nil_iff, List.all_eq_true]
  simp
theorem s_mild (h : t ≠ []) (h' : u ≠ []) {x0 x1 x4 x5 : Option Sl} {r : En} : exec (callK T G 19) G (.ite (.or (.cmp .ne (.call 8 (.cons (.var 2) (.cons (.var 3) .nil))) (.cmp .eq (.lc b26_24 (.nm 8) (.range1 (.cst (.int 201))) (some (.cmp .gt (.p2 .item (.var 6) (.var 8)) (.p2 .item (.var 7) (.var 8)))) [8]) (.lst .nil))) (.one (.cmp .ne (.call 9 (.cons (.var 2) (.cons (.var 3) .nil))) (.p1 .tupleOf (.lc b26_23 (.nm 8) (.range2 (.cst (.int 1)) (.cst (.int 201))) (some (.cmp .eq (.p2 .item (.var 6) (.var 8)) (.p2 .item (.var 7) (.var 8)))) [8]))))) (.cons (.ret (.cst (.bl false))) .nil) .nil) (x0 :: x1 :: (some (.val (dT t))) :: (some (.val (dT u))) :: x4 :: x5 :: (some (.own (.lst (((List.range 201).map (due t)).map nI)))) :: (some (.own (.lst (((List.range 201).map (due u)).map nI)))) :: none :: r) = .nx (x0 :: x1 :: (some (.val (dT t))) :: (some (.val (dT u))) :: x4 :: x5 :: (some (.own (.lst (((List.range 201).map (due t)).map nI)))) :: (some (.own (.lst (((List.range 201).map (due u)).map nI)))) :: none :: r) := by
  have q1 : (callK T G 19) 8 [.val (dT t), .val (dT u)] = _ := c_mild (k := 16) h h'
  have q2 : (callK T G 19) 9 [.val (dT t), .val (dT u)] = _ := c_meet (k := 16) h h'
  have c1 := gt_comp (t := t) (u := u) (x0 := x0) (x1 := x1) (x2 := (some (.val (dT t)))) (x3 := (some (.val (dT u)))) (x4 := x4) (x5 := x5) (r := r) (z := none)
  have c2 := eq_comp (t := t) (u := u) (x0 := x0) (x1 := x1) (x2 := (some (.val (dT t)))) (x3 := (some (.val (dT u)))) (x4 := x4) (x5 := x5) (r := r) (z := none)
  have e1 : tst (callK T G 19) G (.cmp .ne (.call 8 (.cons (.var 2) (.cons (.var 3) .nil))) (.cmp .eq (.lc b26_24 (.nm 8) (.range1 (.cst (.int 201))) (some (.cmp .gt (.p2 .item (.var 6) (.var 8)) (.p2 .item (.var 7) (.var 8)))) [8]) (.lst .nil))) (x0 :: x1 :: (some (.val (dT t))) :: (some (.val (dT u))) :: x4 :: x5 :: (some (.own (.lst (((List.range 201).map (due t)).map nI)))) :: (some (.own (.lst (((List.range 201).map (due u)).map nI)))) :: none :: r) = .ok false (.bl false) (x0 :: x1 :: (some (.val (dT t))) :: (some (.val (dT u))) :: x4 :: x5 :: (some (.own (.lst (((List.range 201).map (due t)).map nI)))) :: (some (.own (.lst (((List.range 201).map (due u)).map nI)))) :: none :: r) := by
    rw [tst]
    simp only [opB, asVar]
    rw [ev]
    simp only [args, asVar, argV, gt, List.getElem?_cons_zero, List.getElem?_cons_succ, AR.bind, AR.call, q1, back, ER.bind]
    rw [ev]
    simp only [opB, asVar]
    rw [ev, walk]
    simp only [opN, ev.eq_1, show rgOk 0 201 = true from rfl, if_true, IR.comp, calmE, List.all_cons, List.all_nil, Bool.and_self, gt, List.getElem?_cons_zero, List.getElem?_cons_succ, c1, restE, unlockAll, List.set_cons_succ, List.set_cons_zero, Option.getD, ER.bind, ev, evs, AR.call, List.map_nil, back, fin2, fetch, eq_nil, bl?, Option.map, mild_is, ne_bl]
  have e2 : tst (callK T G 19) G (.one (.cmp .ne (.call 9 (.cons (.var 2) (.cons (.var 3) .nil))) (.p1 .tupleOf (.lc b26_23 (.nm 8) (.range2 (.cst (.int 1)) (.cst (.int 201))) (some (.cmp .eq (.p2 .item (.var 6) (.var 8)) (.p2 .item (.var 7) (.var 8)))) [8])))) (x0 :: x1 :: (some (.val (dT t))) :: (some (.val (dT u))) :: x4 :: x5 :: (some (.own (.lst (((List.range 201).map (due t)).map nI)))) :: (some (.own (.lst (((List.range 201).map (due u)).map nI)))) :: none :: r) = .ok false (.bl false) (x0 :: x1 :: (some (.val (dT t))) :: (some (.val (dT u))) :: x4 :: x5 :: (some (.own (.lst (((List.range 201).map (due t)).map nI)))) :: (some (.own (.lst (((List.range 201).map (due u)).map nI)))) :: none :: r) := by
    rw [tst, tst]
    simp only [opB, asVar]
    rw [ev]
    simp only [args, asVar, argV, gt, List.getElem?_cons_zero, List.getElem?_cons_succ, AR.bind, AR.call, q2, back, ER.bind]
    rw [ev]
    · simp only [opB, asVar]
      rw [ev, walk]
      simp only [opN, ev.eq_1, show rgOk 1 201 = true from rfl, if_true, IR.comp, calmE, List.all_cons, List.all_nil, Bool.and_self, gt, List.getElem?_cons_zero, List.getElem?_cons_succ, c2, restE, unlockAll, List.set_cons_succ, List.set_cons_zero, Option.getD, ER.bind, fin1, fetch, pr1, fin2, ne_tN, bl?, Option.map]
  have e3 := exec_ite (F := (callK T G 19)) (G := G) (a := (.cons (.ret (.cst (.bl false))) .nil)) (b := .nil) (show tst (callK T G 19) G (.or _ _) _ = .ok false (.bl false) _ from by
    rw [tst, e1]
    simp only [ER.test, ER.bind, Bool.false_eq_true, if_false]
    exact e2)
  rw [e3, execs_end]
  rfl
end
end Law
namespace Law
open Rx
theorem ite_skip {F : Nat → List Sl → CR} {t : Tm} {a : Sts} {E : En} {o : Bool} (h : tst F G t E = .ok o (.bl false) E) : exec F G (.ite t a .nil) E = .nx E := by
  rw [exec_ite h, if_neg (by simp), execs_end]
section
variable {t u : Tf} {m q : Nat}
theorem rows_el : ∀ (q many least : Nat), ∀ r ∈ rowsL q many least, ∀ p ∈ r, p ≤ many
  | 0, many, least, r, hr, p, hp => by
    unfold rowsL at hr
    split at hr
    · simp at hr; subst hr; cases hp
    · cases hr
  | q + 1, many, least, r, hr, p, hp => by
    unfold rowsL at hr
    split at hr
    · simp at hr; subst hr; cases hp
    · obtain ⟨f, hf, hr⟩ := List.mem_flatMap.mp hr
      obtain ⟨r', hr', rfl⟩ := List.mem_map.mp hr
      have hf := List.mem_range'_1.mp hf
      rcases List.mem_cons.mp hp with rfl | hp
      · omega
      · have := rows_el q (many - f) f r' hr' p hp
        omega
theorem s_rows (hm : m ≤ 11) (hq : q ≤ 3) {x0 x1 x2 x3 x6 x7 x8 : Option Sl} {r : En} : exec (callK T G 19) G (.asg (.nm 9) (.call 24 (.cons (.var 4) (.cons (.var 5) (.cons (.cst (.int 1)) .nil))))) (x0 :: x1 :: x2 :: x3 :: (some (.val (.int ((m : Nat) : Int)))) :: (some (.val (.int ((q : Nat) : Int)))) :: x6 :: x7 :: x8 :: none :: r) = .nx (x0 :: x1 :: x2 :: x3 :: (some (.val (.int ((m : Nat) : Int)))) :: (some (.val (.int ((q : Nat) : Int)))) :: x6 :: x7 :: x8 :: (some (.own (D.lst ((rowsL q m 1).map tN)))) :: r) := by
  have q1 := c_lrows (18 - q) q (by omega) m 1 (by omega) (by omega) (by omega)
  rw [show 18 - q + q + 1 = 19 by omega] at q1
  have q1' : (callK T G 19) 24 [.val (.int (m : Nat)), .val (.int (q : Nat)), .val (.int 1)] = _ := q1
  simp [-List.map_map, execs, exec, evos, evs, args, argV, argD, AR.bind, AR.call, back, ev, tst, opB, truthOf, gt, take, asVar, fin1, fin2, fetch, pr1, pr2, cmpD, bl?, truth, Sl.d, tgt, tgts, tgtOs, tgtO, storeS, locked, Out.only, Out.then, ER.out, ER.bind, ER.test, constOf, isTy, walk, opI, opN, isMut, isLst, lockS, unlockS, unlockAll, rows, IR.for_, IR.comp, IR.calm, calmE, lastPs, lastH, putS, atD, finM, q1']
theorem sd_ev {s : List Nat} (hs : ∀ j ∈ s, j < 201) (hz : s.length ≤ 1000) {x0 x1 x2 x3 x4 x5 x7 x8 x9 x10 : Option Sl} {r : En} {z : Option Sl} (c : z = none) :
    ev (callK T G 19) G b26_22 (x0 :: x1 :: x2 :: x3 :: x4 :: x5 :: (some (.own (.lst (((List.range 201).map (due t)).map nI)))) :: x7 :: x8 :: x9 :: x10 :: z :: (some (.val (tN s))) :: r) = .ok false (.int (sd t s : Nat)) (x0 :: x1 :: x2 :: x3 :: x4 :: x5 :: (some (.own (.lst (((List.range 201).map (due t)).map nI)))) :: x7 :: x8 :: x9 :: x10 :: z :: (some (.val (tN s))) :: r) := by
  subst c
  have hc : compL [11] (tgt (callK T G 19) G (.nm 11)) (fun E => .ok false (.bl true) E) (ev (callK T G 19) G b26_21) (s.map nI) [] (x0 :: x1 :: x2 :: x3 :: x4 :: x5 :: (some (.own (.lst (((List.range 201).map (due t)).map nI)))) :: x7 :: x8 :: x9 :: x10 :: none :: (some (.val (tN s))) :: r) = .ok true (.lst (s.map fun k => nI (due t k))) (x0 :: x1 :: x2 :: x3 :: x4 :: x5 :: (some (.own (.lst (((List.range 201).map (due t)).map nI)))) :: x7 :: x8 :: x9 :: x10 :: none :: (some (.val (tN s))) :: r) := by
    rw [comp_all (f := nI) (g := fun k => nI (due t k)) (fun j hj => ?_) (SZ_big hz)]
    · rfl
    · have a1 := at_201 (f := due t) (hs j hj)
      refine ⟨(x0 :: x1 :: x2 :: x3 :: x4 :: x5 :: (some (.own (.lst (((List.range 201).map (due t)).map nI)))) :: x7 :: x8 :: x9 :: x10 :: (some (.val (.int ((j : Nat) : Int)))) :: (some (.val (tN s))) :: r), false, (x0 :: x1 :: x2 :: x3 :: x4 :: x5 :: (some (.own (.lst (((List.range 201).map (due t)).map nI)))) :: x7 :: x8 :: x9 :: x10 :: (some (.val (.int ((j : Nat) : Int)))) :: (some (.val (tN s))) :: r), by simp [-List.map_map, execs, exec, evos, evs, args, argV, argD, AR.bind, AR.call, back, ev, tst, opB, truthOf, gt, take, asVar, fin1, fin2, fetch, pr1, pr2, cmpD, bl?, truth, Sl.d, tgt, tgts, tgtOs, tgtO, storeS, locked, Out.only, Out.then, ER.out, ER.bind, ER.test, constOf, isTy, walk, opI, opN, isMut, isLst, lockS, unlockS, unlockAll, rows, IR.for_, IR.comp, IR.calm, calmE, lastPs, lastH, putS, atD, finM, wipeE, nI], ?_, by simp [wipeE], by simp [wipeE]⟩
      rw [b26_21]
      simp only [ev, opB, asVar, gt, List.getElem?_cons_zero, List.getElem?_cons_succ, fin2, fetch, Option.map, Sl.d, pr2, a1, ER.bind, nI]
  have hsum : pr1 .sum (.lst (s.map fun k => nI (due t k))) = some (false, .int (sd t s : Nat)) := by
    have := pr1_sum (l := s.map (due t))
    rw [List.map_map] at this
    exact this
  rw [b26_22, ev]
  · simp only [opB, asVar]
    rw [ev, walk]
    simp only [opI, asVar, gt, isMut, Sl.d, rows, tN, List.getElem?_cons_zero, List.getElem?_cons_succ, Bool.false_eq_true, if_false, IR.comp, calmE, List.all_cons, List.all_nil, Bool.and_self, if_true]
    rw [← tN, hc]
    simp only [restE, unlockAll, ER.bind, fin1, fetch, hsum, List.getElem?_cons_zero, List.getElem?_cons_succ, List.set_cons_succ, List.set_cons_zero, Option.getD]
theorem s_rdues (hm : m ≤ 11) (hq : q ≤ 3) {x0 x1 x2 x3 x4 x5 x7 x8 : Option Sl} {r : En} : exec (callK T G 19) G (.asg (.nm 10) (.lc b26_22 (.nm 12) (.seq (.var 9)) none [12])) (x0 :: x1 :: x2 :: x3 :: x4 :: x5 :: (some (.own (.lst (((List.range 201).map (due t)).map nI)))) :: x7 :: x8 :: (some (.own (D.lst ((rowsL q m 1).map tN)))) :: none :: none :: none :: r) =
    .nx (x0 :: x1 :: x2 :: x3 :: x4 :: x5 :: (some (.own (.lst (((List.range 201).map (due t)).map nI)))) :: x7 :: x8 :: (some (.own (D.lst ((rowsL q m 1).map tN)))) :: (some (.own (.lst ((rowsL q m 1).map fun s => nI (sd t s))))) :: none :: none :: r) := by
  obtain ⟨l1, l2⟩ := rows_len q m 1 (by omega) (by omega)
  have hp : 14 ^ q ≤ 14 ^ 3 := Nat.pow_le_pow_right (by omega) hq
  have hz : (rowsL q m 1).length ≤ SZ := Nat.le_trans (show _ ≤ 2744 by omega) (by decide)
  have hc : compL [12] (tgt (callK T G 19) G (.nm 12)) (fun E => .ok false (.bl true) E) (ev (callK T G 19) G b26_22) ((rowsL q m 1).map tN) [] (x0 :: x1 :: x2 :: x3 :: x4 :: x5 :: (some (.own (.lst (((List.range 201).map (due t)).map nI)))) :: x7 :: x8 :: (some (.lck true (D.lst ((rowsL q m 1).map tN)))) :: none :: none :: none :: r) = .ok true (.lst ((rowsL q m 1).map fun s => nI (sd t s))) (x0 :: x1 :: x2 :: x3 :: x4 :: x5 :: (some (.own (.lst (((List.range 201).map (due t)).map nI)))) :: x7 :: x8 :: (some (.lck true (D.lst ((rowsL q m 1).map tN)))) :: none :: none :: none :: r) := by
    rw [comp_all (f := tN) (g := fun s => nI (sd t s)) (fun s hs => ?_) hz]
    · rfl
    · exact ⟨(x0 :: x1 :: x2 :: x3 :: x4 :: x5 :: (some (.own (.lst (((List.range 201).map (due t)).map nI)))) :: x7 :: x8 :: (some (.lck true (D.lst ((rowsL q m 1).map tN)))) :: none :: none :: (some (.val (tN s))) :: r), false, (x0 :: x1 :: x2 :: x3 :: x4 :: x5 :: (some (.own (.lst (((List.range 201).map (due t)).map nI)))) :: x7 :: x8 :: (some (.lck true (D.lst ((rowsL q m 1).map tN)))) :: none :: none :: (some (.val (tN s))) :: r), by simp [-List.map_map, execs, exec, evos, evs, args, argV, argD, AR.bind, AR.call, back, ev, tst, opB, truthOf, gt, take, asVar, fin1, fin2, fetch, pr1, pr2, cmpD, bl?, truth, Sl.d, tgt, tgts, tgtOs, tgtO, storeS, locked, Out.only, Out.then, ER.out, ER.bind, ER.test, constOf, isTy, walk, opI, opN, isMut, isLst, lockS, unlockS, unlockAll, rows, IR.for_, IR.comp, IR.calm, calmE, lastPs, lastH, putS, atD, finM, wipeE], sd_ev (fun j hj => by have := rows_el q m 1 s hs j hj; omega) (by have := l2 s hs; omega) rfl, by simp [wipeE], by simp [wipeE]⟩
  rw [exec, ev, walk]
  simp only [opI, asVar, gt, isMut, isLst, Sl.d, rows, lockS, List.getElem?_cons_zero, List.getElem?_cons_succ, if_true, List.set_cons_succ, List.set_cons_zero, IR.comp, calmE, List.all_cons, List.all_nil, Bool.and_self, hc]
  simp [-List.map_map, restE, unlockAll, unlockS, gt, ER.out, tgtO, storeS, locked, Out.only]
theorem plains_tN : ∀ {l : List (List Nat)}, plains 39 (l.map tN) = true
  | [] => rfl
  | r :: l => by
    rw [List.map_cons, plains, plains_tN, tN]
    show (plains 38 (r.map nI) && true) = true
    rw [plains_nI]; rfl
theorem ne_nilN {l : List (List Nat)} : cmpD G .ne (.lst (l.map tN)) (.lst []) = some (!l.isEmpty) := by
  have e : cmpD G .ne (.lst (l.map tN)) (.lst []) = (if (plains 39 (l.map tN) && plains 39 []) = true then some (!eqvs (l.map tN) []) else none) := rfl
  rw [e, plains_tN]
  cases l <;> rfl
theorem ne_oN {o : Option (List Nat)} : cmpD G .ne (oN o) (oN o) = some false := by
  cases o with
  | none => rfl
  | some r => exact ne_tN
theorem s_told (h : t ≠ []) (hm : m ≤ 11) (hq : q ≤ 3) {x0 x1 x3 x6 x7 x8 : Option Sl} {r : En} : exec (callK T G 19) G (.ite (.cmp .ne (.call 25 (.cons (.cst (.int 0)) (.cons (.var 2) (.cons (.var 4) (.cons (.var 5) .nil))))) (.ifx (.cmp .ne (.var 9) (.lst .nil)) (.p2 .item (.var 9) (.idx 10 (.p1 .min1 (.var 10)))) (.cst .non))) (.cons (.ret (.cst (.bl false))) .nil) .nil) (x0 :: x1 :: (some (.val (dT t))) :: x3 :: (some (.val (.int ((m : Nat) : Int)))) :: (some (.val (.int ((q : Nat) : Int)))) :: x6 :: x7 :: x8 :: (some (.own (D.lst ((rowsL q m 1).map tN)))) :: (some (.own (.lst ((rowsL q m 1).map fun s => nI (sd t s))))) :: r) =
    .nx (x0 :: x1 :: (some (.val (dT t))) :: x3 :: (some (.val (.int ((m : Nat) : Int)))) :: (some (.val (.int ((q : Nat) : Int)))) :: x6 :: x7 :: x8 :: (some (.own (D.lst ((rowsL q m 1).map tN)))) :: (some (.own (.lst ((rowsL q m 1).map fun s => nI (sd t s))))) :: r) := by
  have q1 : (callK T G 19) 25 [.val (.int 0), .val (dT t), .val (.int (m : Nat)), .val (.int (q : Nat))] = _ := c_told0 (k := 11) h hq (by omega)
  have e2 : ev (callK T G 19) G (.ifx (.cmp .ne (.var 9) (.lst .nil)) (.p2 .item (.var 9) (.idx 10 (.p1 .min1 (.var 10)))) (.cst .non)) (x0 :: x1 :: (some (.val (dT t))) :: x3 :: (some (.val (.int ((m : Nat) : Int)))) :: (some (.val (.int ((q : Nat) : Int)))) :: x6 :: x7 :: x8 :: (some (.own (D.lst ((rowsL q m 1).map tN)))) :: (some (.own (.lst ((rowsL q m 1).map fun s => nI (sd t s))))) :: r) = .ok false (oN (best1 t q m)) (x0 :: x1 :: (some (.val (dT t))) :: x3 :: (some (.val (.int ((m : Nat) : Int)))) :: (some (.val (.int ((q : Nat) : Int)))) :: x6 :: x7 :: x8 :: (some (.own (D.lst ((rowsL q m 1).map tN)))) :: (some (.own (.lst ((rowsL q m 1).map fun s => nI (sd t s))))) :: r) := by
    rw [ev, tst]
    simp only [opB, asVar, gt, List.getElem?_cons_zero, List.getElem?_cons_succ, ev.eq_17, evs, AR.call, back, List.map_nil, ER.bind, fin2, fetch, Option.map, Sl.d, ne_nilN, bl?, ER.test]
    unfold best1
    cases hc : cd t q m 1 with
    | none =>
      have hnil : rowsL q m 1 = [] := by simpa using mn_none.mp hc
      simp only [hnil, List.isEmpty_nil, Bool.not_true, Bool.false_eq_true, if_false, ev.eq_1]
      rfl
    | some b =>
      have hmem : b ∈ (rowsL q m 1).map (sd t) := (mn_some.mp hc).1
      have hne : (rowsL q m 1).isEmpty = false := by
        cases hh : rowsL q m 1 with
        | nil => rw [hh] at hmem; cases hmem
        | cons _ _ => rfl
      obtain ⟨j, row, f1, f2, f3⟩ := ix_find hmem
      have hmin : pr1 .min1 (.lst ((rowsL q m 1).map fun s => nI (sd t s))) = some (false, .int (b : Nat)) := by
        have := pr1_min (l := (rowsL q m 1).map (sd t)) hc
        rw [List.map_map] at this
        exact this
      have hrow : row1 t q m 1 b = some row := f2
      simp only [hne, Bool.not_false, if_true, hrow]
      rw [ev]
      · simp only [opB, asVar, gt, List.getElem?_cons_zero, List.getElem?_cons_succ]
        rw [ev]
        simp only [isLst, gt, List.getElem?_cons_zero, List.getElem?_cons_succ, Sl.d, if_true, opB, asVar]
        rw [ev]
        · simp only [opB, asVar, gt, List.getElem?_cons_zero, List.getElem?_cons_succ, fin1, fin2, fetch, Option.map, Sl.d, hmin, ER.bind, f1, pr2, at_N f3]
          rfl
        all_goals (intros; rename_i e; cases e)
      all_goals (intros; rename_i e; cases e)
  refine ite_skip (o := false) ?_
  rw [tst]
  simp only [opB, asVar]
  rw [ev]
  simp only [args, asVar, argV, argD, ev.eq_1, gt, List.getElem?_cons_zero, List.getElem?_cons_succ, AR.bind, AR.call, q1, back, ER.bind]
  rw [e2]
  simp only [ER.bind, fin2, fetch, ne_oN, bl?, Option.map]
end
end Law
namespace Law
open Rx
def SyOk (ss : Sy) : Prop := ∀ p ∈ ss, p.1 < 14 ∧ p.1 ≤ p.2.1
theorem SyOk.get {ss : Sy} (h : SyOk ss) {k : Nat} (hk : k < ss.length) : (gs ss k).1 < 14 ∧ (gs ss k).1 ≤ (gs ss k).2.1 := h _ (gs_mem hk)
theorem SyOk.ear {ss : Sy} (h : SyOk ss) : Ear ss := fun k hk => by have := h.get hk; omega
theorem SyOk.ok {ss : Sy} (h : SyOk ss) : Ok ss := fun k hk => (h.get hk).2
theorem stay_loop : ∀ (n i : Nat) (ss : Sy) (d : D) {x0 x2 x3 x4 x5 x6 x7 x8 x9 x10 x11 x12 x14 x15 : Option Sl} {r : En} , Dw d → SyOk ss → Cm x14 → Cm x15 → ss.length + n ≤ 100 →
    ∃ (ss' : Sy) (d' : D) (y14 y15 : Option Sl), Dw d' ∧ SyOk ss' ∧ ss'.length = ss.length + n ∧ Cm y14 ∧ Cm y15 ∧ forL (tgt (callK T G 19) G (.nm 14)) (execs (callK T G 19) G b26_20) ((List.range' i n).map nI) (x0 :: some (.own d) :: x2 :: x3 :: x4 :: x5 :: x6 :: x7 :: x8 :: x9 :: x10 :: x11 :: x12 :: (some (.own (.lst ((ss).map rowS)))) :: x14 :: x15 :: r) = .nx (x0 :: some (.own d') :: x2 :: x3 :: x4 :: x5 :: x6 :: x7 :: x8 :: x9 :: x10 :: x11 :: x12 :: (some (.own (.lst ((ss').map rowS)))) :: y14 :: y15 :: r)
  | 0, i, ss, d, x0, x2, x3, x4, x5, x6, x7, x8, x9, x10, x11, x12, x14, x15, r, hd, hs, c14, c15, hl => ⟨ss, d, x14, x15, hd, hs, rfl, c14, c15, by simp [forL]⟩
  | n + 1, i, ss, d, x0, x2, x3, x4, x5, x6, x7, x8, x9, x10, x11, x12, x14, x15, r, hd, hs, c14, c15, hl => by
    have h1 : tgt (callK T G 19) G (.nm 14) (nI i) (x0 :: some (.own d) :: x2 :: x3 :: x4 :: x5 :: x6 :: x7 :: x8 :: x9 :: x10 :: x11 :: x12 :: (some (.own (.lst ((ss).map rowS)))) :: x14 :: x15 :: r) = .nx (x0 :: some (.own d) :: x2 :: x3 :: x4 :: x5 :: x6 :: x7 :: x8 :: x9 :: x10 :: x11 :: x12 :: (some (.own (.lst ((ss).map rowS)))) :: (some (.val (.int ((i : Nat) : Int)))) :: x15 :: r) := by
      rcases c14 with rfl | ⟨d, rfl⟩ <;> simp [execs, exec, evos, evs, args, argV, argD, AR.bind, AR.call, back, ev, tst, opB, truthOf, gt, take, asVar, fin1, fin2, fetch, pr1, pr2, cmpD, bl?, truth, Sl.d, tgt, tgts, tgtOs, tgtO, storeS, locked, Out.only, Out.then, ER.out, ER.bind, ER.test, constOf, isTy, walk, opI, opN, isMut, isLst, lockS, unlockS, unlockAll, rows, IR.for_, IR.comp, IR.calm, calmE, lastPs, lastH, putS, atD, finM, nI]
    obtain ⟨a, d1, ha, hd1, q1⟩ := takeN (k := 18) hd (m := 14) (by omega) (by omega)
    obtain ⟨b, d2, hb, hd2, q2⟩ := takeN (k := 18) hd1 (m := 5) (by omega) (by omega)
    obtain ⟨w, d3, hw, hd3, q3⟩ := takeN (k := 18) hd2 (m := 9) (by omega) (by omega)
    have q1' : (callK T G 19) 19 [.ref d, .val (.int 14)] = _ := q1
    have q2' : (callK T G 19) 19 [.ref d1, .val (.int 5)] = _ := q2
    have q3' : (callK T G 19) 19 [.ref d2, .val (.int 9)] = _ := q3
    have hz : ss.length < SZ := Nat.lt_of_le_of_lt (show ss.length ≤ 100 by omega) (by decide)
    have h2 : execs (callK T G 19) G b26_20 (x0 :: some (.own d) :: x2 :: x3 :: x4 :: x5 :: x6 :: x7 :: x8 :: x9 :: x10 :: x11 :: x12 :: (some (.own (.lst ((ss).map rowS)))) :: (some (.val (.int ((i : Nat) : Int)))) :: x15 :: r) = .nx (x0 :: some (.own d3) :: x2 :: x3 :: x4 :: x5 :: x6 :: x7 :: x8 :: x9 :: x10 :: x11 :: x12 :: (some (.own (.lst (((ss ++ [(a, a + b, w)])).map rowS)))) :: (some (.val (.int ((i : Nat) : Int)))) :: (some (.val (.int ((a : Nat) : Int)))) :: r) := by
      rw [b26_20, execs_nx (E1 := (x0 :: some (.own d1) :: x2 :: x3 :: x4 :: x5 :: x6 :: x7 :: x8 :: x9 :: x10 :: x11 :: x12 :: (some (.own (.lst ((ss).map rowS)))) :: (some (.val (.int ((i : Nat) : Int)))) :: (some (.val (.int ((a : Nat) : Int)))) :: r)), execs_nx (E1 := (x0 :: some (.own d3) :: x2 :: x3 :: x4 :: x5 :: x6 :: x7 :: x8 :: x9 :: x10 :: x11 :: x12 :: (some (.own (.lst (((ss ++ [(a, a + b, w)])).map rowS)))) :: (some (.val (.int ((i : Nat) : Int)))) :: (some (.val (.int ((a : Nat) : Int)))) :: r)), execs_end]
      · rw [exec, ev]
        simp only [gt, isLst, List.getElem?_cons_zero, List.getElem?_cons_succ, Sl.d, if_true, evs, argD]
        simp [-List.map_map, execs, exec, evos, evs, args, argV, argD, AR.bind, AR.call, back, ev, tst, opB, truthOf, gt, take, asVar, fin1, fin2, fetch, pr1, pr2, cmpD, bl?, truth, Sl.d, tgt, tgts, tgtOs, tgtO, storeS, locked, Out.only, Out.then, ER.out, ER.bind, ER.test, constOf, isTy, walk, opI, opN, isMut, isLst, lockS, unlockS, unlockAll, rows, IR.for_, IR.comp, IR.calm, calmE, lastPs, lastH, putS, atD, finM, q2', q3', mth, hz, rowS]
      · simp only [exec, ev, args, asVar, argV, argD, gt, List.getElem?_cons_zero, List.getElem?_cons_succ, List.set_cons_succ, List.set_cons_zero, AR.bind, AR.call, q1', back]
        rcases c15 with rfl | ⟨d, rfl⟩ <;> simp [ER.out, tgtO, storeS, locked, gt, Out.only]
    have hs' : SyOk (ss ++ [(a, a + b, w)]) := fun p hp => by
      rcases List.mem_append.mp hp with hp | hp
      · exact hs p hp
      · simp only [List.mem_singleton] at hp
        subst hp
        dsimp only
        omega
    obtain ⟨ss', d', y14, y15, i1, i2, i3, i4, i5, i6⟩ := stay_loop n (i + 1) (ss ++ [(a, a + b, w)]) d3 (x0 := x0) (x2 := x2) (x3 := x3) (x4 := x4) (x5 := x5) (x6 := x6) (x7 := x7) (x8 := x8) (x9 := x9) (x10 := x10) (x11 := x11) (x12 := x12) (x14 := (some (.val (.int ((i : Nat) : Int))))) (x15 := (some (.val (.int ((a : Nat) : Int))))) (r := r) hd3 hs' (.inr ⟨_, rfl⟩) (.inr ⟨_, rfl⟩) (by simp; omega)
    exact ⟨ss', d', y14, y15, i1, i2, by rw [i3]; simp; omega, i4, i5, by rw [List.range'_succ, List.map_cons, forL_cons h1 h2, i6]⟩
theorem s_stays {d : D} (hd : Dw d) {x0 x2 x3 x4 x5 x6 x7 x8 x9 x10 x11 x12 : Option Sl} {r : En} : ∃ (ss : Sy) (d' : D) (y14 y15 : Option Sl), Dw d' ∧ SyOk ss ∧ ss.length ≤ 6 ∧ Cm y14 ∧ Cm y15 ∧ exec (callK T G 19) G (.for_ (.nm 14) (.range1 (.call 19 (.cons (.var 1) (.cons (.cst (.int 7)) .nil)))) b26_20) (x0 :: some (.own d) :: x2 :: x3 :: x4 :: x5 :: x6 :: x7 :: x8 :: x9 :: x10 :: x11 :: x12 :: (some (.own (.lst ((([] : Sy)).map rowS)))) :: none :: none :: r) = .nx (x0 :: some (.own d') :: x2 :: x3 :: x4 :: x5 :: x6 :: x7 :: x8 :: x9 :: x10 :: x11 :: x12 :: (some (.own (.lst ((ss).map rowS)))) :: y14 :: y15 :: r) := by
  obtain ⟨n, d1, hn, hd1, q1⟩ := takeN (k := 18) hd (m := 7) (by omega) (by omega)
  have q1' : (callK T G 19) 19 [.ref d, .val (.int 7)] = _ := q1
  obtain ⟨ss, d2, y14, y15, i1, i2, i3, i4, i5, i6⟩ := stay_loop n 0 [] d1 (x0 := x0) (x2 := x2) (x3 := x3) (x4 := x4) (x5 := x5) (x6 := x6) (x7 := x7) (x8 := x8) (x9 := x9) (x10 := x10) (x11 := x11) (x12 := x12) (x14 := none) (x15 := none) (r := r) hd1 (fun p hp => by cases hp) (.inl rfl) (.inl rfl) (by simp; omega)
  refine ⟨ss, d2, y14, y15, i1, i2, by rw [i3]; simp; omega, i4, i5, ?_⟩
  have hg : rgOk 0 (n : Int) = true := by simp [rgOk]; omega
  rw [exec, walk, ev]
  simp only [args, asVar, argV, argD, ev.eq_1, gt, List.getElem?_cons_zero, List.getElem?_cons_succ, List.set_cons_succ, List.set_cons_zero, AR.bind, AR.call, q1', back, opN, hg, if_true, IR.for_, range_0]
  rw [List.range_eq_range', i6]
  rfl
section
variable {ss : Sy}
theorem at_row0 {p : Nat × Nat × Nat} : atD [D.int (p.1 : Nat), D.int (p.2.1 : Nat), D.int (p.2.2 : Nat)] 0 = some (.int (p.1 : Nat)) := rfl
theorem at_row1 {p : Nat × Nat × Nat} : atD [D.int (p.1 : Nat), D.int (p.2.1 : Nat), D.int (p.2.2 : Nat)] 1 = some (.int (p.2.1 : Nat)) := rfl
theorem full_ev (hl : ss.length ≤ 6) {n : Nat} {x0 x1 x2 x3 x4 x5 x6 x7 x8 x9 x10 x11 x12 : Option Sl} {r : En} (c14 : Cm x14) : ev (callK T G 19) G b26_19 (x0 :: x1 :: x2 :: x3 :: x4 :: x5 :: x6 :: x7 :: x8 :: x9 :: x10 :: x11 :: x12 :: (some (.val (dS ss))) :: x14 :: (some (.val (.int ((n : Nat) : Int)))) :: r) = .ok true (.lst ((gu ss n).map nI)) (x0 :: x1 :: x2 :: x3 :: x4 :: x5 :: x6 :: x7 :: x8 :: x9 :: x10 :: x11 :: x12 :: (some (.val (dS ss))) :: x14 :: (some (.val (.int ((n : Nat) : Int)))) :: r) := by
  have hc : compL [14] (tgt (callK T G 19) G (.nm 14)) (tst (callK T G 19) G (.chain .le .le (.p2 .item (.p2 .item (.var 13) (.var 14)) (.cst (.int 0))) (.var 15) (.p2 .item (.p2 .item (.var 13) (.var 14)) (.cst (.int 1))))) (ev (callK T G 19) G b26_18) (rangeD 0 (ss.length : Int)) [] (x0 :: x1 :: x2 :: x3 :: x4 :: x5 :: x6 :: x7 :: x8 :: x9 :: x10 :: x11 :: x12 :: (some (.val (dS ss))) :: x14 :: (some (.val (.int ((n : Nat) : Int)))) :: r) = .ok true (.lst ((gu ss n).map nI)) (x0 :: x1 :: x2 :: x3 :: x4 :: x5 :: x6 :: x7 :: x8 :: x9 :: x10 :: x11 :: x12 :: (some (.val (dS ss))) :: none :: (some (.val (.int ((n : Nat) : Int)))) :: r) := by
    rw [range_0, comp_of (f := nI) (p := fun k => has (gs ss k) n) (g := nI) (fun k hk => ?_) (by simpa using SZ_big (by omega))]
    · rfl
    · have a1 := at_S (List.mem_range.mp hk)
      refine ⟨(x0 :: x1 :: x2 :: x3 :: x4 :: x5 :: x6 :: x7 :: x8 :: x9 :: x10 :: x11 :: x12 :: (some (.val (dS ss))) :: (some (.val (.int ((k : Nat) : Int)))) :: (some (.val (.int ((n : Nat) : Int)))) :: r), (x0 :: x1 :: x2 :: x3 :: x4 :: x5 :: x6 :: x7 :: x8 :: x9 :: x10 :: x11 :: x12 :: (some (.val (dS ss))) :: (some (.val (.int ((k : Nat) : Int)))) :: (some (.val (.int ((n : Nat) : Int)))) :: r), false, by simp [execs, exec, evos, evs, args, argV, argD, AR.bind, AR.call, back, ev, tst, opB, truthOf, gt, take, asVar, fin1, fin2, fetch, pr1, pr2, cmpD, bl?, truth, Sl.d, tgt, tgts, tgtOs, tgtO, storeS, locked, Out.only, Out.then, ER.out, ER.bind, ER.test, constOf, isTy, walk, opI, opN, isMut, isLst, lockS, unlockS, unlockAll, rows, IR.for_, IR.comp, IR.calm, calmE, lastPs, lastH, putS, atD, finM, wipeE, nI], ?_, by simp [wipeE], fun _ => ⟨false, (x0 :: x1 :: x2 :: x3 :: x4 :: x5 :: x6 :: x7 :: x8 :: x9 :: x10 :: x11 :: x12 :: (some (.val (dS ss))) :: (some (.val (.int ((k : Nat) : Int)))) :: (some (.val (.int ((n : Nat) : Int)))) :: r), by simp [execs, exec, evos, evs, args, argV, argD, AR.bind, AR.call, back, ev, tst, opB, truthOf, gt, take, asVar, fin1, fin2, fetch, pr1, pr2, cmpD, bl?, truth, Sl.d, tgt, tgts, tgtOs, tgtO, storeS, locked, Out.only, Out.then, ER.out, ER.bind, ER.test, constOf, isTy, walk, opI, opN, isMut, isLst, lockS, unlockS, unlockAll, rows, IR.for_, IR.comp, IR.calm, calmE, lastPs, lastH, putS, atD, finM, b26_18, nI], by simp [wipeE]⟩⟩
      rw [tst]
      simp only [opB, asVar, ev, gt, List.getElem?_cons_zero, List.getElem?_cons_succ, fin2, fetch, Option.map, Sl.d, pr2, dS, a1, ER.bind, rowS, at_row0, at_row1, cmpD, bl?, ER.test, has]
      by_cases h : (gs ss k).1 ≤ n <;> simp [h]
  have hg : rgOk 0 (ss.length : Int) = true := by simp [rgOk]; omega
  rw [b26_19, ev, walk, ev]
  · simp only [opN, opB, asVar, gt, List.getElem?_cons_zero, List.getElem?_cons_succ, fin1, fetch, Option.map, Sl.d, dS, pr1, List.length_map, hg, if_true, IR.comp]
    rw [← dS, hc]
    rcases c14 with rfl | ⟨d, rfl⟩ <;> simp [-List.map_map, calmE, gt, restE, unlockAll]
theorem s_full (hl : ss.length ≤ 6) {x0 x1 x2 x3 x4 x5 x6 x7 x8 x9 x10 x11 x12 : Option Sl} {r : En} (c14 : Cm x14) (c15 : Cm x15) : exec (callK T G 19) G (.asg (.nm 16) (.lc b26_19 (.nm 15) (.range1 (.cst (.int 30))) none [15])) (x0 :: x1 :: x2 :: x3 :: x4 :: x5 :: x6 :: x7 :: x8 :: x9 :: x10 :: x11 :: x12 :: (some (.val (dS ss))) :: x14 :: x15 :: none :: r) = .nx (x0 :: x1 :: x2 :: x3 :: x4 :: x5 :: x6 :: x7 :: x8 :: x9 :: x10 :: x11 :: x12 :: (some (.val (dS ss))) :: x14 :: x15 :: (some (.own (D.lst ((List.range 30).map fun n => D.lst ((gu ss n).map nI))))) :: r) := by
  have hc : compL [15] (tgt (callK T G 19) G (.nm 15)) (fun E => .ok false (.bl true) E) (ev (callK T G 19) G b26_19) (rangeD 0 30) [] (x0 :: x1 :: x2 :: x3 :: x4 :: x5 :: x6 :: x7 :: x8 :: x9 :: x10 :: x11 :: x12 :: (some (.val (dS ss))) :: x14 :: x15 :: none :: r) = .ok true (D.lst ((List.range 30).map fun n => D.lst ((gu ss n).map nI))) (x0 :: x1 :: x2 :: x3 :: x4 :: x5 :: x6 :: x7 :: x8 :: x9 :: x10 :: x11 :: x12 :: (some (.val (dS ss))) :: x14 :: none :: none :: r) := by
    rw [show rangeD 0 30 = (List.range 30).map nI from range_0 (m := 30), comp_all (f := nI) (g := fun n => D.lst ((gu ss n).map nI)) (fun n hn => ?_) (by simpa using SZ_big (by omega))]
    · rfl
    · exact ⟨(x0 :: x1 :: x2 :: x3 :: x4 :: x5 :: x6 :: x7 :: x8 :: x9 :: x10 :: x11 :: x12 :: (some (.val (dS ss))) :: x14 :: (some (.val (.int ((n : Nat) : Int)))) :: none :: r), true, (x0 :: x1 :: x2 :: x3 :: x4 :: x5 :: x6 :: x7 :: x8 :: x9 :: x10 :: x11 :: x12 :: (some (.val (dS ss))) :: x14 :: (some (.val (.int ((n : Nat) : Int)))) :: none :: r), by simp [execs, exec, evos, evs, args, argV, argD, AR.bind, AR.call, back, ev, tst, opB, truthOf, gt, take, asVar, fin1, fin2, fetch, pr1, pr2, cmpD, bl?, truth, Sl.d, tgt, tgts, tgtOs, tgtO, storeS, locked, Out.only, Out.then, ER.out, ER.bind, ER.test, constOf, isTy, walk, opI, opN, isMut, isLst, lockS, unlockS, unlockAll, rows, IR.for_, IR.comp, IR.calm, calmE, lastPs, lastH, putS, atD, finM, wipeE, nI], full_ev hl c14, by simp [wipeE], by simp [wipeE]⟩
  rw [exec, ev, walk]
  simp only [opN, ev.eq_1, show rgOk 0 30 = true from rfl, if_true, IR.comp, hc]
  rcases c15 with rfl | ⟨d, rfl⟩ <;> simp [-List.map_map, calmE, gt, restE, unlockAll, ER.out, tgtO, storeS, locked, Out.only]
theorem s_night {d : D} (hd : Dw d) {x0 x2 x3 x4 x5 x6 x7 x8 x9 x10 x11 x12 x13 x14 : Option Sl} {r : En} (c15 : Cm x15) : ∃ (n : Nat) (d' : D), n < 30 ∧ Dw d' ∧ exec (callK T G 19) G (.asg (.nm 15) (.call 19 (.cons (.var 1) (.cons (.cst (.int 30)) .nil)))) (x0 :: some (.own d) :: x2 :: x3 :: x4 :: x5 :: x6 :: x7 :: x8 :: x9 :: x10 :: x11 :: x12 :: x13 :: x14 :: x15 :: r) = .nx (x0 :: some (.own d') :: x2 :: x3 :: x4 :: x5 :: x6 :: x7 :: x8 :: x9 :: x10 :: x11 :: x12 :: x13 :: x14 :: (some (.val (.int ((n : Nat) : Int)))) :: r) := by
  obtain ⟨n, d1, hn, hd1, q1⟩ := takeN (k := 18) hd (m := 30) (by omega) (by omega)
  have q1' : (callK T G 19) 19 [.ref d, .val (.int 30)] = _ := q1
  refine ⟨n, d1, hn, hd1, ?_⟩
  rcases c15 with rfl | ⟨d, rfl⟩ <;> simp [execs, exec, evos, evs, args, argV, argD, AR.bind, AR.call, back, ev, tst, opB, truthOf, gt, take, asVar, fin1, fin2, fetch, pr1, pr2, cmpD, bl?, truth, Sl.d, tgt, tgts, tgtOs, tgtO, storeS, locked, Out.only, Out.then, ER.out, ER.bind, ER.test, constOf, isTy, walk, opI, opN, isMut, isLst, lockS, unlockS, unlockAll, rows, IR.for_, IR.comp, IR.calm, calmE, lastPs, lastH, putS, atD, finM, q1']
theorem at_full {n : Nat} (h : n < 30) : atD ((List.range 30).map fun n => D.lst ((gu ss n).map nI)) (n : Int) = some (.lst ((gu ss n).map nI)) := by
  unfold atD
  rw [if_pos (by omega)]
  simp [h]
theorem len_comp {x0 x1 x2 x3 x4 x5 x6 x7 x8 x9 x10 x11 x12 x13 x14 x15 : Option Sl} {r : En} {f : Sl} : compL [17] (tgt (callK T G 19) G (.nm 17)) (fun E => .ok false (.bl true) E) (ev (callK T G 19) G b26_17) ((List.range 30).map fun n => D.lst ((gu ss n).map nI)) [] (x0 :: x1 :: x2 :: x3 :: x4 :: x5 :: x6 :: x7 :: x8 :: x9 :: x10 :: x11 :: x12 :: x13 :: x14 :: x15 :: some f :: none :: r) = .ok true (.lst (((List.range 30).map fun n => (gu ss n).length).map nI)) (x0 :: x1 :: x2 :: x3 :: x4 :: x5 :: x6 :: x7 :: x8 :: x9 :: x10 :: x11 :: x12 :: x13 :: x14 :: x15 :: some f :: none :: r) := by
  rw [comp_all (f := fun n => D.lst ((gu ss n).map nI)) (g := fun n => nI (gu ss n).length) (fun n hn => ?_) (by simpa using SZ_big (by omega))]
  · rw [List.map_map]; rfl
  · exact ⟨(x0 :: x1 :: x2 :: x3 :: x4 :: x5 :: x6 :: x7 :: x8 :: x9 :: x10 :: x11 :: x12 :: x13 :: x14 :: x15 :: some f :: (some (.val (.lst ((gu ss n).map nI)))) :: r), false, (x0 :: x1 :: x2 :: x3 :: x4 :: x5 :: x6 :: x7 :: x8 :: x9 :: x10 :: x11 :: x12 :: x13 :: x14 :: x15 :: some f :: (some (.val (.lst ((gu ss n).map nI)))) :: r), by simp [execs, exec, evos, evs, args, argV, argD, AR.bind, AR.call, back, ev, tst, opB, truthOf, gt, take, asVar, fin1, fin2, fetch, pr1, pr2, cmpD, bl?, truth, Sl.d, tgt, tgts, tgtOs, tgtO, storeS, locked, Out.only, Out.then, ER.out, ER.bind, ER.test, constOf, isTy, walk, opI, opN, isMut, isLst, lockS, unlockS, unlockAll, rows, IR.for_, IR.comp, IR.calm, calmE, lastPs, lastH, putS, atD, finM, wipeE], by simp [execs, exec, evos, evs, args, argV, argD, AR.bind, AR.call, back, ev, tst, opB, truthOf, gt, take, asVar, fin1, fin2, fetch, pr1, pr2, cmpD, bl?, truth, Sl.d, tgt, tgts, tgtOs, tgtO, storeS, locked, Out.only, Out.then, ER.out, ER.bind, ER.test, constOf, isTy, walk, opI, opN, isMut, isLst, lockS, unlockS, unlockAll, rows, IR.for_, IR.comp, IR.calm, calmE, lastPs, lastH, putS, atD, finM, b26_17, nI], by simp [wipeE], by simp [wipeE]⟩
theorem s_guests (hs : SyOk ss) (hl : ss.length ≤ 6) {n : Nat} (hn : n < 30) {x0 x1 x2 x3 x4 x5 x6 x7 x8 x9 x10 x11 x12 x14 : Option Sl} {r : En} : exec (callK T G 19) G (.ite (.or (.cmp .ne (.call 11 (.cons (.var 13) (.cons (.var 15) .nil))) (.p1 .tupleOf (.p2 .item (.var 16) (.var 15)))) (.or (.cmp .ne (.call 12 (.cons (.var 13) .nil)) (.p1 .max1 (.lc b26_17 (.nm 17) (.seq (.var 16)) none [17]))) (.one (.not (.isinst (.call 11 (.cons (.var 13) (.cons (.var 15) .nil))) "tuple"))))) (.cons (.ret (.cst (.bl false))) .nil) .nil) (x0 :: x1 :: x2 :: x3 :: x4 :: x5 :: x6 :: x7 :: x8 :: x9 :: x10 :: x11 :: x12 :: (some (.val (dS ss))) :: x14 :: (some (.val (.int ((n : Nat) : Int)))) :: (some (.own (D.lst ((List.range 30).map fun n => D.lst ((gu ss n).map nI))))) :: none :: r) = .nx (x0 :: x1 :: x2 :: x3 :: x4 :: x5 :: x6 :: x7 :: x8 :: x9 :: x10 :: x11 :: x12 :: (some (.val (dS ss))) :: x14 :: (some (.val (.int ((n : Nat) : Int)))) :: (some (.own (D.lst ((List.range 30).map fun n => D.lst ((gu ss n).map nI))))) :: none :: r) := by
  have q1 : (callK T G 19) 11 [.val (dS ss), .val (.int (n : Nat))] = _ := c_guests (k := 17) (by omega)
  have q2 : (callK T G 19) 12 [.val (dS ss)] = _ := c_beds (k := 16) (by omega)
  have a1 := at_full (ss := ss) hn
  have e1 : tst (callK T G 19) G (.cmp .ne (.call 11 (.cons (.var 13) (.cons (.var 15) .nil))) (.p1 .tupleOf (.p2 .item (.var 16) (.var 15)))) (x0 :: x1 :: x2 :: x3 :: x4 :: x5 :: x6 :: x7 :: x8 :: x9 :: x10 :: x11 :: x12 :: (some (.val (dS ss))) :: x14 :: (some (.val (.int ((n : Nat) : Int)))) :: (some (.own (D.lst ((List.range 30).map fun n => D.lst ((gu ss n).map nI))))) :: none :: r) = .ok false (.bl false) (x0 :: x1 :: x2 :: x3 :: x4 :: x5 :: x6 :: x7 :: x8 :: x9 :: x10 :: x11 :: x12 :: (some (.val (dS ss))) :: x14 :: (some (.val (.int ((n : Nat) : Int)))) :: (some (.own (D.lst ((List.range 30).map fun n => D.lst ((gu ss n).map nI))))) :: none :: r) := by
    rw [tst]
    simp only [opB, asVar, ev, args, argV, gt, List.getElem?_cons_zero, List.getElem?_cons_succ, AR.bind, AR.call, q1, back, ER.bind, fin2, fetch, Option.map, Sl.d, pr2, a1, fin1, pr1, ne_tN, bl?]
  have e2 : tst (callK T G 19) G (.cmp .ne (.call 12 (.cons (.var 13) .nil)) (.p1 .max1 (.lc b26_17 (.nm 17) (.seq (.var 16)) none [17]))) (x0 :: x1 :: x2 :: x3 :: x4 :: x5 :: x6 :: x7 :: x8 :: x9 :: x10 :: x11 :: x12 :: (some (.val (dS ss))) :: x14 :: (some (.val (.int ((n : Nat) : Int)))) :: (some (.own (D.lst ((List.range 30).map fun n => D.lst ((gu ss n).map nI))))) :: none :: r) = .ok false (.bl false) (x0 :: x1 :: x2 :: x3 :: x4 :: x5 :: x6 :: x7 :: x8 :: x9 :: x10 :: x11 :: x12 :: (some (.val (dS ss))) :: x14 :: (some (.val (.int ((n : Nat) : Int)))) :: (some (.own (D.lst ((List.range 30).map fun n => D.lst ((gu ss n).map nI))))) :: none :: r) := by
    have hc := len_comp (ss := ss) (f := .lck true (D.lst ((List.range 30).map fun n => D.lst ((gu ss n).map nI)))) (x0 := x0) (x1 := x1) (x2 := x2) (x3 := x3) (x4 := x4) (x5 := x5) (x6 := x6) (x7 := x7) (x8 := x8) (x9 := x9) (x10 := x10) (x11 := x11) (x12 := x12) (x13 := (some (.val (dS ss)))) (x14 := x14) (x15 := (some (.val (.int ((n : Nat) : Int))))) (r := r)
    rw [tst]
    simp only [opB, asVar]
    rw [ev]
    simp only [args, asVar, argV, gt, List.getElem?_cons_zero, List.getElem?_cons_succ, AR.bind, AR.call, q2, back, ER.bind]
    rw [ev]
    · simp only [opB, asVar]
      rw [ev, walk]
      simp only [opI, asVar, gt, isMut, isLst, Sl.d, rows, lockS, List.getElem?_cons_zero, List.getElem?_cons_succ, if_true, List.set_cons_succ, List.set_cons_zero, IR.comp, calmE, List.all_cons, List.all_nil, Bool.and_self, hc]
      simp only [restE, unlockAll, unlockS, gt, List.getElem?_cons_zero, List.getElem?_cons_succ, List.set_cons_succ, List.set_cons_zero, Option.getD, ER.bind, fin1, fetch, pr1_max (beds_max hs.ear), fin2]
      have : cmpD G .ne (.int (beds ss : Nat)) (.int (beds ss : Nat)) = some false := by simp [cmpD, plain, eqv]
      simp [this, bl?]
  have e3 : tst (callK T G 19) G (.one (.not (.isinst (.call 11 (.cons (.var 13) (.cons (.var 15) .nil))) "tuple"))) (x0 :: x1 :: x2 :: x3 :: x4 :: x5 :: x6 :: x7 :: x8 :: x9 :: x10 :: x11 :: x12 :: (some (.val (dS ss))) :: x14 :: (some (.val (.int ((n : Nat) : Int)))) :: (some (.own (D.lst ((List.range 30).map fun n => D.lst ((gu ss n).map nI))))) :: none :: r) = .ok false (.bl false) (x0 :: x1 :: x2 :: x3 :: x4 :: x5 :: x6 :: x7 :: x8 :: x9 :: x10 :: x11 :: x12 :: (some (.val (dS ss))) :: x14 :: (some (.val (.int ((n : Nat) : Int)))) :: (some (.own (D.lst ((List.range 30).map fun n => D.lst ((gu ss n).map nI))))) :: none :: r) := by
    simp [-List.map_map, execs, exec, evos, evs, args, argV, argD, AR.bind, AR.call, back, ev, tst, opB, truthOf, gt, take, asVar, fin1, fin2, fetch, pr1, pr2, cmpD, bl?, truth, Sl.d, tgt, tgts, tgtOs, tgtO, storeS, locked, Out.only, Out.then, ER.out, ER.bind, ER.test, constOf, isTy, walk, opI, opN, isMut, isLst, lockS, unlockS, unlockAll, rows, IR.for_, IR.comp, IR.calm, calmE, lastPs, lastH, putS, atD, finM, q1]
  refine ite_skip (o := false) ?_
  rw [tst, e1]
  simp only [ER.test, ER.bind, Bool.false_eq_true, if_false]
  rw [tst, e2]
  simp only [ER.test, ER.bind, Bool.false_eq_true, if_false]
  exact e3
end
end Law
namespace Law
open Rx
section
variable {ss : Sy}
theorem grp_turn {k : Nat} (hk : k ≤ 6) {x0 x1 x2 x3 x4 x5 x6 x7 x8 x9 x10 x11 x12 x13 x15 x16 x17 : Option Sl} {r : En} (c14 : Cm x14) : tgt (callK T G 19) G (.nm 14) (nI k) (x0 :: x1 :: x2 :: x3 :: x4 :: x5 :: x6 :: x7 :: x8 :: x9 :: x10 :: x11 :: x12 :: x13 :: x14 :: x15 :: x16 :: x17 :: (some (.own (.lst (((grp k)).map tN)))) :: none :: r) = .nx (x0 :: x1 :: x2 :: x3 :: x4 :: x5 :: x6 :: x7 :: x8 :: x9 :: x10 :: x11 :: x12 :: x13 :: (some (.val (.int ((k : Nat) : Int)))) :: x15 :: x16 :: x17 :: (some (.own (.lst (((grp k)).map tN)))) :: none :: r) ∧
    execs (callK T G 19) G b26_16 (x0 :: x1 :: x2 :: x3 :: x4 :: x5 :: x6 :: x7 :: x8 :: x9 :: x10 :: x11 :: x12 :: x13 :: (some (.val (.int ((k : Nat) : Int)))) :: x15 :: x16 :: x17 :: (some (.own (.lst (((grp k)).map tN)))) :: none :: r) = .nx (x0 :: x1 :: x2 :: x3 :: x4 :: x5 :: x6 :: x7 :: x8 :: x9 :: x10 :: x11 :: x12 :: x13 :: (some (.val (.int ((k : Nat) : Int)))) :: x15 :: x16 :: x17 :: (some (.own (.lst (((grp (k + 1))).map tN)))) :: none :: r) := by
  refine ⟨by rcases c14 with rfl | ⟨d, rfl⟩ <;> simp [-List.map_map, execs, exec, evos, evs, args, argV, argD, AR.bind, AR.call, back, ev, tst, opB, truthOf, gt, take, asVar, fin1, fin2, fetch, pr1, pr2, cmpD, bl?, truth, Sl.d, tgt, tgts, tgtOs, tgtO, storeS, locked, Out.only, Out.then, ER.out, ER.bind, ER.test, constOf, isTy, walk, opI, opN, isMut, isLst, lockS, unlockS, unlockAll, rows, IR.for_, IR.comp, IR.calm, calmE, lastPs, lastH, putS, atD, finM, nI], ?_⟩
  have hp : 2 ^ k ≤ 2 ^ 6 := Nat.pow_le_pow_right (by omega) hk
  have hlen := grp_len k
  have hc : compL [19] (tgt (callK T G 19) G (.nm 19)) (fun E => .ok false (.bl true) E) (ev (callK T G 19) G b26_15) ((grp k).map tN) [] (x0 :: x1 :: x2 :: x3 :: x4 :: x5 :: x6 :: x7 :: x8 :: x9 :: x10 :: x11 :: x12 :: x13 :: (some (.val (.int ((k : Nat) : Int)))) :: x15 :: x16 :: x17 :: (some (.lck true (.lst (((grp k)).map tN)))) :: none :: r) = .ok true (.lst (((grp k).map (· ++ [k])).map tN)) (x0 :: x1 :: x2 :: x3 :: x4 :: x5 :: x6 :: x7 :: x8 :: x9 :: x10 :: x11 :: x12 :: x13 :: (some (.val (.int ((k : Nat) : Int)))) :: x15 :: x16 :: x17 :: (some (.lck true (.lst (((grp k)).map tN)))) :: none :: r) := by
    rw [comp_all (f := tN) (g := fun s => tN (s ++ [k])) (fun s hs => ?_) (SZ_big (by omega)), List.map_map]
    · rfl
    · have hz : s.length + 1 ≤ SZ := SZ_big (by have := (grp_mem k s hs).1; omega)
      exact ⟨(x0 :: x1 :: x2 :: x3 :: x4 :: x5 :: x6 :: x7 :: x8 :: x9 :: x10 :: x11 :: x12 :: x13 :: (some (.val (.int ((k : Nat) : Int)))) :: x15 :: x16 :: x17 :: (some (.lck true (.lst (((grp k)).map tN)))) :: (some (.val (tN s))) :: r), false, (x0 :: x1 :: x2 :: x3 :: x4 :: x5 :: x6 :: x7 :: x8 :: x9 :: x10 :: x11 :: x12 :: x13 :: (some (.val (.int ((k : Nat) : Int)))) :: x15 :: x16 :: x17 :: (some (.lck true (.lst (((grp k)).map tN)))) :: (some (.val (tN s))) :: r), by simp [-List.map_map, execs, exec, evos, evs, args, argV, argD, AR.bind, AR.call, back, ev, tst, opB, truthOf, gt, take, asVar, fin1, fin2, fetch, pr1, pr2, cmpD, bl?, truth, Sl.d, tgt, tgts, tgtOs, tgtO, storeS, locked, Out.only, Out.then, ER.out, ER.bind, ER.test, constOf, isTy, walk, opI, opN, isMut, isLst, lockS, unlockS, unlockAll, rows, IR.for_, IR.comp, IR.calm, calmE, lastPs, lastH, putS, atD, finM, wipeE], by simp [b26_15, execs, exec, evos, evs, args, argV, argD, AR.bind, AR.call, back, ev, tst, opB, truthOf, gt, take, asVar, fin1, fin2, fetch, pr1, pr2, cmpD, bl?, truth, Sl.d, tgt, tgts, tgtOs, tgtO, storeS, locked, Out.only, Out.then, ER.out, ER.bind, ER.test, constOf, isTy, walk, opI, opN, isMut, isLst, lockS, unlockS, unlockAll, rows, IR.for_, IR.comp, IR.calm, calmE, lastPs, lastH, putS, atD, finM, tN, hz, nI], by simp [wipeE], by simp [wipeE]⟩
  have hz : (grp k).length + (grp k).length ≤ SZ := SZ_big (by omega)
  rw [b26_16, execs_nx, execs_end]
  rw [exec, ev]
  simp only [opB, asVar, gt, List.getElem?_cons_zero, List.getElem?_cons_succ]
  rw [ev, walk]
  simp only [opI, asVar, gt, isMut, isLst, Sl.d, rows, lockS, List.getElem?_cons_zero, List.getElem?_cons_succ, if_true, List.set_cons_succ, List.set_cons_zero, IR.comp, calmE, List.all_cons, List.all_nil, Bool.and_self, hc]
  simp [-List.map_map, restE, unlockAll, unlockS, gt, ER.bind, fin2, fetch, Sl.d, pr2, hz, ER.out, tgtO, storeS, locked, Out.only, grp]
theorem grp_loop : ∀ (n k : Nat) {x0 x1 x2 x3 x4 x5 x6 x7 x8 x9 x10 x11 x12 x13 x15 x16 x17 : Option Sl} {r : En}, k + n ≤ 6 → Cm x14 → ∃ y14, Cm y14 ∧ forL (tgt (callK T G 19) G (.nm 14)) (execs (callK T G 19) G b26_16) ((List.range' k n).map nI) (x0 :: x1 :: x2 :: x3 :: x4 :: x5 :: x6 :: x7 :: x8 :: x9 :: x10 :: x11 :: x12 :: x13 :: x14 :: x15 :: x16 :: x17 :: (some (.own (.lst (((grp k)).map tN)))) :: none :: r) = .nx (x0 :: x1 :: x2 :: x3 :: x4 :: x5 :: x6 :: x7 :: x8 :: x9 :: x10 :: x11 :: x12 :: x13 :: y14 :: x15 :: x16 :: x17 :: (some (.own (.lst (((grp (k + n))).map tN)))) :: none :: r)
  | 0, k, x0, x1, x2, x3, x4, x5, x6, x7, x8, x9, x10, x11, x12, x13, x15, x16, x17, r, hk, c14 => ⟨x14, c14, by simp [forL]⟩
  | n + 1, k, x0, x1, x2, x3, x4, x5, x6, x7, x8, x9, x10, x11, x12, x13, x15, x16, x17, r, hk, c14 => by
    obtain ⟨g1, g2⟩ := grp_turn (k := k) (by omega) (x0 := x0) (x1 := x1) (x2 := x2) (x3 := x3) (x4 := x4) (x5 := x5) (x6 := x6) (x7 := x7) (x8 := x8) (x9 := x9) (x10 := x10) (x11 := x11) (x12 := x12) (x13 := x13) (x15 := x15) (x16 := x16) (x17 := x17) (r := r) c14
    obtain ⟨y14, i1, i2⟩ := grp_loop n (k + 1) (x0 := x0) (x1 := x1) (x2 := x2) (x3 := x3) (x4 := x4) (x5 := x5) (x6 := x6) (x7 := x7) (x8 := x8) (x9 := x9) (x10 := x10) (x11 := x11) (x12 := x12) (x13 := x13) (x15 := x15) (x16 := x16) (x17 := x17) (r := r) (x14 := (some (.val (.int ((k : Nat) : Int))))) (by omega) (.inr ⟨_, rfl⟩)
    exact ⟨y14, i1, by rw [List.range'_succ, List.map_cons, forL_cons g1 g2, i2, show k + 1 + n = k + (n + 1) by omega]⟩
theorem s_groups (hl : ss.length ≤ 6) {x0 x1 x2 x3 x4 x5 x6 x7 x8 x9 x10 x11 x12 x15 x16 x17 : Option Sl} {r : En} (c14 : Cm x14) : ∃ y14, Cm y14 ∧ exec (callK T G 19) G (.for_ (.nm 14) (.range1 (.p1 .len (.var 13))) b26_16) (x0 :: x1 :: x2 :: x3 :: x4 :: x5 :: x6 :: x7 :: x8 :: x9 :: x10 :: x11 :: x12 :: (some (.val (dS ss))) :: x14 :: x15 :: x16 :: x17 :: (some (.own (.lst (((grp 0)).map tN)))) :: none :: r) = .nx (x0 :: x1 :: x2 :: x3 :: x4 :: x5 :: x6 :: x7 :: x8 :: x9 :: x10 :: x11 :: x12 :: (some (.val (dS ss))) :: y14 :: x15 :: x16 :: x17 :: (some (.own (.lst (((grp ss.length)).map tN)))) :: none :: r) := by
  obtain ⟨y14, i1, i2⟩ := grp_loop ss.length 0 (x0 := x0) (x1 := x1) (x2 := x2) (x3 := x3) (x4 := x4) (x5 := x5) (x6 := x6) (x7 := x7) (x8 := x8) (x9 := x9) (x10 := x10) (x11 := x11) (x12 := x12) (x13 := (some (.val (dS ss)))) (x15 := x15) (x16 := x16) (x17 := x17) (r := r) (by omega) c14
  refine ⟨y14, i1, ?_⟩
  have hg : rgOk 0 (ss.length : Int) = true := by simp [rgOk]; omega
  rw [exec, walk, ev]
  · simp only [opN, opB, asVar, gt, List.getElem?_cons_zero, List.getElem?_cons_succ, fin1, fetch, Option.map, Sl.d, dS, pr1, List.length_map, hg, if_true, IR.for_, range_0]
    rw [List.range_eq_range', ← dS, i2, Nat.zero_add]
    rfl
theorem any_nI {l : List Nat} {b : Nat} : (l.map nI).any (fun x => eqv x (.int (b : Nat))) = l.contains b := by
  induction l with
  | nil => rfl
  | cons n l ih =>
    rw [List.map_cons, List.any_cons, ih, List.contains_cons]
    congr 1
    show ((n : Int) == (b : Int)) = _
    by_cases h : b = n
    · subst h; simp
    · have : ¬ (n : Int) = (b : Int) := by omega
      have e1 : ((n : Int) == (b : Int)) = false := by simpa using this
      have e2 : (b == n) = false := by simpa using h
      rw [e1, e2]
theorem in_tN {s : List Nat} {b : Nat} : cmpD G .isin (.int (b : Nat)) (tN s) = some (s.contains b) := by
  have e : cmpD G .isin (.int (b : Nat)) (tN s) = (if (flatD (.int (b : Nat)) && (s.map nI).all flatD) = true then some ((s.map nI).any fun x => eqv x (.int (b : Nat))) else none) := rfl
  rw [e, any_nI]
  have : (s.map nI).all flatD = true := by simp [nI, flatD]
  rw [this]
  rfl
theorem gu_len (hl : ss.length ≤ 6) (n : Nat) : (gu ss n).length ≤ 6 := by
  have := List.length_filter_le (fun k => has (gs ss k) n) (List.range ss.length)
  unfold gu
  simp at this
  omega
/-- the innermost -/
theorem in_comp (hl : ss.length ≤ 6) {n : Nat} {s : List Nat} {x0 x1 x2 x3 x4 x5 x6 x7 x8 x9 x10 x11 x12 x13 x15 x16 x18 : Option Sl} {r : En} {z : Option Sl} : compL [14] (tgt (callK T G 19) G (.nm 14)) (tst (callK T G 19) G (.cmp .isin (.var 14) (.var 19))) (ev (callK T G 19) G b26_12) ((gu ss n).map nI) [] (x0 :: x1 :: x2 :: x3 :: x4 :: x5 :: x6 :: x7 :: x8 :: x9 :: x10 :: x11 :: x12 :: x13 :: z :: x15 :: x16 :: (some (.val (.lst ((gu ss n).map nI)))) :: x18 :: (some (.val (tN s))) :: r) = .ok true (.lst (((gu ss n).filter fun k => s.contains k).map nI)) (x0 :: x1 :: x2 :: x3 :: x4 :: x5 :: x6 :: x7 :: x8 :: x9 :: x10 :: x11 :: x12 :: x13 :: none :: x15 :: x16 :: (some (.val (.lst ((gu ss n).map nI)))) :: x18 :: (some (.val (tN s))) :: r) := by
  rw [comp_of (f := nI) (p := fun k => s.contains k) (g := nI) (fun k hk => ?_) (by simpa using SZ_big (by have := gu_len hl n; omega))]
  · rfl
  · refine ⟨(x0 :: x1 :: x2 :: x3 :: x4 :: x5 :: x6 :: x7 :: x8 :: x9 :: x10 :: x11 :: x12 :: x13 :: (some (.val (.int ((k : Nat) : Int)))) :: x15 :: x16 :: (some (.val (.lst ((gu ss n).map nI)))) :: x18 :: (some (.val (tN s))) :: r), (x0 :: x1 :: x2 :: x3 :: x4 :: x5 :: x6 :: x7 :: x8 :: x9 :: x10 :: x11 :: x12 :: x13 :: (some (.val (.int ((k : Nat) : Int)))) :: x15 :: x16 :: (some (.val (.lst ((gu ss n).map nI)))) :: x18 :: (some (.val (tN s))) :: r), false, by simp [execs, exec, evos, evs, args, argV, argD, AR.bind, AR.call, back, ev, tst, opB, truthOf, gt, take, asVar, fin1, fin2, fetch, pr1, pr2, cmpD, bl?, truth, Sl.d, tgt, tgts, tgtOs, tgtO, storeS, locked, Out.only, Out.then, ER.out, ER.bind, ER.test, constOf, isTy, walk, opI, opN, isMut, isLst, lockS, unlockS, unlockAll, rows, IR.for_, IR.comp, IR.calm, calmE, lastPs, lastH, putS, atD, finM, wipeE, nI], ?_, by simp [wipeE], fun _ => ⟨false, (x0 :: x1 :: x2 :: x3 :: x4 :: x5 :: x6 :: x7 :: x8 :: x9 :: x10 :: x11 :: x12 :: x13 :: (some (.val (.int ((k : Nat) : Int)))) :: x15 :: x16 :: (some (.val (.lst ((gu ss n).map nI)))) :: x18 :: (some (.val (tN s))) :: r), by simp [execs, exec, evos, evs, args, argV, argD, AR.bind, AR.call, back, ev, tst, opB, truthOf, gt, take, asVar, fin1, fin2, fetch, pr1, pr2, cmpD, bl?, truth, Sl.d, tgt, tgts, tgtOs, tgtO, storeS, locked, Out.only, Out.then, ER.out, ER.bind, ER.test, constOf, isTy, walk, opI, opN, isMut, isLst, lockS, unlockS, unlockAll, rows, IR.for_, IR.comp, IR.calm, calmE, lastPs, lastH, putS, atD, finM, b26_12, nI], by simp [wipeE]⟩⟩
    rw [tst]
    simp only [opB, asVar, gt, List.getElem?_cons_zero, List.getElem?_cons_succ, fin2, fetch, Option.map, Sl.d, in_tN, bl?]
theorem cnt_tst (hl : ss.length ≤ 6) {n : Nat} {s : List Nat} {x0 x1 x2 x3 x4 x5 x6 x7 x8 x9 x10 x11 x12 x13 x15 x16 x18 : Option Sl} {r : En} (c14 : Cm x14) : tst (callK T G 19) G (.cmp .gt (.p1 .len (.lc b26_12 (.nm 14) (.seq (.var 17)) (some (.cmp .isin (.var 14) (.var 19))) [14])) (.cst (.int 1))) (x0 :: x1 :: x2 :: x3 :: x4 :: x5 :: x6 :: x7 :: x8 :: x9 :: x10 :: x11 :: x12 :: x13 :: x14 :: x15 :: x16 :: (some (.val (.lst ((gu ss n).map nI)))) :: x18 :: (some (.val (tN s))) :: r) = .ok false (.bl (decide (1 < cnt ss s n))) (x0 :: x1 :: x2 :: x3 :: x4 :: x5 :: x6 :: x7 :: x8 :: x9 :: x10 :: x11 :: x12 :: x13 :: x14 :: x15 :: x16 :: (some (.val (.lst ((gu ss n).map nI)))) :: x18 :: (some (.val (tN s))) :: r) := by
  have hc := in_comp hl (n := n) (s := s) (x0 := x0) (x1 := x1) (x2 := x2) (x3 := x3) (x4 := x4) (x5 := x5) (x6 := x6) (x7 := x7) (x8 := x8) (x9 := x9) (x10 := x10) (x11 := x11) (x12 := x12) (x13 := x13) (x15 := x15) (x16 := x16) (x18 := x18) (r := r) (z := x14)
  rw [tst]
  simp only [opB, asVar]
  rw [ev]
  · simp only [opB, asVar]
    rw [ev, walk]
    simp only [opI, asVar, gt, isMut, Sl.d, rows, List.getElem?_cons_zero, List.getElem?_cons_succ, Bool.false_eq_true, if_false, IR.comp]
    rw [hc]
    have e : decide (1 < cnt ss s n) = decide ((1 : Int) < ((((gu ss n).filter fun k => s.contains k).map nI).length : Nat)) := by
      rw [List.length_map]
      unfold cnt
      congr 1
      apply propext
      omega
    rw [e]
    rcases c14 with rfl | ⟨d, rfl⟩ <;> simp [-List.length_map, -List.map_map, calmE, gt, restE, unlockAll, ER.bind, fin1, fetch, pr1, ev, fin2, cmpD, bl?]
theorem eq_nilR {l : List Nat} : cmpD G .eq (.lst (l.map fun n => D.lst ((gu ss n).map nI))) (.lst []) = some l.isEmpty := by
  have e : cmpD G .eq (.lst (l.map fun n => D.lst ((gu ss n).map nI))) (.lst []) = (if (plains 39 (l.map fun n => D.lst ((gu ss n).map nI)) && plains 39 []) = true then some (eqvs (l.map fun n => D.lst ((gu ss n).map nI)) []) else none) := rfl
  have hp : ∀ l : List Nat, plains 39 (l.map fun n => D.lst ((gu ss n).map nI)) = true := fun l => by
    induction l with
    | nil => rfl
    | cons a l ih =>
      rw [List.map_cons, plains, ih]
      show (plains 38 ((gu ss a).map nI) && true) = true
      rw [plains_nI]; rfl
  rw [e, hp]
  cases l <;> rfl
theorem ok_tst (hl : ss.length ≤ 6) {s : List Nat} {x0 x1 x2 x3 x4 x5 x6 x7 x8 x9 x10 x11 x12 x13 x15 x18 : Option Sl} {r : En} (c14 : Cm x14) : tst (callK T G 19) G (.cmp .eq (.lc b26_13 (.nm 17) (.seq (.var 16)) (some (.cmp .gt (.p1 .len (.lc b26_12 (.nm 14) (.seq (.var 17)) (some (.cmp .isin (.var 14) (.var 19))) [14])) (.cst (.int 1)))) [17]) (.lst .nil)) (x0 :: x1 :: x2 :: x3 :: x4 :: x5 :: x6 :: x7 :: x8 :: x9 :: x10 :: x11 :: x12 :: x13 :: x14 :: x15 :: (some (.own (D.lst ((List.range 30).map fun n => D.lst ((gu ss n).map nI))))) :: none :: x18 :: (some (.val (tN s))) :: r) = .ok false (.bl (okG ss s)) (x0 :: x1 :: x2 :: x3 :: x4 :: x5 :: x6 :: x7 :: x8 :: x9 :: x10 :: x11 :: x12 :: x13 :: x14 :: x15 :: (some (.own (D.lst ((List.range 30).map fun n => D.lst ((gu ss n).map nI))))) :: none :: x18 :: (some (.val (tN s))) :: r) := by
  have hc : compL [17] (tgt (callK T G 19) G (.nm 17)) (tst (callK T G 19) G (.cmp .gt (.p1 .len (.lc b26_12 (.nm 14) (.seq (.var 17)) (some (.cmp .isin (.var 14) (.var 19))) [14])) (.cst (.int 1)))) (ev (callK T G 19) G b26_13) ((List.range 30).map fun n => D.lst ((gu ss n).map nI)) [] (x0 :: x1 :: x2 :: x3 :: x4 :: x5 :: x6 :: x7 :: x8 :: x9 :: x10 :: x11 :: x12 :: x13 :: x14 :: x15 :: (some (.lck true (D.lst ((List.range 30).map fun n => D.lst ((gu ss n).map nI))))) :: none :: x18 :: (some (.val (tN s))) :: r) = .ok true (.lst (((List.range 30).filter fun n => decide (1 < cnt ss s n)).map fun n => D.lst ((gu ss n).map nI))) (x0 :: x1 :: x2 :: x3 :: x4 :: x5 :: x6 :: x7 :: x8 :: x9 :: x10 :: x11 :: x12 :: x13 :: x14 :: x15 :: (some (.lck true (D.lst ((List.range 30).map fun n => D.lst ((gu ss n).map nI))))) :: none :: x18 :: (some (.val (tN s))) :: r) := by
    rw [comp_of (f := fun n => D.lst ((gu ss n).map nI)) (p := fun n => decide (1 < cnt ss s n)) (g := fun n => D.lst ((gu ss n).map nI)) (fun n hn => ?_) (by simpa using SZ_big (by omega))]
    · rfl
    · exact ⟨(x0 :: x1 :: x2 :: x3 :: x4 :: x5 :: x6 :: x7 :: x8 :: x9 :: x10 :: x11 :: x12 :: x13 :: x14 :: x15 :: (some (.lck true (D.lst ((List.range 30).map fun n => D.lst ((gu ss n).map nI))))) :: (some (.val (.lst ((gu ss n).map nI)))) :: x18 :: (some (.val (tN s))) :: r), (x0 :: x1 :: x2 :: x3 :: x4 :: x5 :: x6 :: x7 :: x8 :: x9 :: x10 :: x11 :: x12 :: x13 :: x14 :: x15 :: (some (.lck true (D.lst ((List.range 30).map fun n => D.lst ((gu ss n).map nI))))) :: (some (.val (.lst ((gu ss n).map nI)))) :: x18 :: (some (.val (tN s))) :: r), false, by simp [execs, exec, evos, evs, args, argV, argD, AR.bind, AR.call, back, ev, tst, opB, truthOf, gt, take, asVar, fin1, fin2, fetch, pr1, pr2, cmpD, bl?, truth, Sl.d, tgt, tgts, tgtOs, tgtO, storeS, locked, Out.only, Out.then, ER.out, ER.bind, ER.test, constOf, isTy, walk, opI, opN, isMut, isLst, lockS, unlockS, unlockAll, rows, IR.for_, IR.comp, IR.calm, calmE, lastPs, lastH, putS, atD, finM, wipeE], cnt_tst hl c14, by simp [wipeE], fun _ => ⟨false, (x0 :: x1 :: x2 :: x3 :: x4 :: x5 :: x6 :: x7 :: x8 :: x9 :: x10 :: x11 :: x12 :: x13 :: x14 :: x15 :: (some (.lck true (D.lst ((List.range 30).map fun n => D.lst ((gu ss n).map nI))))) :: (some (.val (.lst ((gu ss n).map nI)))) :: x18 :: (some (.val (tN s))) :: r), by simp [execs, exec, evos, evs, args, argV, argD, AR.bind, AR.call, back, ev, tst, opB, truthOf, gt, take, asVar, fin1, fin2, fetch, pr1, pr2, cmpD, bl?, truth, Sl.d, tgt, tgts, tgtOs, tgtO, storeS, locked, Out.only, Out.then, ER.out, ER.bind, ER.test, constOf, isTy, walk, opI, opN, isMut, isLst, lockS, unlockS, unlockAll, rows, IR.for_, IR.comp, IR.calm, calmE, lastPs, lastH, putS, atD, finM, b26_13], by simp [wipeE]⟩⟩
  have he : ((List.range 30).filter fun n => decide (1 < cnt ss s n)).isEmpty = okG ss s := by
    rw [Bool.eq_iff_iff, List.isEmpty_iff, List.filter_eq_nil_iff, okG, List.all_eq_true]
    simp
  rw [tst]
  simp only [opB, asVar]
  rw [ev, walk]
  simp only [opI, asVar, gt, isMut, isLst, Sl.d, rows, lockS, List.getElem?_cons_zero, List.getElem?_cons_succ, if_true, List.set_cons_succ, List.set_cons_zero, IR.comp, calmE, List.all_cons, List.all_nil, Bool.and_self, hc]
  simp only [restE, unlockAll, unlockS, gt, List.getElem?_cons_zero, List.getElem?_cons_succ, List.set_cons_succ, List.set_cons_zero, Option.getD, ER.bind, ev, evs, AR.call, back, List.map_nil, fin2, fetch, eq_nilR, he, bl?, Option.map]
theorem s_good (hs : SyOk ss) (hl : ss.length ≤ 6) {x0 x1 x2 x3 x4 x5 x6 x7 x8 x9 x10 x11 x12 x13 x15 : Option Sl} {r : En} (c14 : Cm x14) : exec (callK T G 19) G (.asg (.nm 20) (.p1 .sorted (.lc b26_14 (.nm 19) (.seq (.var 18)) (some (.cmp .eq (.lc b26_13 (.nm 17) (.seq (.var 16)) (some (.cmp .gt (.p1 .len (.lc b26_12 (.nm 14) (.seq (.var 17)) (some (.cmp .isin (.var 14) (.var 19))) [14])) (.cst (.int 1)))) [17]) (.lst .nil))) [19]))) (x0 :: x1 :: x2 :: x3 :: x4 :: x5 :: x6 :: x7 :: x8 :: x9 :: x10 :: x11 :: x12 :: x13 :: x14 :: x15 :: (some (.own (D.lst ((List.range 30).map fun n => D.lst ((gu ss n).map nI))))) :: none :: (some (.own (.lst (((grp ss.length)).map tN)))) :: none :: none :: r) =
    .nx (x0 :: x1 :: x2 :: x3 :: x4 :: x5 :: x6 :: x7 :: x8 :: x9 :: x10 :: x11 :: x12 :: x13 :: x14 :: x15 :: (some (.own (D.lst ((List.range 30).map fun n => D.lst ((gu ss n).map nI))))) :: none :: (some (.own (.lst (((grp ss.length)).map tN)))) :: none :: (some (.own (.lst (((srt (chs ss ss.length))).map tN)))) :: r) := by
  have hp : 2 ^ ss.length ≤ 2 ^ 6 := Nat.pow_le_pow_right (by omega) hl
  have hlen := grp_len ss.length
  have hge := good_eq hs.ear hs.ok ss.length (Nat.le_refl _)
  have hc : compL [19] (tgt (callK T G 19) G (.nm 19)) (tst (callK T G 19) G (.cmp .eq (.lc b26_13 (.nm 17) (.seq (.var 16)) (some (.cmp .gt (.p1 .len (.lc b26_12 (.nm 14) (.seq (.var 17)) (some (.cmp .isin (.var 14) (.var 19))) [14])) (.cst (.int 1)))) [17]) (.lst .nil))) (ev (callK T G 19) G b26_14) ((grp ss.length).map tN) [] (x0 :: x1 :: x2 :: x3 :: x4 :: x5 :: x6 :: x7 :: x8 :: x9 :: x10 :: x11 :: x12 :: x13 :: x14 :: x15 :: (some (.own (D.lst ((List.range 30).map fun n => D.lst ((gu ss n).map nI))))) :: none :: (some (.lck true (.lst (((grp ss.length)).map tN)))) :: none :: none :: r) = .ok true (.lst ((chs ss ss.length).map tN)) (x0 :: x1 :: x2 :: x3 :: x4 :: x5 :: x6 :: x7 :: x8 :: x9 :: x10 :: x11 :: x12 :: x13 :: x14 :: x15 :: (some (.own (D.lst ((List.range 30).map fun n => D.lst ((gu ss n).map nI))))) :: none :: (some (.lck true (.lst (((grp ss.length)).map tN)))) :: none :: none :: r) := by
    rw [comp_of (f := tN) (p := okG ss) (g := tN) (fun s hm => ?_) (by simpa using SZ_big (by omega)), hge]
    · rfl
    · exact ⟨(x0 :: x1 :: x2 :: x3 :: x4 :: x5 :: x6 :: x7 :: x8 :: x9 :: x10 :: x11 :: x12 :: x13 :: x14 :: x15 :: (some (.own (D.lst ((List.range 30).map fun n => D.lst ((gu ss n).map nI))))) :: none :: (some (.lck true (.lst (((grp ss.length)).map tN)))) :: (some (.val (tN s))) :: none :: r), (x0 :: x1 :: x2 :: x3 :: x4 :: x5 :: x6 :: x7 :: x8 :: x9 :: x10 :: x11 :: x12 :: x13 :: x14 :: x15 :: (some (.own (D.lst ((List.range 30).map fun n => D.lst ((gu ss n).map nI))))) :: none :: (some (.lck true (.lst (((grp ss.length)).map tN)))) :: (some (.val (tN s))) :: none :: r), false, by simp [-List.map_map, execs, exec, evos, evs, args, argV, argD, AR.bind, AR.call, back, ev, tst, opB, truthOf, gt, take, asVar, fin1, fin2, fetch, pr1, pr2, cmpD, bl?, truth, Sl.d, tgt, tgts, tgtOs, tgtO, storeS, locked, Out.only, Out.then, ER.out, ER.bind, ER.test, constOf, isTy, walk, opI, opN, isMut, isLst, lockS, unlockS, unlockAll, rows, IR.for_, IR.comp, IR.calm, calmE, lastPs, lastH, putS, atD, finM, wipeE], ok_tst hl c14, by simp [wipeE], fun _ => ⟨false, (x0 :: x1 :: x2 :: x3 :: x4 :: x5 :: x6 :: x7 :: x8 :: x9 :: x10 :: x11 :: x12 :: x13 :: x14 :: x15 :: (some (.own (D.lst ((List.range 30).map fun n => D.lst ((gu ss n).map nI))))) :: none :: (some (.lck true (.lst (((grp ss.length)).map tN)))) :: (some (.val (tN s))) :: none :: r), by simp [-List.map_map, execs, exec, evos, evs, args, argV, argD, AR.bind, AR.call, back, ev, tst, opB, truthOf, gt, take, asVar, fin1, fin2, fetch, pr1, pr2, cmpD, bl?, truth, Sl.d, tgt, tgts, tgtOs, tgtO, storeS, locked, Out.only, Out.then, ER.out, ER.bind, ER.test, constOf, isTy, walk, opI, opN, isMut, isLst, lockS, unlockS, unlockAll, rows, IR.for_, IR.comp, IR.calm, calmE, lastPs, lastH, putS, atD, finM, b26_14], by simp [wipeE]⟩⟩
  obtain ⟨l, hll⟩ := chs_head (ss := ss) ss.length
  have ps := pr1_sorted (l := chs ss ss.length) (by rw [hll]; rfl) (by rw [hll]; simp)
  rw [exec, ev]
  · simp only [opB, asVar]
    rw [ev, walk]
    simp only [opI, asVar, gt, isMut, isLst, Sl.d, rows, lockS, List.getElem?_cons_zero, List.getElem?_cons_succ, if_true, List.set_cons_succ, List.set_cons_zero, IR.comp, calmE, List.all_cons, List.all_nil, Bool.and_self, hc]
    simp [-List.map_map, restE, unlockAll, unlockS, gt, ER.bind, fin1, fetch, ps, ER.out, tgtO, storeS, locked, Out.only]
end
end Law
namespace Law
open Rx
section
variable {ss : Sy}
theorem w_ev {s : List Nat} (hs : ∀ j ∈ s, j < ss.length) (hz : s.length ≤ 1000) {x0 x1 x2 x3 x4 x5 x6 x7 x8 x9 x10 x11 x12 x15 x16 x17 x18 : Option Sl} {r : En} (c14 : Cm x14) :
    ev (callK T G 19) G b26_11 (x0 :: x1 :: x2 :: x3 :: x4 :: x5 :: x6 :: x7 :: x8 :: x9 :: x10 :: x11 :: x12 :: (some (.val (dS ss))) :: x14 :: x15 :: x16 :: x17 :: x18 :: (some (.val (tN s))) :: r) = .ok false (.int (worth ss s : Nat)) (x0 :: x1 :: x2 :: x3 :: x4 :: x5 :: x6 :: x7 :: x8 :: x9 :: x10 :: x11 :: x12 :: (some (.val (dS ss))) :: x14 :: x15 :: x16 :: x17 :: x18 :: (some (.val (tN s))) :: r) := by
  have hc : compL [14] (tgt (callK T G 19) G (.nm 14)) (fun E => .ok false (.bl true) E) (ev (callK T G 19) G b26_10) (s.map nI) [] (x0 :: x1 :: x2 :: x3 :: x4 :: x5 :: x6 :: x7 :: x8 :: x9 :: x10 :: x11 :: x12 :: (some (.val (dS ss))) :: x14 :: x15 :: x16 :: x17 :: x18 :: (some (.val (tN s))) :: r) = .ok true (.lst ((s.map fun k => (gs ss k).2.2).map nI)) (x0 :: x1 :: x2 :: x3 :: x4 :: x5 :: x6 :: x7 :: x8 :: x9 :: x10 :: x11 :: x12 :: (some (.val (dS ss))) :: none :: x15 :: x16 :: x17 :: x18 :: (some (.val (tN s))) :: r) := by
    rw [comp_all (f := nI) (g := fun k => nI (gs ss k).2.2) (fun j hj => ?_) (SZ_big hz), List.map_map]
    · rfl
    · have a1 := at_S (hs j hj)
      refine ⟨(x0 :: x1 :: x2 :: x3 :: x4 :: x5 :: x6 :: x7 :: x8 :: x9 :: x10 :: x11 :: x12 :: (some (.val (dS ss))) :: (some (.val (.int ((j : Nat) : Int)))) :: x15 :: x16 :: x17 :: x18 :: (some (.val (tN s))) :: r), false, (x0 :: x1 :: x2 :: x3 :: x4 :: x5 :: x6 :: x7 :: x8 :: x9 :: x10 :: x11 :: x12 :: (some (.val (dS ss))) :: (some (.val (.int ((j : Nat) : Int)))) :: x15 :: x16 :: x17 :: x18 :: (some (.val (tN s))) :: r), by simp [execs, exec, evos, evs, args, argV, argD, AR.bind, AR.call, back, ev, tst, opB, truthOf, gt, take, asVar, fin1, fin2, fetch, pr1, pr2, cmpD, bl?, truth, Sl.d, tgt, tgts, tgtOs, tgtO, storeS, locked, Out.only, Out.then, ER.out, ER.bind, ER.test, constOf, isTy, walk, opI, opN, isMut, isLst, lockS, unlockS, unlockAll, rows, IR.for_, IR.comp, IR.calm, calmE, lastPs, lastH, putS, atD, finM, wipeE, nI], ?_, by simp [wipeE], by simp [wipeE]⟩
      rw [b26_10]
      simp only [ev, opB, asVar, gt, List.getElem?_cons_zero, List.getElem?_cons_succ, fin2, fetch, Option.map, Sl.d, pr2, dS, a1, ER.bind, rowS, at_row2, nI]
  rw [b26_11, ev]
  · simp only [opB, asVar]
    rw [ev, walk]
    simp only [opI, asVar, gt, isMut, Sl.d, rows, tN, List.getElem?_cons_zero, List.getElem?_cons_succ, Bool.false_eq_true, if_false, IR.comp]
    rw [← tN, hc]
    rcases c14 with rfl | ⟨d, rfl⟩ <;> simp [-List.map_map, calmE, gt, restE, unlockAll, ER.bind, fin1, fetch, pr1_sum, worth]
theorem s_worths (hl : ss.length ≤ 6) {x0 x1 x2 x3 x4 x5 x6 x7 x8 x9 x10 x11 x12 x15 x16 x17 x18 : Option Sl} {r : En} (c14 : Cm x14) : exec (callK T G 19) G (.asg (.nm 21) (.lc b26_11 (.nm 19) (.seq (.var 20)) none [19])) (x0 :: x1 :: x2 :: x3 :: x4 :: x5 :: x6 :: x7 :: x8 :: x9 :: x10 :: x11 :: x12 :: (some (.val (dS ss))) :: x14 :: x15 :: x16 :: x17 :: x18 :: none :: (some (.own (.lst (((srt (chs ss ss.length))).map tN)))) :: none :: r) = .nx (x0 :: x1 :: x2 :: x3 :: x4 :: x5 :: x6 :: x7 :: x8 :: x9 :: x10 :: x11 :: x12 :: (some (.val (dS ss))) :: x14 :: x15 :: x16 :: x17 :: x18 :: none :: (some (.own (.lst (((srt (chs ss ss.length))).map tN)))) :: (some (.own (.lst (((srt (chs ss ss.length)).map (worth ss)).map nI)))) :: r) := by
  obtain ⟨o1, o2⟩ := chs_ok (ss := ss) ss.length
  have hp : 2 ^ ss.length ≤ 2 ^ 6 := Nat.pow_le_pow_right (by omega) hl
  have hlen : (srt (chs ss ss.length)).length ≤ 1000 := by rw [(srt_perm _).length_eq]; omega
  have hc : compL [19] (tgt (callK T G 19) G (.nm 19)) (fun E => .ok false (.bl true) E) (ev (callK T G 19) G b26_11) ((srt (chs ss ss.length)).map tN) [] (x0 :: x1 :: x2 :: x3 :: x4 :: x5 :: x6 :: x7 :: x8 :: x9 :: x10 :: x11 :: x12 :: (some (.val (dS ss))) :: x14 :: x15 :: x16 :: x17 :: x18 :: none :: (some (.lck true (.lst (((srt (chs ss ss.length))).map tN)))) :: none :: r) = .ok true (.lst (((srt (chs ss ss.length)).map (worth ss)).map nI)) (x0 :: x1 :: x2 :: x3 :: x4 :: x5 :: x6 :: x7 :: x8 :: x9 :: x10 :: x11 :: x12 :: (some (.val (dS ss))) :: x14 :: x15 :: x16 :: x17 :: x18 :: none :: (some (.lck true (.lst (((srt (chs ss ss.length))).map tN)))) :: none :: r) := by
    rw [comp_all (f := tN) (g := fun s => nI (worth ss s)) (fun s hs => ?_) (SZ_big hlen), List.map_map]
    · rfl
    · obtain ⟨a, b⟩ := o1 s (srt_mem.mp hs)
      exact ⟨(x0 :: x1 :: x2 :: x3 :: x4 :: x5 :: x6 :: x7 :: x8 :: x9 :: x10 :: x11 :: x12 :: (some (.val (dS ss))) :: x14 :: x15 :: x16 :: x17 :: x18 :: (some (.val (tN s))) :: (some (.lck true (.lst (((srt (chs ss ss.length))).map tN)))) :: none :: r), false, (x0 :: x1 :: x2 :: x3 :: x4 :: x5 :: x6 :: x7 :: x8 :: x9 :: x10 :: x11 :: x12 :: (some (.val (dS ss))) :: x14 :: x15 :: x16 :: x17 :: x18 :: (some (.val (tN s))) :: (some (.lck true (.lst (((srt (chs ss ss.length))).map tN)))) :: none :: r), by simp [-List.map_map, execs, exec, evos, evs, args, argV, argD, AR.bind, AR.call, back, ev, tst, opB, truthOf, gt, take, asVar, fin1, fin2, fetch, pr1, pr2, cmpD, bl?, truth, Sl.d, tgt, tgts, tgtOs, tgtO, storeS, locked, Out.only, Out.then, ER.out, ER.bind, ER.test, constOf, isTy, walk, opI, opN, isMut, isLst, lockS, unlockS, unlockAll, rows, IR.for_, IR.comp, IR.calm, calmE, lastPs, lastH, putS, atD, finM, wipeE], w_ev b (by omega) c14, by simp [wipeE], by simp [wipeE]⟩
  rw [exec, ev, walk]
  simp only [opI, asVar, gt, isMut, isLst, Sl.d, rows, lockS, List.getElem?_cons_zero, List.getElem?_cons_succ, if_true, List.set_cons_succ, List.set_cons_zero, IR.comp, calmE, List.all_cons, List.all_nil, Bool.and_self, hc]
  simp [-List.map_map, restE, unlockAll, unlockS, gt, ER.out, tgtO, storeS, locked, Out.only]
theorem s_best (hl : ss.length ≤ 6) {x0 x1 x2 x3 x4 x5 x6 x7 x8 x9 x10 x11 x12 x14 x15 x16 x17 x18 x19 : Option Sl} {r : En} : exec (callK T G 19) G (.ite (.cmp .ne (.call 15 (.cons (.var 13) .nil)) (.p2 .item (.var 20) (.idx 21 (.p1 .max1 (.var 21))))) (.cons (.ret (.cst (.bl false))) .nil) .nil) (x0 :: x1 :: x2 :: x3 :: x4 :: x5 :: x6 :: x7 :: x8 :: x9 :: x10 :: x11 :: x12 :: (some (.val (dS ss))) :: x14 :: x15 :: x16 :: x17 :: x18 :: x19 :: (some (.own (.lst (((srt (chs ss ss.length))).map tN)))) :: (some (.own (.lst (((srt (chs ss ss.length)).map (worth ss)).map nI)))) :: r) = .nx (x0 :: x1 :: x2 :: x3 :: x4 :: x5 :: x6 :: x7 :: x8 :: x9 :: x10 :: x11 :: x12 :: (some (.val (dS ss))) :: x14 :: x15 :: x16 :: x17 :: x18 :: x19 :: (some (.own (.lst (((srt (chs ss ss.length))).map tN)))) :: (some (.own (.lst (((srt (chs ss ss.length)).map (worth ss)).map nI)))) :: r) := by
  obtain ⟨row, r1, q1⟩ := c_best (k := 16) (ss := ss) (by omega)
  have q1' : (callK T G 19) 15 [.val (dS ss)] = _ := q1
  have hne : srt (chs ss ss.length) ≠ [] := fun e => by
    obtain ⟨l, hl⟩ := chs_head (ss := ss) ss.length
    have : [] ∈ srt (chs ss ss.length) := srt_mem.mpr (by rw [hl]; simp)
    rw [e] at this
    cases this
  obtain ⟨m, j, row', f1, f2, f3, f4⟩ := find_max (ss := ss) hne
  rw [r1] at f3
  cases f3
  refine ite_skip (o := false) ?_
  rw [tst]
  simp only [opB, asVar]
  rw [ev]
  simp only [args, asVar, argV, gt, List.getElem?_cons_zero, List.getElem?_cons_succ, AR.bind, AR.call, q1', back, ER.bind]
  rw [ev]
  · simp only [opB, asVar, gt, List.getElem?_cons_zero, List.getElem?_cons_succ]
    rw [ev]
    simp only [isLst, gt, List.getElem?_cons_zero, List.getElem?_cons_succ, Sl.d, if_true, opB, asVar]
    rw [ev]
    · simp only [opB, asVar, gt, List.getElem?_cons_zero, List.getElem?_cons_succ, fin1, fin2, fetch, Option.map, Sl.d, pr1_max f1, ER.bind, f2, pr2, at_N f4]
      rw [show cmpD G .ne (tN row) (tN row) = some false from ne_tN]
      rfl
    all_goals (intros; rename_i e; cases e)
theorem s_a {d : D} (hd : Dw d) {x0 x2 x3 x4 x5 x6 x7 x8 x9 x10 x11 x12 x13 x14 x15 x16 x17 x18 x19 x20 x21 : Option Sl} {r : En} : ∃ (a : Nat) (d' : D), a ≤ 11 ∧ Dw d' ∧ exec (callK T G 19) G (.asg (.nm 22) (.call 19 (.cons (.var 1) (.cons (.cst (.int 12)) .nil)))) (x0 :: some (.own d) :: x2 :: x3 :: x4 :: x5 :: x6 :: x7 :: x8 :: x9 :: x10 :: x11 :: x12 :: x13 :: x14 :: x15 :: x16 :: x17 :: x18 :: x19 :: x20 :: x21 :: none :: r) = .nx (x0 :: some (.own d') :: x2 :: x3 :: x4 :: x5 :: x6 :: x7 :: x8 :: x9 :: x10 :: x11 :: x12 :: x13 :: x14 :: x15 :: x16 :: x17 :: x18 :: x19 :: x20 :: x21 :: (some (.val (.int ((a : Nat) : Int)))) :: r) := by
  obtain ⟨n, d1, hn, hd1, q1⟩ := takeN (k := 18) hd (m := 12) (by omega) (by omega)
  have q1' : (callK T G 19) 19 [.ref d, .val (.int 12)] = _ := q1
  exact ⟨n, d1, by omega, hd1, by simp [execs, exec, evos, evs, args, argV, argD, AR.bind, AR.call, back, ev, tst, opB, truthOf, gt, take, asVar, fin1, fin2, fetch, pr1, pr2, cmpD, bl?, truth, Sl.d, tgt, tgts, tgtOs, tgtO, storeS, locked, Out.only, Out.then, ER.out, ER.bind, ER.test, constOf, isTy, walk, opI, opN, isMut, isLst, lockS, unlockS, unlockAll, rows, IR.for_, IR.comp, IR.calm, calmE, lastPs, lastH, putS, atD, finM, q1']⟩
theorem s_b {d : D} (hd : Dw d) {a : Nat} {x0 x2 x3 x4 x5 x6 x7 x8 x9 x10 x11 x12 x13 x14 x15 x16 x17 x18 x19 x20 x21 : Option Sl} {r : En} : ∃ (c : Nat) (d' : D), c ≤ 13 ∧ Dw d' ∧ exec (callK T G 19) G (.asg (.nm 23) (.p2 .add (.var 22) (.call 19 (.cons (.var 1) (.cons (.cst (.int 14)) .nil))))) (x0 :: some (.own d) :: x2 :: x3 :: x4 :: x5 :: x6 :: x7 :: x8 :: x9 :: x10 :: x11 :: x12 :: x13 :: x14 :: x15 :: x16 :: x17 :: x18 :: x19 :: x20 :: x21 :: (some (.val (.int ((a : Nat) : Int)))) :: none :: r) = .nx (x0 :: some (.own d') :: x2 :: x3 :: x4 :: x5 :: x6 :: x7 :: x8 :: x9 :: x10 :: x11 :: x12 :: x13 :: x14 :: x15 :: x16 :: x17 :: x18 :: x19 :: x20 :: x21 :: (some (.val (.int ((a : Nat) : Int)))) :: (some (.val (.int (((a + c) : Nat) : Int)))) :: r) := by
  obtain ⟨n, d1, hn, hd1, q1⟩ := takeN (k := 18) hd (m := 14) (by omega) (by omega)
  have q1' : (callK T G 19) 19 [.ref d, .val (.int 14)] = _ := q1
  exact ⟨n, d1, by omega, hd1, by simp [execs, exec, evos, evs, args, argV, argD, AR.bind, AR.call, back, ev, tst, opB, truthOf, gt, take, asVar, fin1, fin2, fetch, pr1, pr2, cmpD, bl?, truth, Sl.d, tgt, tgts, tgtOs, tgtO, storeS, locked, Out.only, Out.then, ER.out, ER.bind, ER.test, constOf, isTy, walk, opI, opN, isMut, isLst, lockS, unlockS, unlockAll, rows, IR.for_, IR.comp, IR.calm, calmE, lastPs, lastH, putS, atD, finM, q1']⟩
/-! ### runs -/
def dP (p : Nat × Nat) : D := .tup [.int (p.1 : Nat), .int (p.2 : Nat)]
theorem ne_nil {l : List Nat} : cmpD G .ne (.lst (l.map nI)) (.lst []) = some (!l.isEmpty) := by
  have e : cmpD G .ne (.lst (l.map nI)) (.lst []) = (if (plains 39 (l.map nI) && plains 39 []) = true then some (!eqvs (l.map nI) []) else none) := rfl
  rw [e, plains_nI]
  cases l <;> rfl
theorem rg_2 {a b : Nat} (h1 : a ≤ 1000) (h2 : b ≤ 1000) : rgOk (a : Int) (b : Int) = true := by simp [rgOk]; omega
theorem free_tst {s e : Nat} (hs : s ≤ 30) (he : e < 30) {x0 x1 x2 x3 x4 x5 x6 x7 x9 x10 x11 x12 x13 x14 x15 x17 x18 x19 x20 x21 x22 x23 x24 : Option Sl} {r : En} : tst (callK T G 19) G (.cmp .eq (.lc b26_7 (.nm 8) (.range2 (.var 25) (.p2 .add (.var 26) (.cst (.int 1)))) (some (.cmp .ne (.p2 .item (.var 16) (.var 8)) (.lst .nil))) [8]) (.lst .nil)) (x0 :: x1 :: x2 :: x3 :: x4 :: x5 :: x6 :: x7 :: none :: x9 :: x10 :: x11 :: x12 :: x13 :: x14 :: x15 :: (some (.own (D.lst ((List.range 30).map fun n => D.lst ((gu ss n).map nI))))) :: x17 :: x18 :: x19 :: x20 :: x21 :: x22 :: x23 :: x24 :: (some (.val (.int ((s : Nat) : Int)))) :: (some (.val (.int ((e : Nat) : Int)))) :: r) = .ok false (.bl ((List.range' s (e + 1 - s)).filter fun n => !frS ss n).isEmpty) (x0 :: x1 :: x2 :: x3 :: x4 :: x5 :: x6 :: x7 :: none :: x9 :: x10 :: x11 :: x12 :: x13 :: x14 :: x15 :: (some (.own (D.lst ((List.range 30).map fun n => D.lst ((gu ss n).map nI))))) :: x17 :: x18 :: x19 :: x20 :: x21 :: x22 :: x23 :: x24 :: (some (.val (.int ((s : Nat) : Int)))) :: (some (.val (.int ((e : Nat) : Int)))) :: r) := by
  have hc : compL [8] (tgt (callK T G 19) G (.nm 8)) (tst (callK T G 19) G (.cmp .ne (.p2 .item (.var 16) (.var 8)) (.lst .nil))) (ev (callK T G 19) G b26_7) ((List.range' s (e + 1 - s)).map nI) [] (x0 :: x1 :: x2 :: x3 :: x4 :: x5 :: x6 :: x7 :: none :: x9 :: x10 :: x11 :: x12 :: x13 :: x14 :: x15 :: (some (.own (D.lst ((List.range 30).map fun n => D.lst ((gu ss n).map nI))))) :: x17 :: x18 :: x19 :: x20 :: x21 :: x22 :: x23 :: x24 :: (some (.val (.int ((s : Nat) : Int)))) :: (some (.val (.int ((e : Nat) : Int)))) :: r) = .ok true (.lst (((List.range' s (e + 1 - s)).filter fun n => !frS ss n).map nI)) (x0 :: x1 :: x2 :: x3 :: x4 :: x5 :: x6 :: x7 :: none :: x9 :: x10 :: x11 :: x12 :: x13 :: x14 :: x15 :: (some (.own (D.lst ((List.range 30).map fun n => D.lst ((gu ss n).map nI))))) :: x17 :: x18 :: x19 :: x20 :: x21 :: x22 :: x23 :: x24 :: (some (.val (.int ((s : Nat) : Int)))) :: (some (.val (.int ((e : Nat) : Int)))) :: r) := by
    rw [comp_of (f := nI) (p := fun n => !frS ss n) (g := nI) (fun n hn => ?_) (by simp only [List.length_nil, Nat.zero_add, List.length_range']; exact SZ_big (by omega))]
    · rfl
    · have hn := List.mem_range'_1.mp hn
      have a1 := at_full (ss := ss) (n := n) (by omega)
      refine ⟨(x0 :: x1 :: x2 :: x3 :: x4 :: x5 :: x6 :: x7 :: (some (.val (.int ((n : Nat) : Int)))) :: x9 :: x10 :: x11 :: x12 :: x13 :: x14 :: x15 :: (some (.own (D.lst ((List.range 30).map fun n => D.lst ((gu ss n).map nI))))) :: x17 :: x18 :: x19 :: x20 :: x21 :: x22 :: x23 :: x24 :: (some (.val (.int ((s : Nat) : Int)))) :: (some (.val (.int ((e : Nat) : Int)))) :: r), (x0 :: x1 :: x2 :: x3 :: x4 :: x5 :: x6 :: x7 :: (some (.val (.int ((n : Nat) : Int)))) :: x9 :: x10 :: x11 :: x12 :: x13 :: x14 :: x15 :: (some (.own (D.lst ((List.range 30).map fun n => D.lst ((gu ss n).map nI))))) :: x17 :: x18 :: x19 :: x20 :: x21 :: x22 :: x23 :: x24 :: (some (.val (.int ((s : Nat) : Int)))) :: (some (.val (.int ((e : Nat) : Int)))) :: r), false, by simp [-List.map_map, execs, exec, evos, evs, args, argV, argD, AR.bind, AR.call, back, ev, tst, opB, truthOf, gt, take, asVar, fin1, fin2, fetch, pr1, pr2, cmpD, bl?, truth, Sl.d, tgt, tgts, tgtOs, tgtO, storeS, locked, Out.only, Out.then, ER.out, ER.bind, ER.test, constOf, isTy, walk, opI, opN, isMut, isLst, lockS, unlockS, unlockAll, rows, IR.for_, IR.comp, IR.calm, calmE, lastPs, lastH, putS, atD, finM, wipeE, nI], ?_, by simp [wipeE], fun _ => ⟨false, (x0 :: x1 :: x2 :: x3 :: x4 :: x5 :: x6 :: x7 :: (some (.val (.int ((n : Nat) : Int)))) :: x9 :: x10 :: x11 :: x12 :: x13 :: x14 :: x15 :: (some (.own (D.lst ((List.range 30).map fun n => D.lst ((gu ss n).map nI))))) :: x17 :: x18 :: x19 :: x20 :: x21 :: x22 :: x23 :: x24 :: (some (.val (.int ((s : Nat) : Int)))) :: (some (.val (.int ((e : Nat) : Int)))) :: r), by simp [-List.map_map, execs, exec, evos, evs, args, argV, argD, AR.bind, AR.call, back, ev, tst, opB, truthOf, gt, take, asVar, fin1, fin2, fetch, pr1, pr2, cmpD, bl?, truth, Sl.d, tgt, tgts, tgtOs, tgtO, storeS, locked, Out.only, Out.then, ER.out, ER.bind, ER.test, constOf, isTy, walk, opI, opN, isMut, isLst, lockS, unlockS, unlockAll, rows, IR.for_, IR.comp, IR.calm, calmE, lastPs, lastH, putS, atD, finM, b26_7, nI], by simp [wipeE]⟩⟩
      rw [tst]
      simp only [opB, asVar, ev, evs, AR.call, back, List.map_nil, gt, List.getElem?_cons_zero, List.getElem?_cons_succ, fin2, fetch, Option.map, Sl.d, pr2, a1, ER.bind, ne_nil, bl?, frS]
  have e2 : ((e : Int) + 1) = ((e + 1 : Nat) : Int) := by omega
  rw [tst]
  simp only [opB, asVar]
  rw [ev, walk]
  simp only [opN, ev.eq_2, take, gt, List.getElem?_cons_zero, List.getElem?_cons_succ]
  rw [ev]
  · simp only [opB, asVar, ev.eq_1, gt, List.getElem?_cons_zero, List.getElem?_cons_succ, ER.bind, fin2, fetch, Option.map, Sl.d, pr2, e2, rg_2 (a := s) (b := e + 1) (by omega) (by omega), if_true, IR.comp, rangeD_nat, calmE, gt, List.all_cons, List.all_nil, Bool.and_self, hc, restE, unlockAll, List.set_cons_succ, List.set_cons_zero, Option.getD, ev, evs, AR.call, back, List.map_nil, eq_nil, bl?]
def rowR (fr : Nat → Bool) (b s : Nat) : List (Nat × Nat) := ((List.range' s (b + 1 - s)).filter fun e => ((List.range' s (e + 1 - s)).filter fun n => !fr n).isEmpty).map fun e => (s, e)
theorem run_turn {b s : Nat} {acc : List (Nat × Nat)} (hs : s ≤ 30) (hb : b < 30) (ha : acc.length ≤ 900) {x0 x1 x2 x3 x4 x5 x6 x7 x9 x10 x11 x12 x13 x14 x15 x17 x18 x19 x20 x21 x22 : Option Sl} {r : En} (c25 : Cm x25) : tgt (callK T G 19) G (.nm 25) (nI s) (x0 :: x1 :: x2 :: x3 :: x4 :: x5 :: x6 :: x7 :: none :: x9 :: x10 :: x11 :: x12 :: x13 :: x14 :: x15 :: (some (.own (D.lst ((List.range 30).map fun n => D.lst ((gu ss n).map nI))))) :: x17 :: x18 :: x19 :: x20 :: x21 :: x22 :: (some (.val (.int ((b : Nat) : Int)))) :: (some (.own (.lst ((acc).map dP)))) :: x25 :: none :: r) = .nx (x0 :: x1 :: x2 :: x3 :: x4 :: x5 :: x6 :: x7 :: none :: x9 :: x10 :: x11 :: x12 :: x13 :: x14 :: x15 :: (some (.own (D.lst ((List.range 30).map fun n => D.lst ((gu ss n).map nI))))) :: x17 :: x18 :: x19 :: x20 :: x21 :: x22 :: (some (.val (.int ((b : Nat) : Int)))) :: (some (.own (.lst ((acc).map dP)))) :: (some (.val (.int ((s : Nat) : Int)))) :: none :: r) ∧
    execs (callK T G 19) G b26_9 (x0 :: x1 :: x2 :: x3 :: x4 :: x5 :: x6 :: x7 :: none :: x9 :: x10 :: x11 :: x12 :: x13 :: x14 :: x15 :: (some (.own (D.lst ((List.range 30).map fun n => D.lst ((gu ss n).map nI))))) :: x17 :: x18 :: x19 :: x20 :: x21 :: x22 :: (some (.val (.int ((b : Nat) : Int)))) :: (some (.own (.lst ((acc).map dP)))) :: (some (.val (.int ((s : Nat) : Int)))) :: none :: r) = .nx (x0 :: x1 :: x2 :: x3 :: x4 :: x5 :: x6 :: x7 :: none :: x9 :: x10 :: x11 :: x12 :: x13 :: x14 :: x15 :: (some (.own (D.lst ((List.range 30).map fun n => D.lst ((gu ss n).map nI))))) :: x17 :: x18 :: x19 :: x20 :: x21 :: x22 :: (some (.val (.int ((b : Nat) : Int)))) :: (some (.own (.lst (((acc ++ rowR (frS ss) b s)).map dP)))) :: (some (.val (.int ((s : Nat) : Int)))) :: none :: r) := by
  refine ⟨by rcases c25 with rfl | ⟨d, rfl⟩ <;> simp [-List.map_map, execs, exec, evos, evs, args, argV, argD, AR.bind, AR.call, back, ev, tst, opB, truthOf, gt, take, asVar, fin1, fin2, fetch, pr1, pr2, cmpD, bl?, truth, Sl.d, tgt, tgts, tgtOs, tgtO, storeS, locked, Out.only, Out.then, ER.out, ER.bind, ER.test, constOf, isTy, walk, opI, opN, isMut, isLst, lockS, unlockS, unlockAll, rows, IR.for_, IR.comp, IR.calm, calmE, lastPs, lastH, putS, atD, finM, nI], ?_⟩
  have hc : compL [26] (tgt (callK T G 19) G (.nm 26)) (tst (callK T G 19) G (.cmp .eq (.lc b26_7 (.nm 8) (.range2 (.var 25) (.p2 .add (.var 26) (.cst (.int 1)))) (some (.cmp .ne (.p2 .item (.var 16) (.var 8)) (.lst .nil))) [8]) (.lst .nil))) (ev (callK T G 19) G b26_8) ((List.range' s (b + 1 - s)).map nI) [] (x0 :: x1 :: x2 :: x3 :: x4 :: x5 :: x6 :: x7 :: none :: x9 :: x10 :: x11 :: x12 :: x13 :: x14 :: x15 :: (some (.own (D.lst ((List.range 30).map fun n => D.lst ((gu ss n).map nI))))) :: x17 :: x18 :: x19 :: x20 :: x21 :: x22 :: (some (.val (.int ((b : Nat) : Int)))) :: (some (.own (.lst ((acc).map dP)))) :: (some (.val (.int ((s : Nat) : Int)))) :: none :: r) = .ok true (.lst ((rowR (frS ss) b s).map dP)) (x0 :: x1 :: x2 :: x3 :: x4 :: x5 :: x6 :: x7 :: none :: x9 :: x10 :: x11 :: x12 :: x13 :: x14 :: x15 :: (some (.own (D.lst ((List.range 30).map fun n => D.lst ((gu ss n).map nI))))) :: x17 :: x18 :: x19 :: x20 :: x21 :: x22 :: (some (.val (.int ((b : Nat) : Int)))) :: (some (.own (.lst ((acc).map dP)))) :: (some (.val (.int ((s : Nat) : Int)))) :: none :: r) := by
    rw [comp_of (f := nI) (p := fun e => ((List.range' s (e + 1 - s)).filter fun n => !frS ss n).isEmpty) (g := fun e => dP (s, e)) (fun e he => ?_) (by simp only [List.length_nil, Nat.zero_add, List.length_range']; exact SZ_big (by omega)), List.nil_append]
    · rw [rowR, List.map_map]; rfl
    · have he := List.mem_range'_1.mp he
      exact ⟨(x0 :: x1 :: x2 :: x3 :: x4 :: x5 :: x6 :: x7 :: none :: x9 :: x10 :: x11 :: x12 :: x13 :: x14 :: x15 :: (some (.own (D.lst ((List.range 30).map fun n => D.lst ((gu ss n).map nI))))) :: x17 :: x18 :: x19 :: x20 :: x21 :: x22 :: (some (.val (.int ((b : Nat) : Int)))) :: (some (.own (.lst ((acc).map dP)))) :: (some (.val (.int ((s : Nat) : Int)))) :: (some (.val (.int ((e : Nat) : Int)))) :: r), (x0 :: x1 :: x2 :: x3 :: x4 :: x5 :: x6 :: x7 :: none :: x9 :: x10 :: x11 :: x12 :: x13 :: x14 :: x15 :: (some (.own (D.lst ((List.range 30).map fun n => D.lst ((gu ss n).map nI))))) :: x17 :: x18 :: x19 :: x20 :: x21 :: x22 :: (some (.val (.int ((b : Nat) : Int)))) :: (some (.own (.lst ((acc).map dP)))) :: (some (.val (.int ((s : Nat) : Int)))) :: (some (.val (.int ((e : Nat) : Int)))) :: r), false, by simp [-List.map_map, execs, exec, evos, evs, args, argV, argD, AR.bind, AR.call, back, ev, tst, opB, truthOf, gt, take, asVar, fin1, fin2, fetch, pr1, pr2, cmpD, bl?, truth, Sl.d, tgt, tgts, tgtOs, tgtO, storeS, locked, Out.only, Out.then, ER.out, ER.bind, ER.test, constOf, isTy, walk, opI, opN, isMut, isLst, lockS, unlockS, unlockAll, rows, IR.for_, IR.comp, IR.calm, calmE, lastPs, lastH, putS, atD, finM, wipeE, nI], free_tst hs (by omega), by simp [wipeE], fun _ => ⟨false, (x0 :: x1 :: x2 :: x3 :: x4 :: x5 :: x6 :: x7 :: none :: x9 :: x10 :: x11 :: x12 :: x13 :: x14 :: x15 :: (some (.own (D.lst ((List.range 30).map fun n => D.lst ((gu ss n).map nI))))) :: x17 :: x18 :: x19 :: x20 :: x21 :: x22 :: (some (.val (.int ((b : Nat) : Int)))) :: (some (.own (.lst ((acc).map dP)))) :: (some (.val (.int ((s : Nat) : Int)))) :: (some (.val (.int ((e : Nat) : Int)))) :: r), by simp [-List.map_map, execs, exec, evos, evs, args, argV, argD, AR.bind, AR.call, back, ev, tst, opB, truthOf, gt, take, asVar, fin1, fin2, fetch, pr1, pr2, cmpD, bl?, truth, Sl.d, tgt, tgts, tgtOs, tgtO, storeS, locked, Out.only, Out.then, ER.out, ER.bind, ER.test, constOf, isTy, walk, opI, opN, isMut, isLst, lockS, unlockS, unlockAll, rows, IR.for_, IR.comp, IR.calm, calmE, lastPs, lastH, putS, atD, finM, b26_8, dP], by simp [wipeE]⟩⟩
  have hlen : (rowR (frS ss) b s).length ≤ 30 := by
    unfold rowR
    rw [List.length_map]
    refine Nat.le_trans (List.length_filter_le _ _) ?_
    simp
    omega
  have hz : acc.length + (rowR (frS ss) b s).length ≤ SZ := SZ_big (by omega)
  have e2 : ((b : Int) + 1) = ((b + 1 : Nat) : Int) := by omega
  rw [b26_9, execs_nx, execs_end]
  rw [exec, ev]
  simp only [opB, asVar, gt, List.getElem?_cons_zero, List.getElem?_cons_succ]
  rw [ev, walk]
  simp only [opN, ev.eq_2, take, gt, List.getElem?_cons_zero, List.getElem?_cons_succ]
  rw [ev]
  · simp only [opB, asVar, ev.eq_1, gt, List.getElem?_cons_zero, List.getElem?_cons_succ, ER.bind, fin2, fetch, Option.map, Sl.d, pr2, e2, rg_2 (a := s) (b := b + 1) (by omega) (by omega), if_true, IR.comp, rangeD_nat, calmE, gt, List.all_cons, List.all_nil, Bool.and_self, hc, restE, unlockAll, List.set_cons_succ, List.set_cons_zero, Option.getD]
    simp [-List.map_map, hz, ER.out, tgtO, storeS, locked, gt, Out.only, Sl.d]
theorem run_loop {b : Nat} (hb : b < 30) : ∀ (n s : Nat) (acc : List (Nat × Nat)) {x0 x1 x2 x3 x4 x5 x6 x7 x9 x10 x11 x12 x13 x14 x15 x17 x18 x19 x20 x21 x22 : Option Sl} {r : En} {x25 : Option Sl}, s + n ≤ b + 1 → acc.length + n * 30 ≤ 900 → Cm x25 → ∃ y25, Cm y25 ∧ forL (tgt (callK T G 19) G (.nm 25)) (execs (callK T G 19) G b26_9) ((List.range' s n).map nI) (x0 :: x1 :: x2 :: x3 :: x4 :: x5 :: x6 :: x7 :: none :: x9 :: x10 :: x11 :: x12 :: x13 :: x14 :: x15 :: (some (.own (D.lst ((List.range 30).map fun n => D.lst ((gu ss n).map nI))))) :: x17 :: x18 :: x19 :: x20 :: x21 :: x22 :: (some (.val (.int ((b : Nat) : Int)))) :: (some (.own (.lst ((acc).map dP)))) :: x25 :: none :: r) = .nx (x0 :: x1 :: x2 :: x3 :: x4 :: x5 :: x6 :: x7 :: none :: x9 :: x10 :: x11 :: x12 :: x13 :: x14 :: x15 :: (some (.own (D.lst ((List.range 30).map fun n => D.lst ((gu ss n).map nI))))) :: x17 :: x18 :: x19 :: x20 :: x21 :: x22 :: (some (.val (.int ((b : Nat) : Int)))) :: (some (.own (.lst (((acc ++ (List.range' s n).flatMap (rowR (frS ss) b))).map dP)))) :: y25 :: none :: r)
  | 0, s, acc, x0, x1, x2, x3, x4, x5, x6, x7, x9, x10, x11, x12, x13, x14, x15, x17, x18, x19, x20, x21, x22, r, x25, hs, ha, c25 => ⟨x25, c25, by simp [forL]⟩
  | n + 1, s, acc, x0, x1, x2, x3, x4, x5, x6, x7, x9, x10, x11, x12, x13, x14, x15, x17, x18, x19, x20, x21, x22, r, x25, hs, ha, c25 => by
    obtain ⟨g1, g2⟩ := run_turn (ss := ss) (b := b) (s := s) (acc := acc) (by omega) hb (by omega) (x0 := x0) (x1 := x1) (x2 := x2) (x3 := x3) (x4 := x4) (x5 := x5) (x6 := x6) (x7 := x7) (x9 := x9) (x10 := x10) (x11 := x11) (x12 := x12) (x13 := x13) (x14 := x14) (x15 := x15) (x17 := x17) (x18 := x18) (x19 := x19) (x20 := x20) (x21 := x21) (x22 := x22) (r := r) c25
    have hlen : (rowR (frS ss) b s).length ≤ 30 := by
      unfold rowR
      rw [List.length_map]
      refine Nat.le_trans (List.length_filter_le _ _) ?_
      simp
      omega
    obtain ⟨y25, i1, i2⟩ := run_loop hb n (s + 1) (acc ++ rowR (frS ss) b s) (x0 := x0) (x1 := x1) (x2 := x2) (x3 := x3) (x4 := x4) (x5 := x5) (x6 := x6) (x7 := x7) (x9 := x9) (x10 := x10) (x11 := x11) (x12 := x12) (x13 := x13) (x14 := x14) (x15 := x15) (x17 := x17) (x18 := x18) (x19 := x19) (x20 := x20) (x21 := x21) (x22 := x22) (r := r) (x25 := (some (.val (.int ((s : Nat) : Int))))) (by omega) (by simp; omega) (.inr ⟨_, rfl⟩)
    exact ⟨y25, i1, by rw [List.range'_succ, List.map_cons, forL_cons g1 g2, i2, List.flatMap_cons, List.append_assoc]⟩
theorem s_runs {a b : Nat} (hab : a ≤ b) (hb : b < 30) {x0 x1 x2 x3 x4 x5 x6 x7 x9 x10 x11 x12 x13 x14 x15 x17 x18 x19 x20 x21 : Option Sl} {r : En} : ∃ y25, Cm y25 ∧ exec (callK T G 19) G (.for_ (.nm 25) (.range2 (.var 22) (.p2 .add (.var 23) (.cst (.int 1)))) b26_9) (x0 :: x1 :: x2 :: x3 :: x4 :: x5 :: x6 :: x7 :: none :: x9 :: x10 :: x11 :: x12 :: x13 :: x14 :: x15 :: (some (.own (D.lst ((List.range 30).map fun n => D.lst ((gu ss n).map nI))))) :: x17 :: x18 :: x19 :: x20 :: x21 :: (some (.val (.int ((a : Nat) : Int)))) :: (some (.val (.int ((b : Nat) : Int)))) :: (some (.own (.lst ((([] : List (Nat × Nat))).map dP)))) :: none :: none :: r) = .nx (x0 :: x1 :: x2 :: x3 :: x4 :: x5 :: x6 :: x7 :: none :: x9 :: x10 :: x11 :: x12 :: x13 :: x14 :: x15 :: (some (.own (D.lst ((List.range 30).map fun n => D.lst ((gu ss n).map nI))))) :: x17 :: x18 :: x19 :: x20 :: x21 :: (some (.val (.int ((a : Nat) : Int)))) :: (some (.val (.int ((b : Nat) : Int)))) :: (some (.own (.lst (((runsL (frS ss) a b)).map dP)))) :: y25 :: none :: r) := by
  obtain ⟨y25, i1, i2⟩ := run_loop (ss := ss) hb (b + 1 - a) a [] (x0 := x0) (x1 := x1) (x2 := x2) (x3 := x3) (x4 := x4) (x5 := x5) (x6 := x6) (x7 := x7) (x9 := x9) (x10 := x10) (x11 := x11) (x12 := x12) (x13 := x13) (x14 := x14) (x15 := x15) (x17 := x17) (x18 := x18) (x19 := x19) (x20 := x20) (x21 := x21) (x22 := (some (.val (.int ((a : Nat) : Int))))) (r := r) (x25 := none) (by omega) (by simp; omega) (.inl rfl)
  refine ⟨y25, i1, ?_⟩
  have e2 : ((b : Int) + 1) = ((b + 1 : Nat) : Int) := by omega
  rw [exec, walk]
  simp only [opN, ev.eq_2, take, gt, List.getElem?_cons_zero, List.getElem?_cons_succ]
  rw [ev]
  · simp only [opB, asVar, ev.eq_1, gt, List.getElem?_cons_zero, List.getElem?_cons_succ, ER.bind, fin2, fetch, Option.map, Sl.d, pr2, e2, rg_2 (a := a) (b := b + 1) (by omega) (by omega), if_true, IR.for_, rangeD_nat]
    rw [i2]
    rfl
end
end Law
namespace Law
open Rx
section
variable {ss : Sy}
theorem at_p0 {p : Nat × Nat} : atD [D.int (p.1 : Nat), D.int (p.2 : Nat)] 0 = some (.int (p.1 : Nat)) := rfl
theorem at_p1 {p : Nat × Nat} : atD [D.int (p.1 : Nat), D.int (p.2 : Nat)] 1 = some (.int (p.2 : Nat)) := rfl
theorem max_ev {l : List (Nat × Nat)} (hl : ∀ p ∈ l, p.1 ≤ p.2) (hz : l.length ≤ 1000) {m : Nat} (hm : mx? (l.map fun p => p.2 - p.1) = some m) {x0 x1 x2 x3 x4 x5 x6 x7 x8 x9 x10 x11 x12 x13 x14 x15 x16 x18 x19 x20 x21 x22 x23 : Option Sl} {r : En} : ev (callK T G 19) G (.p1 .max1 (.lc b26_5 (.nm 17) (.seq (.var 24)) none [17])) (x0 :: x1 :: x2 :: x3 :: x4 :: x5 :: x6 :: x7 :: x8 :: x9 :: x10 :: x11 :: x12 :: x13 :: x14 :: x15 :: x16 :: none :: x18 :: x19 :: x20 :: x21 :: x22 :: x23 :: (some (.lck true (.lst ((l).map dP)))) :: r) = .ok false (.int (m : Nat)) (x0 :: x1 :: x2 :: x3 :: x4 :: x5 :: x6 :: x7 :: x8 :: x9 :: x10 :: x11 :: x12 :: x13 :: x14 :: x15 :: x16 :: none :: x18 :: x19 :: x20 :: x21 :: x22 :: x23 :: (some (.lck true (.lst ((l).map dP)))) :: r) := by
  have hc : compL [17] (tgt (callK T G 19) G (.nm 17)) (fun E => .ok false (.bl true) E) (ev (callK T G 19) G b26_5) (l.map dP) [] (x0 :: x1 :: x2 :: x3 :: x4 :: x5 :: x6 :: x7 :: x8 :: x9 :: x10 :: x11 :: x12 :: x13 :: x14 :: x15 :: x16 :: none :: x18 :: x19 :: x20 :: x21 :: x22 :: x23 :: (some (.lck true (.lst ((l).map dP)))) :: r) = .ok true (.lst (l.map fun p => nI (p.2 - p.1))) (x0 :: x1 :: x2 :: x3 :: x4 :: x5 :: x6 :: x7 :: x8 :: x9 :: x10 :: x11 :: x12 :: x13 :: x14 :: x15 :: x16 :: none :: x18 :: x19 :: x20 :: x21 :: x22 :: x23 :: (some (.lck true (.lst ((l).map dP)))) :: r) := by
    rw [comp_all (f := dP) (g := fun p => nI (p.2 - p.1)) (fun p hp => ?_) (SZ_big hz)]
    · rfl
    · have h := hl p hp
      have e : (p.2 : Int) - (p.1 : Int) = ((p.2 - p.1 : Nat) : Int) := by omega
      refine ⟨(x0 :: x1 :: x2 :: x3 :: x4 :: x5 :: x6 :: x7 :: x8 :: x9 :: x10 :: x11 :: x12 :: x13 :: x14 :: x15 :: x16 :: (some (.val (dP p))) :: x18 :: x19 :: x20 :: x21 :: x22 :: x23 :: (some (.lck true (.lst ((l).map dP)))) :: r), false, (x0 :: x1 :: x2 :: x3 :: x4 :: x5 :: x6 :: x7 :: x8 :: x9 :: x10 :: x11 :: x12 :: x13 :: x14 :: x15 :: x16 :: (some (.val (dP p))) :: x18 :: x19 :: x20 :: x21 :: x22 :: x23 :: (some (.lck true (.lst ((l).map dP)))) :: r), by simp [-List.map_map, execs, exec, evos, evs, args, argV, argD, AR.bind, AR.call, back, ev, tst, opB, truthOf, gt, take, asVar, fin1, fin2, fetch, pr1, pr2, cmpD, bl?, truth, Sl.d, tgt, tgts, tgtOs, tgtO, storeS, locked, Out.only, Out.then, ER.out, ER.bind, ER.test, constOf, isTy, walk, opI, opN, isMut, isLst, lockS, unlockS, unlockAll, rows, IR.for_, IR.comp, IR.calm, calmE, lastPs, lastH, putS, atD, finM, wipeE], ?_, by simp [wipeE], by simp [wipeE]⟩
      rw [b26_5]
      simp only [ev, opB, asVar, gt, List.getElem?_cons_zero, List.getElem?_cons_succ, fin2, fetch, Option.map, Sl.d, pr2, dP, at_p0, at_p1, ER.bind, e, nI]
  have hmx : pr1 .max1 (.lst (l.map fun p => nI (p.2 - p.1))) = some (false, .int (m : Nat)) := by
    have := pr1_max hm
    rw [List.map_map] at this
    exact this
  rw [ev]
  · simp only [opB, asVar]
    rw [ev, walk]
    simp only [opI, asVar, gt, isMut, Sl.d, rows, List.getElem?_cons_zero, List.getElem?_cons_succ, Bool.false_eq_true, if_false, IR.comp, calmE, List.all_cons, List.all_nil, Bool.and_self, if_true, hc]
    simp only [restE, unlockAll, gt, List.getElem?_cons_zero, List.getElem?_cons_succ, List.set_cons_succ, List.set_cons_zero, Option.getD, ER.bind, fin1, fetch, hmx]
theorem s_long {fr : Nat → Bool} {a b : Nat} (hb : b < 30) {x0 x1 x2 x3 x4 x5 x6 x7 x8 x9 x10 x11 x12 x13 x14 x15 x16 x18 x19 x20 x21 x22 x23 x25 x26 : Option Sl} {r : En} : exec (callK T G 19) G (.asg (.nm 27) (.lc b26_6 (.nm 28) (.seq (.var 24)) (some (.cmp .eq (.p2 .sub (.p2 .item (.var 28) (.cst (.int 1))) (.p2 .item (.var 28) (.cst (.int 0)))) (.p1 .max1 (.lc b26_5 (.nm 17) (.seq (.var 24)) none [17])))) [28])) (x0 :: x1 :: x2 :: x3 :: x4 :: x5 :: x6 :: x7 :: x8 :: x9 :: x10 :: x11 :: x12 :: x13 :: x14 :: x15 :: x16 :: none :: x18 :: x19 :: x20 :: x21 :: x22 :: x23 :: (some (.own (.lst (((runsL fr a b)).map dP)))) :: x25 :: x26 :: none :: none :: r) = .nx (x0 :: x1 :: x2 :: x3 :: x4 :: x5 :: x6 :: x7 :: x8 :: x9 :: x10 :: x11 :: x12 :: x13 :: x14 :: x15 :: x16 :: none :: x18 :: x19 :: x20 :: x21 :: x22 :: x23 :: (some (.own (.lst (((runsL fr a b)).map dP)))) :: x25 :: x26 :: (some (.own (.lst (((longL fr a b)).map dP)))) :: none :: r) := by
  have hlen : (runsL fr a b).length ≤ 900 := by
    have key : ∀ l : List Nat, (l.flatMap (rowR fr b)).length ≤ l.length * 30 := fun l => by
      induction l with
      | nil => simp
      | cons s l ih =>
        have : (rowR fr b s).length ≤ 30 := by
          unfold rowR
          rw [List.length_map]
          refine Nat.le_trans (List.length_filter_le _ _) ?_
          simp
          omega
        simp only [List.flatMap_cons, List.length_append, List.length_cons, Nat.succ_mul]
        omega
    refine Nat.le_trans (key _) ?_
    simp
    omega
  have hle : ∀ p ∈ runsL fr a b, p.1 ≤ p.2 := fun p hp => (runs_mem.mp hp).2.1
  have hc : compL [28] (tgt (callK T G 19) G (.nm 28)) (tst (callK T G 19) G (.cmp .eq (.p2 .sub (.p2 .item (.var 28) (.cst (.int 1))) (.p2 .item (.var 28) (.cst (.int 0)))) (.p1 .max1 (.lc b26_5 (.nm 17) (.seq (.var 24)) none [17])))) (ev (callK T G 19) G b26_6) ((runsL fr a b).map dP) [] (x0 :: x1 :: x2 :: x3 :: x4 :: x5 :: x6 :: x7 :: x8 :: x9 :: x10 :: x11 :: x12 :: x13 :: x14 :: x15 :: x16 :: none :: x18 :: x19 :: x20 :: x21 :: x22 :: x23 :: (some (.lck true (.lst (((runsL fr a b)).map dP)))) :: x25 :: x26 :: none :: none :: r) = .ok true (.lst ((longL fr a b).map dP)) (x0 :: x1 :: x2 :: x3 :: x4 :: x5 :: x6 :: x7 :: x8 :: x9 :: x10 :: x11 :: x12 :: x13 :: x14 :: x15 :: x16 :: none :: x18 :: x19 :: x20 :: x21 :: x22 :: x23 :: (some (.lck true (.lst (((runsL fr a b)).map dP)))) :: x25 :: x26 :: none :: none :: r) := by
    unfold longL
    cases hm : mx? ((runsL fr a b).map fun p => p.2 - p.1) with
    | none =>
      have e : runsL fr a b = [] := by simpa using mx_none.mp hm
      rw [e]
      simp [compL, wipeE]
    | some m =>
      rw [comp_of (f := dP) (p := fun p => decide (p.2 - p.1 = m)) (g := dP) (fun p hp => ?_) (by simp only [List.length_nil, Nat.zero_add]; exact SZ_big (by omega))]
      · rfl
      · have h := hle p hp
        have e : (p.2 : Int) - (p.1 : Int) = ((p.2 - p.1 : Nat) : Int) := by omega
        have me := max_ev hle (by omega) hm (x0 := x0) (x1 := x1) (x2 := x2) (x3 := x3) (x4 := x4) (x5 := x5) (x6 := x6) (x7 := x7) (x8 := x8) (x9 := x9) (x10 := x10) (x11 := x11) (x12 := x12) (x13 := x13) (x14 := x14) (x15 := x15) (x16 := x16) (x18 := x18) (x19 := x19) (x20 := x20) (x21 := x21) (x22 := x22) (x23 := x23) (r := x25 :: x26 :: none :: (some (.val (dP p))) :: r)
        have e3 : (((p.2 - p.1 : Nat) : Int) == (m : Int)) = decide (p.2 - p.1 = m) := by
          by_cases h : p.2 - p.1 = m
          · simp [h]
          · have : ¬ ((p.2 - p.1 : Nat) : Int) = (m : Int) := by omega
            have e1 : (((p.2 - p.1 : Nat) : Int) == (m : Int)) = false := by simpa only [beq_eq_false_iff_ne, ne_eq] using this
            rw [e1]
            simp [h]
        refine ⟨(x0 :: x1 :: x2 :: x3 :: x4 :: x5 :: x6 :: x7 :: x8 :: x9 :: x10 :: x11 :: x12 :: x13 :: x14 :: x15 :: x16 :: none :: x18 :: x19 :: x20 :: x21 :: x22 :: x23 :: (some (.lck true (.lst (((runsL fr a b)).map dP)))) :: x25 :: x26 :: none :: (some (.val (dP p))) :: r), (x0 :: x1 :: x2 :: x3 :: x4 :: x5 :: x6 :: x7 :: x8 :: x9 :: x10 :: x11 :: x12 :: x13 :: x14 :: x15 :: x16 :: none :: x18 :: x19 :: x20 :: x21 :: x22 :: x23 :: (some (.lck true (.lst (((runsL fr a b)).map dP)))) :: x25 :: x26 :: none :: (some (.val (dP p))) :: r), false, by simp [-List.map_map, execs, exec, evos, evs, args, argV, argD, AR.bind, AR.call, back, ev, tst, opB, truthOf, gt, take, asVar, fin1, fin2, fetch, pr1, pr2, cmpD, bl?, truth, Sl.d, tgt, tgts, tgtOs, tgtO, storeS, locked, Out.only, Out.then, ER.out, ER.bind, ER.test, constOf, isTy, walk, opI, opN, isMut, isLst, lockS, unlockS, unlockAll, rows, IR.for_, IR.comp, IR.calm, calmE, lastPs, lastH, putS, atD, finM, wipeE], ?_, by simp [wipeE], fun _ => ⟨false, (x0 :: x1 :: x2 :: x3 :: x4 :: x5 :: x6 :: x7 :: x8 :: x9 :: x10 :: x11 :: x12 :: x13 :: x14 :: x15 :: x16 :: none :: x18 :: x19 :: x20 :: x21 :: x22 :: x23 :: (some (.lck true (.lst (((runsL fr a b)).map dP)))) :: x25 :: x26 :: none :: (some (.val (dP p))) :: r), by simp [-List.map_map, execs, exec, evos, evs, args, argV, argD, AR.bind, AR.call, back, ev, tst, opB, truthOf, gt, take, asVar, fin1, fin2, fetch, pr1, pr2, cmpD, bl?, truth, Sl.d, tgt, tgts, tgtOs, tgtO, storeS, locked, Out.only, Out.then, ER.out, ER.bind, ER.test, constOf, isTy, walk, opI, opN, isMut, isLst, lockS, unlockS, unlockAll, rows, IR.for_, IR.comp, IR.calm, calmE, lastPs, lastH, putS, atD, finM, b26_6], by simp [wipeE]⟩⟩
        rw [tst]
        simp only [opB, asVar]
        rw [ev]
        · simp only [opB, asVar]
          rw [ev]
          · simp only [opB, asVar, ev.eq_1, gt, List.getElem?_cons_zero, List.getElem?_cons_succ, fin2, fetch, Option.map, Sl.d, pr2, dP, at_p1, ER.bind]
            rw [ev]
            · simp only [opB, asVar, ev.eq_1, gt, List.getElem?_cons_zero, List.getElem?_cons_succ, fin2, fetch, Option.map, Sl.d, pr2, at_p0, ER.bind, e]
              rw [show D.tup [D.int (p.1 : Nat), D.int (p.2 : Nat)] = dP p from rfl, me]
              simp only [ER.bind, fin2, fetch, cmpD, plain, Bool.and_self, if_true, eqv, e3, bl?, Option.map]
  rw [exec, ev, walk]
  simp only [opI, asVar, gt, isMut, isLst, Sl.d, rows, lockS, List.getElem?_cons_zero, List.getElem?_cons_succ, if_true, List.set_cons_succ, List.set_cons_zero, IR.comp, calmE, List.all_cons, List.all_nil, Bool.and_self, hc]
  simp [-List.map_map, restE, unlockAll, unlockS, gt, ER.out, tgtO, storeS, locked, Out.only]
theorem ne_nilP {l : List (Nat × Nat)} : cmpD G .ne (.lst (l.map dP)) (.lst []) = some (!l.isEmpty) := by
  have hp : ∀ l : List (Nat × Nat), plains 39 (l.map dP) = true := fun l => by
    induction l with
    | nil => rfl
    | cons a l ih => rw [List.map_cons, plains, ih]; rfl
  have e : cmpD G .ne (.lst (l.map dP)) (.lst []) = (if (plains 39 (l.map dP) && plains 39 []) = true then some (!eqvs (l.map dP) []) else none) := rfl
  rw [e, hp]
  cases l <;> rfl
theorem ne_oP {o : Option (Nat × Nat)} : cmpD G .ne (oP o) (oP o) = some false := by
  cases o with
  | none => rfl
  | some p => simp [cmpD, oP, plain, plains, eqv, eqvs]
theorem s_told1 (hl : ss.length ≤ 6) {a b : Nat} (hab : a ≤ b) (hb : b < 30) {x0 x1 x2 x3 x4 x5 x6 x7 x8 x9 x10 x11 x12 x14 x15 x16 x17 x18 x19 x20 x21 x24 x25 x26 : Option Sl} {r : En} : exec (callK T G 19) G (.ite (.cmp .ne (.call 25 (.cons (.cst (.int 1)) (.cons (.var 13) (.cons (.var 22) (.cons (.var 23) .nil))))) (.ifx (.cmp .ne (.var 27) (.lst .nil)) (.p2 .item (.var 27) (.cst (.int 0))) (.cst .non))) (.cons (.ret (.cst (.bl false))) .nil) .nil) (x0 :: x1 :: x2 :: x3 :: x4 :: x5 :: x6 :: x7 :: x8 :: x9 :: x10 :: x11 :: x12 :: (some (.val (dS ss))) :: x14 :: x15 :: x16 :: x17 :: x18 :: x19 :: x20 :: x21 :: (some (.val (.int ((a : Nat) : Int)))) :: (some (.val (.int ((b : Nat) : Int)))) :: x24 :: x25 :: x26 :: (some (.own (.lst (((longL (frS ss) a b)).map dP)))) :: r) = .nx (x0 :: x1 :: x2 :: x3 :: x4 :: x5 :: x6 :: x7 :: x8 :: x9 :: x10 :: x11 :: x12 :: (some (.val (dS ss))) :: x14 :: x15 :: x16 :: x17 :: x18 :: x19 :: x20 :: x21 :: (some (.val (.int ((a : Nat) : Int)))) :: (some (.val (.int ((b : Nat) : Int)))) :: x24 :: x25 :: x26 :: (some (.own (.lst (((longL (frS ss) a b)).map dP)))) :: r) := by
  obtain ⟨best, h1, q1⟩ := c_told1 (ss := ss) (by omega) (k := 15) hab (by omega)
  have q1' : (callK T G 19) 25 [.val (.int 1), .val (dS ss), .val (.int (a : Nat)), .val (.int (b : Nat))] = _ := q1
  have hh := long_head h1
  have e2 : ev (callK T G 19) G (.ifx (.cmp .ne (.var 27) (.lst .nil)) (.p2 .item (.var 27) (.cst (.int 0))) (.cst .non)) (x0 :: x1 :: x2 :: x3 :: x4 :: x5 :: x6 :: x7 :: x8 :: x9 :: x10 :: x11 :: x12 :: (some (.val (dS ss))) :: x14 :: x15 :: x16 :: x17 :: x18 :: x19 :: x20 :: x21 :: (some (.val (.int ((a : Nat) : Int)))) :: (some (.val (.int ((b : Nat) : Int)))) :: x24 :: x25 :: x26 :: (some (.own (.lst (((longL (frS ss) a b)).map dP)))) :: r) = .ok false (oP best) (x0 :: x1 :: x2 :: x3 :: x4 :: x5 :: x6 :: x7 :: x8 :: x9 :: x10 :: x11 :: x12 :: (some (.val (dS ss))) :: x14 :: x15 :: x16 :: x17 :: x18 :: x19 :: x20 :: x21 :: (some (.val (.int ((a : Nat) : Int)))) :: (some (.val (.int ((b : Nat) : Int)))) :: x24 :: x25 :: x26 :: (some (.own (.lst (((longL (frS ss) a b)).map dP)))) :: r) := by
    rw [ev, tst]
    simp only [opB, asVar, gt, List.getElem?_cons_zero, List.getElem?_cons_succ, ev.eq_17, evs, AR.call, back, List.map_nil, ER.bind, fin2, fetch, Option.map, Sl.d, ne_nilP, bl?, ER.test]
    rw [← hh]
    cases hq : longL (frS ss) a b with
    | nil =>
      simp only [List.isEmpty_nil, Bool.not_true, Bool.false_eq_true, if_false, ev.eq_1, List.head?_nil]
      rfl
    | cons p l =>
      simp only [List.isEmpty_cons, Bool.not_false, if_true, List.head?_cons]
      rw [ev]
      · simp only [opB, asVar, ev.eq_1, gt, List.getElem?_cons_zero, List.getElem?_cons_succ, ER.bind, fin2, fetch, Option.map, Sl.d, pr2, List.map_cons, show atD (dP p :: l.map dP) 0 = some (dP p) from rfl]
        rfl
  refine ite_skip (o := false) ?_
  rw [tst]
  simp only [opB, asVar]
  rw [ev]
  simp only [args, asVar, argV, argD, ev.eq_1, gt, List.getElem?_cons_zero, List.getElem?_cons_succ, AR.bind, AR.call, q1', back, ER.bind]
  rw [e2]
  simp only [ER.bind, fin2, fetch, ne_oP, bl?, Option.map]
theorem s_bedn {d : D} (hd : Dw d) {x0 x2 x3 x4 x5 x6 x7 x8 x9 x10 x11 x12 x13 x14 x15 x16 x17 x18 x19 x20 x21 x22 x23 x24 x25 x26 x27 x28 : Option Sl} {r : En} : ∃ (n : Nat) (d' : D), n ≤ 3 ∧ Dw d' ∧ exec (callK T G 19) G (.par (.cons (.nm 29) (.cons (.nm 30) .nil)) (.cons (.call 19 (.cons (.var 1) (.cons (.cst (.int 4)) .nil))) (.cons (.dict0 false) .nil))) (x0 :: some (.own d) :: x2 :: x3 :: x4 :: x5 :: x6 :: x7 :: x8 :: x9 :: x10 :: x11 :: x12 :: x13 :: x14 :: x15 :: x16 :: x17 :: x18 :: x19 :: x20 :: x21 :: x22 :: x23 :: x24 :: x25 :: x26 :: x27 :: x28 :: none :: none :: r) = .nx (x0 :: some (.own d') :: x2 :: x3 :: x4 :: x5 :: x6 :: x7 :: x8 :: x9 :: x10 :: x11 :: x12 :: x13 :: x14 :: x15 :: x16 :: x17 :: x18 :: x19 :: x20 :: x21 :: x22 :: x23 :: x24 :: x25 :: x26 :: x27 :: x28 :: (some (.val (.int ((n : Nat) : Int)))) :: (some (.own (fD []))) :: r) := by
  obtain ⟨n, d1, hn, hd1, q1⟩ := takeN (k := 18) hd (m := 4) (by omega) (by omega)
  have q1' : (callK T G 19) 19 [.ref d, .val (.int 4)] = _ := q1
  exact ⟨n, d1, by omega, hd1, by simp [execs, exec, evos, evs, args, argV, argD, AR.bind, AR.call, back, ev, tst, opB, truthOf, gt, take, asVar, fin1, fin2, fetch, pr1, pr2, cmpD, bl?, truth, Sl.d, tgt, tgts, tgtOs, tgtO, storeS, locked, Out.only, Out.then, ER.out, ER.bind, ER.test, constOf, isTy, walk, opI, opN, isMut, isLst, lockS, unlockS, unlockAll, rows, IR.for_, IR.comp, IR.calm, calmE, lastPs, lastH, putS, atD, finM, q1', fD, fK, fV]⟩
end
end Law
namespace Law
open Rx
section
variable {ss : Sy}
def Keys (fd : Fd) : Prop := (fd.map (·.1)).Nodup
theorem look_self : ∀ {fd : Fd}, Keys fd → ∀ p ∈ fd, lookF fd p.1 = p.2
  | [], _, p, hp => by cases hp
  | q :: fd, h, p, hp => by
    unfold Keys at h
    rw [List.map_cons, List.nodup_cons] at h
    unfold lookF
    rcases List.mem_cons.mp hp with rfl | hp
    · rw [List.find?_cons_of_pos (by simp)]; rfl
    · have hne : ¬ q.1 = p.1 := fun e => h.1 (by rw [e]; exact List.mem_map_of_mem hp)
      rw [List.find?_cons_of_neg (by simpa using hne)]
      exact look_self h.2 p hp
theorem lt_comp {bd n k : Nat} {fd : Fd} (hk : Keys fd) (hfd : ∀ p ∈ fd, p.1 < ss.length) (hz : fd.length ≤ 1000) {x0 x1 x2 x3 x4 x5 x6 x7 x9 x10 x11 x12 x15 x16 x17 x18 x19 x20 x21 x22 x23 x24 x25 x26 x27 x28 : Option Sl} {r : En} {x31 x33 : Option Sl} :
    compL [32] (tgt (callK T G 19) G (.nm 32)) (tst (callK T G 19) G (.cmp .ge (.p2 .item (.p2 .item (.var 13) (.var 32)) (.cst (.int 1))) (.var 8))) (ev (callK T G 19) G b26_2) (fd.map fun p => nI p.1) [] (x0 :: x1 :: x2 :: x3 :: x4 :: x5 :: x6 :: x7 :: (some (.val (.int ((n : Nat) : Int)))) :: x9 :: x10 :: x11 :: x12 :: (some (.val (dS ss))) :: (some (.val (.int ((k : Nat) : Int)))) :: x15 :: x16 :: x17 :: x18 :: x19 :: x20 :: x21 :: x22 :: x23 :: x24 :: x25 :: x26 :: x27 :: x28 :: (some (.val (.int ((bd : Nat) : Int)))) :: (some (.lck true (fD fd))) :: x31 :: none :: x33 :: none :: r) =
      .ok true (.lst ((takenQ ss fd n).map oI)) (x0 :: x1 :: x2 :: x3 :: x4 :: x5 :: x6 :: x7 :: (some (.val (.int ((n : Nat) : Int)))) :: x9 :: x10 :: x11 :: x12 :: (some (.val (dS ss))) :: (some (.val (.int ((k : Nat) : Int)))) :: x15 :: x16 :: x17 :: x18 :: x19 :: x20 :: x21 :: x22 :: x23 :: x24 :: x25 :: x26 :: x27 :: x28 :: (some (.val (.int ((bd : Nat) : Int)))) :: (some (.lck true (fD fd))) :: x31 :: none :: x33 :: none :: r) := by
  rw [comp_of (f := fun p : Nat × Option Nat => nI p.1) (p := fun p : Nat × Option Nat => decide (n ≤ (gs ss p.1).2.1)) (g := fun p : Nat × Option Nat => oI p.2) (fun p hp => ?_) (by simpa using SZ_big hz), List.nil_append]
  · simp [takenQ, wipeE]
  · have a1 := at_S (hfd p hp)
    have hi := pr_item (fd := fd) (k := p.1) (List.mem_map_of_mem hp)
    rw [look_self hk p hp] at hi
    refine ⟨(x0 :: x1 :: x2 :: x3 :: x4 :: x5 :: x6 :: x7 :: (some (.val (.int ((n : Nat) : Int)))) :: x9 :: x10 :: x11 :: x12 :: (some (.val (dS ss))) :: (some (.val (.int ((k : Nat) : Int)))) :: x15 :: x16 :: x17 :: x18 :: x19 :: x20 :: x21 :: x22 :: x23 :: x24 :: x25 :: x26 :: x27 :: x28 :: (some (.val (.int ((bd : Nat) : Int)))) :: (some (.lck true (fD fd))) :: x31 :: (some (.val (.int ((p.1 : Nat) : Int)))) :: x33 :: none :: r), (x0 :: x1 :: x2 :: x3 :: x4 :: x5 :: x6 :: x7 :: (some (.val (.int ((n : Nat) : Int)))) :: x9 :: x10 :: x11 :: x12 :: (some (.val (dS ss))) :: (some (.val (.int ((k : Nat) : Int)))) :: x15 :: x16 :: x17 :: x18 :: x19 :: x20 :: x21 :: x22 :: x23 :: x24 :: x25 :: x26 :: x27 :: x28 :: (some (.val (.int ((bd : Nat) : Int)))) :: (some (.lck true (fD fd))) :: x31 :: (some (.val (.int ((p.1 : Nat) : Int)))) :: x33 :: none :: r), false, by simp [execs, exec, evos, evs, args, argV, argD, AR.bind, AR.call, back, ev, tst, opB, truthOf, gt, take, asVar, fin1, fin2, fetch, pr1, pr2, cmpD, bl?, truth, Sl.d, tgt, tgts, tgtOs, tgtO, storeS, locked, Out.only, Out.then, ER.out, ER.bind, ER.test, constOf, isTy, walk, opI, opN, isMut, isLst, lockS, unlockS, unlockAll, rows, IR.for_, IR.comp, IR.calm, calmE, lastPs, lastH, putS, atD, finM, wipeE, nI], ?_, by simp [wipeE], fun _ => ⟨false, (x0 :: x1 :: x2 :: x3 :: x4 :: x5 :: x6 :: x7 :: (some (.val (.int ((n : Nat) : Int)))) :: x9 :: x10 :: x11 :: x12 :: (some (.val (dS ss))) :: (some (.val (.int ((k : Nat) : Int)))) :: x15 :: x16 :: x17 :: x18 :: x19 :: x20 :: x21 :: x22 :: x23 :: x24 :: x25 :: x26 :: x27 :: x28 :: (some (.val (.int ((bd : Nat) : Int)))) :: (some (.lck true (fD fd))) :: x31 :: (some (.val (.int ((p.1 : Nat) : Int)))) :: x33 :: none :: r), ?_, by simp [wipeE]⟩⟩
    · rw [tst]
      simp only [opB, asVar, ev, gt, List.getElem?_cons_zero, List.getElem?_cons_succ, fin2, fetch, Option.map, Sl.d, pr2, dS, a1, ER.bind, rowS, at_row1, cmpD, bl?]
      simp
    · rw [b26_2, ev]
      · simp only [opB, asVar, gt, List.getElem?_cons_zero, List.getElem?_cons_succ, fin2, fetch, Option.map, Sl.d, hi]
theorem lf_comp {bd : Nat} (hb : bd ≤ 1000) {tk : List (Option Nat)} {z34 : Option Sl} {x0 x1 x2 x3 x4 x5 x6 x7 x8 x9 x10 x11 x12 x13 x14 x15 x16 x17 x18 x19 x20 x21 x22 x23 x24 x25 x26 x27 x28 x30 x32 x33 : Option Sl} {r : En} : compL [34] (tgt (callK T G 19) G (.nm 34)) (tst (callK T G 19) G (.cmp .notin (.var 34) (.var 31))) (ev (callK T G 19) G b26_1) (rangeD 0 (bd : Int)) [] (x0 :: x1 :: x2 :: x3 :: x4 :: x5 :: x6 :: x7 :: x8 :: x9 :: x10 :: x11 :: x12 :: x13 :: x14 :: x15 :: x16 :: x17 :: x18 :: x19 :: x20 :: x21 :: x22 :: x23 :: x24 :: x25 :: x26 :: x27 :: x28 :: (some (.val (.int ((bd : Nat) : Int)))) :: x30 :: (some (.own (.lst ((tk).map oI)))) :: x32 :: x33 :: none :: r) = .ok true (.lst ((freeB bd tk).map nI)) (x0 :: x1 :: x2 :: x3 :: x4 :: x5 :: x6 :: x7 :: x8 :: x9 :: x10 :: x11 :: x12 :: x13 :: x14 :: x15 :: x16 :: x17 :: x18 :: x19 :: x20 :: x21 :: x22 :: x23 :: x24 :: x25 :: x26 :: x27 :: x28 :: (some (.val (.int ((bd : Nat) : Int)))) :: x30 :: (some (.own (.lst ((tk).map oI)))) :: x32 :: x33 :: none :: r) := by
  rw [range_0, comp_of (f := nI) (p := fun b => !tk.contains (some b)) (g := nI) (fun b hm => ?_) (by simpa using SZ_big hb), List.nil_append]
  · rfl
  · refine ⟨(x0 :: x1 :: x2 :: x3 :: x4 :: x5 :: x6 :: x7 :: x8 :: x9 :: x10 :: x11 :: x12 :: x13 :: x14 :: x15 :: x16 :: x17 :: x18 :: x19 :: x20 :: x21 :: x22 :: x23 :: x24 :: x25 :: x26 :: x27 :: x28 :: (some (.val (.int ((bd : Nat) : Int)))) :: x30 :: (some (.own (.lst ((tk).map oI)))) :: x32 :: x33 :: (some (.val (.int ((b : Nat) : Int)))) :: r), (x0 :: x1 :: x2 :: x3 :: x4 :: x5 :: x6 :: x7 :: x8 :: x9 :: x10 :: x11 :: x12 :: x13 :: x14 :: x15 :: x16 :: x17 :: x18 :: x19 :: x20 :: x21 :: x22 :: x23 :: x24 :: x25 :: x26 :: x27 :: x28 :: (some (.val (.int ((bd : Nat) : Int)))) :: x30 :: (some (.own (.lst ((tk).map oI)))) :: x32 :: x33 :: (some (.val (.int ((b : Nat) : Int)))) :: r), false, by simp [-List.map_map, execs, exec, evos, evs, args, argV, argD, AR.bind, AR.call, back, ev, tst, opB, truthOf, gt, take, asVar, fin1, fin2, fetch, pr1, pr2, cmpD, bl?, truth, Sl.d, tgt, tgts, tgtOs, tgtO, storeS, locked, Out.only, Out.then, ER.out, ER.bind, ER.test, constOf, isTy, walk, opI, opN, isMut, isLst, lockS, unlockS, unlockAll, rows, IR.for_, IR.comp, IR.calm, calmE, lastPs, lastH, putS, atD, finM, wipeE, nI], ?_, by simp [wipeE], fun _ => ⟨false, (x0 :: x1 :: x2 :: x3 :: x4 :: x5 :: x6 :: x7 :: x8 :: x9 :: x10 :: x11 :: x12 :: x13 :: x14 :: x15 :: x16 :: x17 :: x18 :: x19 :: x20 :: x21 :: x22 :: x23 :: x24 :: x25 :: x26 :: x27 :: x28 :: (some (.val (.int ((bd : Nat) : Int)))) :: x30 :: (some (.own (.lst ((tk).map oI)))) :: x32 :: x33 :: (some (.val (.int ((b : Nat) : Int)))) :: r), by simp [-List.map_map, execs, exec, evos, evs, args, argV, argD, AR.bind, AR.call, back, ev, tst, opB, truthOf, gt, take, asVar, fin1, fin2, fetch, pr1, pr2, cmpD, bl?, truth, Sl.d, tgt, tgts, tgtOs, tgtO, storeS, locked, Out.only, Out.then, ER.out, ER.bind, ER.test, constOf, isTy, walk, opI, opN, isMut, isLst, lockS, unlockS, unlockAll, rows, IR.for_, IR.comp, IR.calm, calmE, lastPs, lastH, putS, atD, finM, b26_1, nI], by simp [wipeE]⟩⟩
    rw [tst]
    simp only [opB, asVar, gt, List.getElem?_cons_zero, List.getElem?_cons_succ, fin2, fetch, Option.map, Sl.d, notin_oI, bl?]
theorem lm_turn {bd n k : Nat} {fd : Fd} (hb : bd ≤ 1000) (hkl : k < ss.length) (hk : Keys fd) (hfd : ∀ p ∈ fd, p.1 < ss.length) (hnk : (gs ss k).1 = n → ∀ p ∈ fd, p.1 ≠ k) (hz : fd.length ≤ 1000) {x0 x1 x2 x3 x4 x5 x6 x7 x9 x10 x11 x12 x15 x16 x17 x18 x19 x20 x21 x22 x23 x24 x25 x26 x27 x28 : Option Sl} {r : En} {x31 x33 : Option Sl} (c31 : Cn x31) (c33 : Cn x33) :
    ∃ y31 y33, Cn y31 ∧ Cn y33 ∧ execs (callK T G 19) G b26_3 (x0 :: x1 :: x2 :: x3 :: x4 :: x5 :: x6 :: x7 :: (some (.val (.int ((n : Nat) : Int)))) :: x9 :: x10 :: x11 :: x12 :: (some (.val (dS ss))) :: (some (.val (.int ((k : Nat) : Int)))) :: x15 :: x16 :: x17 :: x18 :: x19 :: x20 :: x21 :: x22 :: x23 :: x24 :: x25 :: x26 :: x27 :: x28 :: (some (.val (.int ((bd : Nat) : Int)))) :: (some (.own (fD fd))) :: x31 :: none :: x33 :: none :: r) = .nx (x0 :: x1 :: x2 :: x3 :: x4 :: x5 :: x6 :: x7 :: (some (.val (.int ((n : Nat) : Int)))) :: x9 :: x10 :: x11 :: x12 :: (some (.val (dS ss))) :: (some (.val (.int ((k : Nat) : Int)))) :: x15 :: x16 :: x17 :: x18 :: x19 :: x20 :: x21 :: x22 :: x23 :: x24 :: x25 :: x26 :: x27 :: x28 :: (some (.val (.int ((bd : Nat) : Int)))) :: (some (.own (fD (stepQ ss bd n fd k)))) :: y31 :: none :: y33 :: none :: r) := by
  have a1 := at_S hkl
  have hcond : tst (callK T G 19) G (.cmp .eq (.p2 .item (.p2 .item (.var 13) (.var 14)) (.cst (.int 0))) (.var 8)) (x0 :: x1 :: x2 :: x3 :: x4 :: x5 :: x6 :: x7 :: (some (.val (.int ((n : Nat) : Int)))) :: x9 :: x10 :: x11 :: x12 :: (some (.val (dS ss))) :: (some (.val (.int ((k : Nat) : Int)))) :: x15 :: x16 :: x17 :: x18 :: x19 :: x20 :: x21 :: x22 :: x23 :: x24 :: x25 :: x26 :: x27 :: x28 :: (some (.val (.int ((bd : Nat) : Int)))) :: (some (.own (fD fd))) :: x31 :: none :: x33 :: none :: r) = .ok false (.bl (decide ((gs ss k).1 = n))) (x0 :: x1 :: x2 :: x3 :: x4 :: x5 :: x6 :: x7 :: (some (.val (.int ((n : Nat) : Int)))) :: x9 :: x10 :: x11 :: x12 :: (some (.val (dS ss))) :: (some (.val (.int ((k : Nat) : Int)))) :: x15 :: x16 :: x17 :: x18 :: x19 :: x20 :: x21 :: x22 :: x23 :: x24 :: x25 :: x26 :: x27 :: x28 :: (some (.val (.int ((bd : Nat) : Int)))) :: (some (.own (fD fd))) :: x31 :: none :: x33 :: none :: r) := by
    have e3 : (((gs ss k).1 : Int) == (n : Int)) = decide ((gs ss k).1 = n) := by
      by_cases h : (gs ss k).1 = n
      · simp [h]
      · have : ¬ ((gs ss k).1 : Int) = (n : Int) := by omega
        have e1 : (((gs ss k).1 : Int) == (n : Int)) = false := by simpa only [beq_eq_false_iff_ne, ne_eq] using this
        rw [e1]
        simp [h]
    rw [tst]
    simp only [opB, asVar, ev, gt, List.getElem?_cons_zero, List.getElem?_cons_succ, fin2, fetch, Option.map, Sl.d, pr2, dS, a1, ER.bind, rowS, at_row0, cmpD, plain, Bool.and_self, if_true, eqv, e3, bl?]
  by_cases h : (gs ss k).1 = n
  · refine ⟨(some (.own (.lst (((takenQ ss fd n)).map oI)))), (some (.own (.lst (((freeB bd (takenQ ss fd n))).map nI)))), .inr (.inr ⟨_, rfl⟩), .inr (.inr ⟨_, rfl⟩), ?_⟩
    have hs : fd.length < SZ := Nat.lt_of_le_of_lt hz (by decide)
    have e1 : stepQ ss bd n fd k = fd ++ [(k, (freeB bd (takenQ ss fd n)).head?)] := by unfold stepQ; rw [if_pos h]; rfl
    have s1 : exec (callK T G 19) G (.asg (.nm 31) (.lcd b26_2 (.nm 32) 30 false (some (.cmp .ge (.p2 .item (.p2 .item (.var 13) (.var 32)) (.cst (.int 1))) (.var 8))) [32])) (x0 :: x1 :: x2 :: x3 :: x4 :: x5 :: x6 :: x7 :: (some (.val (.int ((n : Nat) : Int)))) :: x9 :: x10 :: x11 :: x12 :: (some (.val (dS ss))) :: (some (.val (.int ((k : Nat) : Int)))) :: x15 :: x16 :: x17 :: x18 :: x19 :: x20 :: x21 :: x22 :: x23 :: x24 :: x25 :: x26 :: x27 :: x28 :: (some (.val (.int ((bd : Nat) : Int)))) :: (some (.own (fD fd))) :: x31 :: none :: x33 :: none :: r) = .nx (x0 :: x1 :: x2 :: x3 :: x4 :: x5 :: x6 :: x7 :: (some (.val (.int ((n : Nat) : Int)))) :: x9 :: x10 :: x11 :: x12 :: (some (.val (dS ss))) :: (some (.val (.int ((k : Nat) : Int)))) :: x15 :: x16 :: x17 :: x18 :: x19 :: x20 :: x21 :: x22 :: x23 :: x24 :: x25 :: x26 :: x27 :: x28 :: (some (.val (.int ((bd : Nat) : Int)))) :: (some (.own (fD fd))) :: (some (.own (.lst (((takenQ ss fd n)).map oI)))) :: none :: x33 :: none :: r) := by
      have hc := lt_comp (bd := bd) (n := n) (k := k) hk hfd hz (x0 := x0) (x1 := x1) (x2 := x2) (x3 := x3) (x4 := x4) (x5 := x5) (x6 := x6) (x7 := x7) (x9 := x9) (x10 := x10) (x11 := x11) (x12 := x12) (x15 := x15) (x16 := x16) (x17 := x17) (x18 := x18) (x19 := x19) (x20 := x20) (x21 := x21) (x22 := x22) (x23 := x23) (x24 := x24) (x25 := x25) (x26 := x26) (x27 := x27) (x28 := x28) (r := r) (x31 := x31) (x33 := x33)
      rw [exec, ev]
      simp only [dkAt, gt, List.getElem?_cons_zero, List.getElem?_cons_succ, fD, rowsK, Bool.false_eq_true, if_false, keys_fd, lockS, List.set_cons_succ, List.set_cons_zero, IR.comp, calmE, List.all_cons, List.all_nil, Bool.and_self, if_true]
      rw [← fD, hc]
      rcases c31 with rfl | ⟨d, rfl⟩ | ⟨d, rfl⟩ <;> simp [-List.map_map, restE, unlockAll, ER.unl, unlockS, gt, ER.out, tgtO, storeS, locked, Out.only]
    have s2 : exec (callK T G 19) G (.asg (.nm 33) (.lc b26_1 (.nm 34) (.range1 (.var 29)) (some (.cmp .notin (.var 34) (.var 31))) [34])) (x0 :: x1 :: x2 :: x3 :: x4 :: x5 :: x6 :: x7 :: (some (.val (.int ((n : Nat) : Int)))) :: x9 :: x10 :: x11 :: x12 :: (some (.val (dS ss))) :: (some (.val (.int ((k : Nat) : Int)))) :: x15 :: x16 :: x17 :: x18 :: x19 :: x20 :: x21 :: x22 :: x23 :: x24 :: x25 :: x26 :: x27 :: x28 :: (some (.val (.int ((bd : Nat) : Int)))) :: (some (.own (fD fd))) :: (some (.own (.lst (((takenQ ss fd n)).map oI)))) :: none :: x33 :: none :: r) = .nx (x0 :: x1 :: x2 :: x3 :: x4 :: x5 :: x6 :: x7 :: (some (.val (.int ((n : Nat) : Int)))) :: x9 :: x10 :: x11 :: x12 :: (some (.val (dS ss))) :: (some (.val (.int ((k : Nat) : Int)))) :: x15 :: x16 :: x17 :: x18 :: x19 :: x20 :: x21 :: x22 :: x23 :: x24 :: x25 :: x26 :: x27 :: x28 :: (some (.val (.int ((bd : Nat) : Int)))) :: (some (.own (fD fd))) :: (some (.own (.lst (((takenQ ss fd n)).map oI)))) :: none :: (some (.own (.lst (((freeB bd (takenQ ss fd n))).map nI)))) :: none :: r) := by
      have hc := lf_comp hb (tk := takenQ ss fd n) (z34 := none) (x0 := x0) (x1 := x1) (x2 := x2) (x3 := x3) (x4 := x4) (x5 := x5) (x6 := x6) (x7 := x7) (x8 := (some (.val (.int ((n : Nat) : Int))))) (x9 := x9) (x10 := x10) (x11 := x11) (x12 := x12) (x13 := (some (.val (dS ss)))) (x14 := (some (.val (.int ((k : Nat) : Int))))) (x15 := x15) (x16 := x16) (x17 := x17) (x18 := x18) (x19 := x19) (x20 := x20) (x21 := x21) (x22 := x22) (x23 := x23) (x24 := x24) (x25 := x25) (x26 := x26) (x27 := x27) (x28 := x28) (x30 := (some (.own (fD fd)))) (x32 := none) (x33 := x33) (r := r)
      have hg : rgOk 0 (bd : Int) = true := by simp [rgOk]; omega
      rw [exec, ev, walk]
      simp only [opN, ev.eq_2, take, gt, List.getElem?_cons_zero, List.getElem?_cons_succ, hg, if_true, IR.comp, calmE, List.all_cons, List.all_nil, Bool.and_self, hc]
      rcases c33 with rfl | ⟨d, rfl⟩ | ⟨d, rfl⟩ <;> simp [-List.map_map, restE, unlockAll, ER.out, tgtO, storeS, locked, gt, Out.only]
    have s3 : exec (callK T G 19) G (.asg (.sub 30 (.var 14)) (.ifx (.cmp .ne (.var 33) (.lst .nil)) (.p2 .item (.var 33) (.cst (.int 0))) (.cst .non))) (x0 :: x1 :: x2 :: x3 :: x4 :: x5 :: x6 :: x7 :: (some (.val (.int ((n : Nat) : Int)))) :: x9 :: x10 :: x11 :: x12 :: (some (.val (dS ss))) :: (some (.val (.int ((k : Nat) : Int)))) :: x15 :: x16 :: x17 :: x18 :: x19 :: x20 :: x21 :: x22 :: x23 :: x24 :: x25 :: x26 :: x27 :: x28 :: (some (.val (.int ((bd : Nat) : Int)))) :: (some (.own (fD fd))) :: (some (.own (.lst (((takenQ ss fd n)).map oI)))) :: none :: (some (.own (.lst (((freeB bd (takenQ ss fd n))).map nI)))) :: none :: r) = .nx (x0 :: x1 :: x2 :: x3 :: x4 :: x5 :: x6 :: x7 :: (some (.val (.int ((n : Nat) : Int)))) :: x9 :: x10 :: x11 :: x12 :: (some (.val (dS ss))) :: (some (.val (.int ((k : Nat) : Int)))) :: x15 :: x16 :: x17 :: x18 :: x19 :: x20 :: x21 :: x22 :: x23 :: x24 :: x25 :: x26 :: x27 :: x28 :: (some (.val (.int ((bd : Nat) : Int)))) :: (some (.own (fD (fd ++ [(k, (freeB bd (takenQ ss fd n)).head?)])))) :: (some (.own (.lst (((takenQ ss fd n)).map oI)))) :: none :: (some (.own (.lst (((freeB bd (takenQ ss fd n))).map nI)))) :: none :: r) := by
      have hp := put_fd (v := (freeB bd (takenQ ss fd n)).head?) (hnk h) hs
      rw [exec, ev, tst]
      simp only [opB, asVar, gt, List.getElem?_cons_zero, List.getElem?_cons_succ, ev.eq_17, evs, AR.call, back, List.map_nil, ER.bind, fin2, fetch, Option.map, Sl.d, ne_nil, bl?, ER.test]
      cases hq : freeB bd (takenQ ss fd n) with
      | nil =>
        rw [hq] at hp
        simp only [List.head?_nil] at hp ⊢
        simp only [List.isEmpty_nil, Bool.not_true, Bool.false_eq_true, if_false, ev.eq_1, ER.out, tgtO, tgt, gt, opB, asVar, List.getElem?_cons_zero, List.getElem?_cons_succ, Option.isNone, fin1, fetch, Option.map, Sl.d]
        rw [show (D.non) = oI none from rfl, hp]
        rfl
      | cons b fb =>
        rw [hq] at hp
        simp only [List.head?_cons] at hp ⊢
        simp only [List.isEmpty_cons, Bool.not_false, if_true, ev, ER.bind, fin2, pr2, show atD ((b :: fb).map nI) 0 = some (nI b) from rfl, ER.out, tgtO, tgt, gt, opB, asVar, List.getElem?_cons_zero, List.getElem?_cons_succ, Option.isNone, fin1, fetch, Option.map, Sl.d]
        rw [show nI b = oI (some b) from rfl, hp]
        rfl
    rw [e1, b26_3, execs_nx (E1 := (x0 :: x1 :: x2 :: x3 :: x4 :: x5 :: x6 :: x7 :: (some (.val (.int ((n : Nat) : Int)))) :: x9 :: x10 :: x11 :: x12 :: (some (.val (dS ss))) :: (some (.val (.int ((k : Nat) : Int)))) :: x15 :: x16 :: x17 :: x18 :: x19 :: x20 :: x21 :: x22 :: x23 :: x24 :: x25 :: x26 :: x27 :: x28 :: (some (.val (.int ((bd : Nat) : Int)))) :: (some (.own (fD (fd ++ [(k, (freeB bd (takenQ ss fd n)).head?)])))) :: (some (.own (.lst (((takenQ ss fd n)).map oI)))) :: none :: (some (.own (.lst (((freeB bd (takenQ ss fd n))).map nI)))) :: none :: r)), execs_end]
    rw [exec_ite hcond, if_pos (by simpa using h), execs_nx s1, execs_nx s2, execs_nx s3, execs_end]
  · refine ⟨x31, x33, c31, c33, ?_⟩
    have e1 : stepQ ss bd n fd k = fd := by unfold stepQ; rw [if_neg h]
    rw [e1, b26_3, execs_nx (E1 := (x0 :: x1 :: x2 :: x3 :: x4 :: x5 :: x6 :: x7 :: (some (.val (.int ((n : Nat) : Int)))) :: x9 :: x10 :: x11 :: x12 :: (some (.val (dS ss))) :: (some (.val (.int ((k : Nat) : Int)))) :: x15 :: x16 :: x17 :: x18 :: x19 :: x20 :: x21 :: x22 :: x23 :: x24 :: x25 :: x26 :: x27 :: x28 :: (some (.val (.int ((bd : Nat) : Int)))) :: (some (.own (fD fd))) :: x31 :: none :: x33 :: none :: r)), execs_end]
    rw [exec_ite hcond, if_neg (by simpa using h), execs_end]
end
end Law
namespace Law
open Rx
section
variable {ss : Sy}
theorem q_keys {bd n k : Nat} {fd : Fd} (h : Keys fd) (hn : (gs ss k).1 = n → ∀ p ∈ fd, p.1 ≠ k) : Keys (stepQ ss bd n fd k) := by
  unfold stepQ
  split
  · rename_i e
    unfold Keys
    rw [List.map_append, List.nodup_append]
    refine ⟨h, by simp, fun a ha b hb => ?_⟩
    simp only [List.map_cons, List.map_nil, List.mem_singleton] at hb
    subst hb
    obtain ⟨p, hp, rfl⟩ := List.mem_map.mp ha
    exact hn e p hp
  · exact h
theorem q_len {bd n k : Nat} {fd : Fd} : (stepQ ss bd n fd k).length ≤ fd.length + 1 := by
  unfold stepQ
  split <;> simp
theorem q_sub {bd n k : Nat} {fd : Fd} (hk : k < ss.length) (h : ∀ p ∈ fd, p.1 < ss.length ∧ ((gs ss p.1).1 < n ∨ ((gs ss p.1).1 = n ∧ p.1 < k))) : ∀ p ∈ stepQ ss bd n fd k, p.1 < ss.length ∧ ((gs ss p.1).1 < n ∨ ((gs ss p.1).1 = n ∧ p.1 < k + 1)) := by
  intro p hp
  unfold stepQ at hp
  split at hp
  · rename_i e
    rcases List.mem_append.mp hp with hp | hp
    · have := h p hp; omega
    · simp only [List.mem_singleton] at hp
      subst hp
      exact ⟨hk, .inr ⟨e, by dsimp only; omega⟩⟩
  · have := h p hp; omega
theorem lm_inner {bd n : Nat} (hb : bd ≤ 1000) {x0 x1 x2 x3 x4 x5 x6 x7 x9 x10 x11 x12 x15 x16 x17 x18 x19 x20 x21 x22 x23 x24 x25 x26 x27 x28 : Option Sl} {r : En} : ∀ (m i : Nat) (fd : Fd) (x14 x31 x33 : Option Sl), i + m = ss.length → Keys fd → (∀ p ∈ fd, p.1 < ss.length ∧ ((gs ss p.1).1 < n ∨ ((gs ss p.1).1 = n ∧ p.1 < i))) → fd.length + m ≤ 1000 → Cm x14 → Cn x31 → Cn x33 →
    ∃ y14 y31 y33, Cm y14 ∧ Cn y31 ∧ Cn y33 ∧ Keys ((List.range' i m).foldl (stepQ ss bd n) fd) ∧ (∀ p ∈ (List.range' i m).foldl (stepQ ss bd n) fd, p.1 < ss.length ∧ (gs ss p.1).1 < n + 1) ∧ ((List.range' i m).foldl (stepQ ss bd n) fd).length ≤ fd.length + m ∧
      forL (tgt (callK T G 19) G (.nm 14)) (execs (callK T G 19) G b26_3) ((List.range' i m).map nI) (x0 :: x1 :: x2 :: x3 :: x4 :: x5 :: x6 :: x7 :: (some (.val (.int ((n : Nat) : Int)))) :: x9 :: x10 :: x11 :: x12 :: (some (.val (dS ss))) :: x14 :: x15 :: x16 :: x17 :: x18 :: x19 :: x20 :: x21 :: x22 :: x23 :: x24 :: x25 :: x26 :: x27 :: x28 :: (some (.val (.int ((bd : Nat) : Int)))) :: (some (.own (fD fd))) :: x31 :: none :: x33 :: none :: r) = .nx (x0 :: x1 :: x2 :: x3 :: x4 :: x5 :: x6 :: x7 :: (some (.val (.int ((n : Nat) : Int)))) :: x9 :: x10 :: x11 :: x12 :: (some (.val (dS ss))) :: y14 :: x15 :: x16 :: x17 :: x18 :: x19 :: x20 :: x21 :: x22 :: x23 :: x24 :: x25 :: x26 :: x27 :: x28 :: (some (.val (.int ((bd : Nat) : Int)))) :: (some (.own (fD ((List.range' i m).foldl (stepQ ss bd n) fd)))) :: y31 :: none :: y33 :: none :: r)
  | 0, i, fd, x14, x31, x33, hi, hk, hs, hz, c14, c31, c33 => ⟨x14, x31, x33, c14, c31, c33, hk, fun p hp => by have := hs p hp; omega, by simp, by simp [forL]⟩
  | m + 1, i, fd, x14, x31, x33, hi, hk, hs, hz, c14, c31, c33 => by
    have hne : (gs ss i).1 = n → ∀ p ∈ fd, p.1 ≠ i := fun h p hp e => by have := hs p hp; rw [e] at this; omega
    have g1 : tgt (callK T G 19) G (.nm 14) (nI i) (x0 :: x1 :: x2 :: x3 :: x4 :: x5 :: x6 :: x7 :: (some (.val (.int ((n : Nat) : Int)))) :: x9 :: x10 :: x11 :: x12 :: (some (.val (dS ss))) :: x14 :: x15 :: x16 :: x17 :: x18 :: x19 :: x20 :: x21 :: x22 :: x23 :: x24 :: x25 :: x26 :: x27 :: x28 :: (some (.val (.int ((bd : Nat) : Int)))) :: (some (.own (fD fd))) :: x31 :: none :: x33 :: none :: r) = .nx (x0 :: x1 :: x2 :: x3 :: x4 :: x5 :: x6 :: x7 :: (some (.val (.int ((n : Nat) : Int)))) :: x9 :: x10 :: x11 :: x12 :: (some (.val (dS ss))) :: (some (.val (.int ((i : Nat) : Int)))) :: x15 :: x16 :: x17 :: x18 :: x19 :: x20 :: x21 :: x22 :: x23 :: x24 :: x25 :: x26 :: x27 :: x28 :: (some (.val (.int ((bd : Nat) : Int)))) :: (some (.own (fD fd))) :: x31 :: none :: x33 :: none :: r) := by
      rcases c14 with rfl | ⟨d, rfl⟩ <;> simp [-List.map_map, execs, exec, evos, evs, args, argV, argD, AR.bind, AR.call, back, ev, tst, opB, truthOf, gt, take, asVar, fin1, fin2, fetch, pr1, pr2, cmpD, bl?, truth, Sl.d, tgt, tgts, tgtOs, tgtO, storeS, locked, Out.only, Out.then, ER.out, ER.bind, ER.test, constOf, isTy, walk, opI, opN, isMut, isLst, lockS, unlockS, unlockAll, rows, IR.for_, IR.comp, IR.calm, calmE, lastPs, lastH, putS, atD, finM, nI]
    obtain ⟨z31, z33, d31, d33, g2⟩ := lm_turn (ss := ss) (bd := bd) (n := n) (k := i) hb (by omega) hk (fun p hp => (hs p hp).1) hne (by omega) (x0 := x0) (x1 := x1) (x2 := x2) (x3 := x3) (x4 := x4) (x5 := x5) (x6 := x6) (x7 := x7) (x9 := x9) (x10 := x10) (x11 := x11) (x12 := x12) (x15 := x15) (x16 := x16) (x17 := x17) (x18 := x18) (x19 := x19) (x20 := x20) (x21 := x21) (x22 := x22) (x23 := x23) (x24 := x24) (x25 := x25) (x26 := x26) (x27 := x27) (x28 := x28) (r := r) c31 c33
    have hl := q_len (ss := ss) (bd := bd) (n := n) (k := i) (fd := fd)
    obtain ⟨y14, y31, y33, e14, e31, e33, k1, k2, k3, g⟩ := lm_inner hb (x0 := x0) (x1 := x1) (x2 := x2) (x3 := x3) (x4 := x4) (x5 := x5) (x6 := x6) (x7 := x7) (x9 := x9) (x10 := x10) (x11 := x11) (x12 := x12) (x15 := x15) (x16 := x16) (x17 := x17) (x18 := x18) (x19 := x19) (x20 := x20) (x21 := x21) (x22 := x22) (x23 := x23) (x24 := x24) (x25 := x25) (x26 := x26) (x27 := x27) (x28 := x28) (r := r) m (i + 1) (stepQ ss bd n fd i) (some (.val (.int ((i : Nat) : Int)))) z31 z33 (by omega) (q_keys hk hne) (q_sub (by omega) hs) (by omega) (.inr ⟨_, rfl⟩) d31 d33
    refine ⟨y14, y31, y33, e14, e31, e33, k1, k2, ?_, ?_⟩
    · rw [List.range'_succ, List.foldl_cons]; omega
    · rw [List.range'_succ, List.map_cons, forL_cons g1 g2, g]; rfl
theorem lm_outer {bd : Nat} (hb : bd ≤ 1000) (hl : ss.length ≤ 6) {x0 x1 x2 x3 x4 x5 x6 x7 x9 x10 x11 x12 x15 x16 x17 x18 x19 x20 x21 x22 x23 x24 x25 x26 x27 x28 : Option Sl} {r : En} : ∀ (m n : Nat) (fd : Fd) (x8 x14 x31 x33 : Option Sl), Keys fd → (∀ p ∈ fd, p.1 < ss.length ∧ (gs ss p.1).1 < n) → fd.length + m * 6 ≤ 1000 → Cm x8 → Cm x14 → Cn x31 → Cn x33 →
    ∃ y8 y14 y31 y33, Cm y14 ∧ forL (tgt (callK T G 19) G (.nm 8)) (execs (callK T G 19) G b26_4) ((List.range' n m).map nI) (x0 :: x1 :: x2 :: x3 :: x4 :: x5 :: x6 :: x7 :: x8 :: x9 :: x10 :: x11 :: x12 :: (some (.val (dS ss))) :: x14 :: x15 :: x16 :: x17 :: x18 :: x19 :: x20 :: x21 :: x22 :: x23 :: x24 :: x25 :: x26 :: x27 :: x28 :: (some (.val (.int ((bd : Nat) : Int)))) :: (some (.own (fD fd))) :: x31 :: none :: x33 :: none :: r) = .nx (x0 :: x1 :: x2 :: x3 :: x4 :: x5 :: x6 :: x7 :: y8 :: x9 :: x10 :: x11 :: x12 :: (some (.val (dS ss))) :: y14 :: x15 :: x16 :: x17 :: x18 :: x19 :: x20 :: x21 :: x22 :: x23 :: x24 :: x25 :: x26 :: x27 :: x28 :: (some (.val (.int ((bd : Nat) : Int)))) :: (some (.own (fD ((List.range' n m).foldl (fun fd n => (List.range ss.length).foldl (stepQ ss bd n) fd) fd)))) :: y31 :: none :: y33 :: none :: r)
  | 0, n, fd, x8, x14, x31, x33, hk, hs, hz, c8, c14, c31, c33 => ⟨x8, x14, x31, x33, c14, by simp [forL]⟩
  | m + 1, n, fd, x8, x14, x31, x33, hk, hs, hz, c8, c14, c31, c33 => by
    rw [Nat.succ_mul] at hz
    have g1 : tgt (callK T G 19) G (.nm 8) (nI n) (x0 :: x1 :: x2 :: x3 :: x4 :: x5 :: x6 :: x7 :: x8 :: x9 :: x10 :: x11 :: x12 :: (some (.val (dS ss))) :: x14 :: x15 :: x16 :: x17 :: x18 :: x19 :: x20 :: x21 :: x22 :: x23 :: x24 :: x25 :: x26 :: x27 :: x28 :: (some (.val (.int ((bd : Nat) : Int)))) :: (some (.own (fD fd))) :: x31 :: none :: x33 :: none :: r) = .nx (x0 :: x1 :: x2 :: x3 :: x4 :: x5 :: x6 :: x7 :: (some (.val (.int ((n : Nat) : Int)))) :: x9 :: x10 :: x11 :: x12 :: (some (.val (dS ss))) :: x14 :: x15 :: x16 :: x17 :: x18 :: x19 :: x20 :: x21 :: x22 :: x23 :: x24 :: x25 :: x26 :: x27 :: x28 :: (some (.val (.int ((bd : Nat) : Int)))) :: (some (.own (fD fd))) :: x31 :: none :: x33 :: none :: r) := by
      rcases c8 with rfl | ⟨d, rfl⟩ <;> simp [-List.map_map, execs, exec, evos, evs, args, argV, argD, AR.bind, AR.call, back, ev, tst, opB, truthOf, gt, take, asVar, fin1, fin2, fetch, pr1, pr2, cmpD, bl?, truth, Sl.d, tgt, tgts, tgtOs, tgtO, storeS, locked, Out.only, Out.then, ER.out, ER.bind, ER.test, constOf, isTy, walk, opI, opN, isMut, isLst, lockS, unlockS, unlockAll, rows, IR.for_, IR.comp, IR.calm, calmE, lastPs, lastH, putS, atD, finM, nI]
    obtain ⟨z14, z31, z33, d14, d31, d33, k1, k2, k3, g⟩ := lm_inner (ss := ss) (bd := bd) (n := n) hb (x0 := x0) (x1 := x1) (x2 := x2) (x3 := x3) (x4 := x4) (x5 := x5) (x6 := x6) (x7 := x7) (x9 := x9) (x10 := x10) (x11 := x11) (x12 := x12) (x15 := x15) (x16 := x16) (x17 := x17) (x18 := x18) (x19 := x19) (x20 := x20) (x21 := x21) (x22 := x22) (x23 := x23) (x24 := x24) (x25 := x25) (x26 := x26) (x27 := x27) (x28 := x28) (r := r) ss.length 0 fd x14 x31 x33 (by omega) hk (fun p hp => by have := hs p hp; omega) (by omega) c14 c31 c33
    have hg : rgOk 0 (ss.length : Int) = true := by simp [rgOk]; omega
    have g2 : execs (callK T G 19) G b26_4 (x0 :: x1 :: x2 :: x3 :: x4 :: x5 :: x6 :: x7 :: (some (.val (.int ((n : Nat) : Int)))) :: x9 :: x10 :: x11 :: x12 :: (some (.val (dS ss))) :: x14 :: x15 :: x16 :: x17 :: x18 :: x19 :: x20 :: x21 :: x22 :: x23 :: x24 :: x25 :: x26 :: x27 :: x28 :: (some (.val (.int ((bd : Nat) : Int)))) :: (some (.own (fD fd))) :: x31 :: none :: x33 :: none :: r) = .nx (x0 :: x1 :: x2 :: x3 :: x4 :: x5 :: x6 :: x7 :: (some (.val (.int ((n : Nat) : Int)))) :: x9 :: x10 :: x11 :: x12 :: (some (.val (dS ss))) :: z14 :: x15 :: x16 :: x17 :: x18 :: x19 :: x20 :: x21 :: x22 :: x23 :: x24 :: x25 :: x26 :: x27 :: x28 :: (some (.val (.int ((bd : Nat) : Int)))) :: (some (.own (fD ((List.range' 0 ss.length).foldl (stepQ ss bd n) fd)))) :: z31 :: none :: z33 :: none :: r) := by
      rw [b26_4, execs_nx, execs_end]
      rw [exec, walk, ev]
      · simp only [opN, opB, asVar, gt, List.getElem?_cons_zero, List.getElem?_cons_succ, fin1, fetch, Option.map, Sl.d, dS, pr1, List.length_map, hg, if_true, IR.for_, range_0]
        rw [List.range_eq_range', ← dS, g]
        rfl
    obtain ⟨y8, y14, y31, y33, e14, i⟩ := lm_outer hb hl (x0 := x0) (x1 := x1) (x2 := x2) (x3 := x3) (x4 := x4) (x5 := x5) (x6 := x6) (x7 := x7) (x9 := x9) (x10 := x10) (x11 := x11) (x12 := x12) (x15 := x15) (x16 := x16) (x17 := x17) (x18 := x18) (x19 := x19) (x20 := x20) (x21 := x21) (x22 := x22) (x23 := x23) (x24 := x24) (x25 := x25) (x26 := x26) (x27 := x27) (x28 := x28) (r := r) m (n + 1) ((List.range' 0 ss.length).foldl (stepQ ss bd n) fd) (some (.val (.int ((n : Nat) : Int)))) z14 z31 z33 k1 k2 (by omega) (.inr ⟨_, rfl⟩) d14 d31 d33
    refine ⟨y8, y14, y31, y33, e14, ?_⟩
    rw [List.range'_succ, List.map_cons, forL_cons g1 g2, i, List.foldl_cons, List.range_eq_range']
theorem s_moved (hs : SyOk ss) (hl : ss.length ≤ 6) {bd : Nat} (hb : bd ≤ 3) {x0 x1 x2 x3 x4 x5 x6 x7 x9 x10 x11 x12 x15 x16 x17 x18 x19 x20 x21 x22 x23 x24 x25 x26 x27 x28 : Option Sl} {r : En} {x14 : Option Sl} (c14 : Cm x14) : ∃ y8 y14 y31 y33, Cm y14 ∧ exec (callK T G 19) G (.for_ (.nm 8) (.range1 (.cst (.int 30))) b26_4) (x0 :: x1 :: x2 :: x3 :: x4 :: x5 :: x6 :: x7 :: none :: x9 :: x10 :: x11 :: x12 :: (some (.val (dS ss))) :: x14 :: x15 :: x16 :: x17 :: x18 :: x19 :: x20 :: x21 :: x22 :: x23 :: x24 :: x25 :: x26 :: x27 :: x28 :: (some (.val (.int ((bd : Nat) : Int)))) :: (some (.own (fD []))) :: none :: none :: none :: none :: r) = .nx (x0 :: x1 :: x2 :: x3 :: x4 :: x5 :: x6 :: x7 :: y8 :: x9 :: x10 :: x11 :: x12 :: (some (.val (dS ss))) :: y14 :: x15 :: x16 :: x17 :: x18 :: x19 :: x20 :: x21 :: x22 :: x23 :: x24 :: x25 :: x26 :: x27 :: x28 :: (some (.val (.int ((bd : Nat) : Int)))) :: (some (.own (fD (movedF ss bd)))) :: y31 :: none :: y33 :: none :: r) := by
  obtain ⟨y8, y14, y31, y33, e14, i⟩ := lm_outer (ss := ss) (bd := bd) (by omega) hl (x0 := x0) (x1 := x1) (x2 := x2) (x3 := x3) (x4 := x4) (x5 := x5) (x6 := x6) (x7 := x7) (x9 := x9) (x10 := x10) (x11 := x11) (x12 := x12) (x15 := x15) (x16 := x16) (x17 := x17) (x18 := x18) (x19 := x19) (x20 := x20) (x21 := x21) (x22 := x22) (x23 := x23) (x24 := x24) (x25 := x25) (x26 := x26) (x27 := x27) (x28 := x28) (r := r) 30 0 [] none x14 none none (by unfold Keys; simp) (fun p hp => by cases hp) (by simp) (.inl rfl) c14 (.inl rfl) (.inl rfl)
  refine ⟨y8, y14, y31, y33, e14, ?_⟩
  rw [law_moved hs.ok] at i
  rw [exec, walk]
  simp only [opN, ev.eq_1, show rgOk 0 30 = true from rfl, if_true, IR.for_]
  rw [show rangeD 0 30 = (List.range' 0 30).map nI from by rw [← List.range_eq_range']; exact range_0 (m := 30), i]
  rfl
theorem eq_moved {bd : Nat} : cmpD G .eq (movedD ss bd) (movedD ss bd) = some true := by
  have e : cmpD G .eq (movedD ss bd) (movedD ss bd) = (if (plain DP (movedD ss bd) && plain DP (movedD ss bd)) = true then some (eqv (movedD ss bd) (movedD ss bd)) else none) := rfl
  have h1 : ∀ l : List Nat, plains 39 (l.map fun k => oI (lookF (movedF ss bd) k)) = true := fun l => by
    induction l with
    | nil => rfl
    | cons a l ih =>
      rw [List.map_cons, plains, ih]
      cases lookF (movedF ss bd) a <;> rfl
  have h2 : ∀ l : List Nat, eqvs (l.map fun k => oI (lookF (movedF ss bd) k)) (l.map fun k => oI (lookF (movedF ss bd) k)) = true := fun l => by
    induction l with
    | nil => rfl
    | cons a l ih =>
      rw [List.map_cons, eqvs, ih]
      cases lookF (movedF ss bd) a <;> simp [oI, eqv]
  have p1 : plain DP (movedD ss bd) = true := h1 _
  have p2 : eqv (movedD ss bd) (movedD ss bd) = true := h2 _
  rw [e, p1, p2]
  rfl
theorem s_ret (hs : SyOk ss) (hl : ss.length ≤ 6) {bd : Nat} (hb : bd ≤ 3) {x0 x1 x2 x3 x4 x5 x6 x7 x8 x9 x10 x11 x12 x15 x16 x17 x18 x19 x20 x21 x22 x23 x24 x25 x26 x27 x28 x31 x32 x33 x34 : Option Sl} {r : En} {x14 : Option Sl} (c14 : Cm x14) : exec (callK T G 19) G (.ret (.and (.cmp .eq (.call 17 (.cons (.var 13) (.cons (.var 29) .nil))) (.p1 .tupleOf (.lc b26_0 (.nm 14) (.range1 (.p1 .len (.var 13))) none [14]))) (.one (.isinst (.call 17 (.cons (.var 13) (.cons (.var 29) .nil))) "tuple")))) (x0 :: x1 :: x2 :: x3 :: x4 :: x5 :: x6 :: x7 :: x8 :: x9 :: x10 :: x11 :: x12 :: (some (.val (dS ss))) :: x14 :: x15 :: x16 :: x17 :: x18 :: x19 :: x20 :: x21 :: x22 :: x23 :: x24 :: x25 :: x26 :: x27 :: x28 :: (some (.val (.int ((bd : Nat) : Int)))) :: (some (.own (fD (movedF ss bd)))) :: x31 :: x32 :: x33 :: x34 :: r) = .rt false (.bl true) (x0 :: x1 :: x2 :: x3 :: x4 :: x5 :: x6 :: x7 :: x8 :: x9 :: x10 :: x11 :: x12 :: (some (.val (dS ss))) :: x14 :: x15 :: x16 :: x17 :: x18 :: x19 :: x20 :: x21 :: x22 :: x23 :: x24 :: x25 :: x26 :: x27 :: x28 :: (some (.val (.int ((bd : Nat) : Int)))) :: (some (.own (fD (movedF ss bd)))) :: x31 :: x32 :: x33 :: x34 :: r) := by
  have q1 : (callK T G 19) 17 [.val (dS ss), .val (.int (bd : Nat))] = _ := c_moved (k := 17) hs.ear (by omega) (by omega)
  have hc : compL [14] (tgt (callK T G 19) G (.nm 14)) (fun E => .ok false (.bl true) E) (ev (callK T G 19) G b26_0) (rangeD 0 (ss.length : Int)) [] (x0 :: x1 :: x2 :: x3 :: x4 :: x5 :: x6 :: x7 :: x8 :: x9 :: x10 :: x11 :: x12 :: (some (.val (dS ss))) :: x14 :: x15 :: x16 :: x17 :: x18 :: x19 :: x20 :: x21 :: x22 :: x23 :: x24 :: x25 :: x26 :: x27 :: x28 :: (some (.val (.int ((bd : Nat) : Int)))) :: (some (.own (fD (movedF ss bd)))) :: x31 :: x32 :: x33 :: x34 :: r) = .ok true (.lst ((List.range ss.length).map fun k => oI (lookF (movedF ss bd) k))) (x0 :: x1 :: x2 :: x3 :: x4 :: x5 :: x6 :: x7 :: x8 :: x9 :: x10 :: x11 :: x12 :: (some (.val (dS ss))) :: none :: x15 :: x16 :: x17 :: x18 :: x19 :: x20 :: x21 :: x22 :: x23 :: x24 :: x25 :: x26 :: x27 :: x28 :: (some (.val (.int ((bd : Nat) : Int)))) :: (some (.own (fD (movedF ss bd)))) :: x31 :: x32 :: x33 :: x34 :: r) := by
    rw [range_0, comp_all (f := nI) (g := fun k => oI (lookF (movedF ss bd) k)) (fun j hj => ?_) (by simpa using SZ_big (by omega))]
    · rfl
    · have hi := pr_item (moved_keys (bd := bd) hs.ear (List.mem_range.mp hj))
      refine ⟨(x0 :: x1 :: x2 :: x3 :: x4 :: x5 :: x6 :: x7 :: x8 :: x9 :: x10 :: x11 :: x12 :: (some (.val (dS ss))) :: (some (.val (.int ((j : Nat) : Int)))) :: x15 :: x16 :: x17 :: x18 :: x19 :: x20 :: x21 :: x22 :: x23 :: x24 :: x25 :: x26 :: x27 :: x28 :: (some (.val (.int ((bd : Nat) : Int)))) :: (some (.own (fD (movedF ss bd)))) :: x31 :: x32 :: x33 :: x34 :: r), false, (x0 :: x1 :: x2 :: x3 :: x4 :: x5 :: x6 :: x7 :: x8 :: x9 :: x10 :: x11 :: x12 :: (some (.val (dS ss))) :: (some (.val (.int ((j : Nat) : Int)))) :: x15 :: x16 :: x17 :: x18 :: x19 :: x20 :: x21 :: x22 :: x23 :: x24 :: x25 :: x26 :: x27 :: x28 :: (some (.val (.int ((bd : Nat) : Int)))) :: (some (.own (fD (movedF ss bd)))) :: x31 :: x32 :: x33 :: x34 :: r), by simp [execs, exec, evos, evs, args, argV, argD, AR.bind, AR.call, back, ev, tst, opB, truthOf, gt, take, asVar, fin1, fin2, fetch, pr1, pr2, cmpD, bl?, truth, Sl.d, tgt, tgts, tgtOs, tgtO, storeS, locked, Out.only, Out.then, ER.out, ER.bind, ER.test, constOf, isTy, walk, opI, opN, isMut, isLst, lockS, unlockS, unlockAll, rows, IR.for_, IR.comp, IR.calm, calmE, lastPs, lastH, putS, atD, finM, wipeE, nI], ?_, by simp [wipeE], by simp [wipeE]⟩
      rw [b26_0, ev]
      · simp only [opB, asVar, gt, List.getElem?_cons_zero, List.getElem?_cons_succ, fin2, fetch, Option.map, Sl.d, hi]
  have hg : rgOk 0 (ss.length : Int) = true := by simp [rgOk]; omega
  have e1 : ev (callK T G 19) G (.cmp .eq (.call 17 (.cons (.var 13) (.cons (.var 29) .nil))) (.p1 .tupleOf (.lc b26_0 (.nm 14) (.range1 (.p1 .len (.var 13))) none [14]))) (x0 :: x1 :: x2 :: x3 :: x4 :: x5 :: x6 :: x7 :: x8 :: x9 :: x10 :: x11 :: x12 :: (some (.val (dS ss))) :: x14 :: x15 :: x16 :: x17 :: x18 :: x19 :: x20 :: x21 :: x22 :: x23 :: x24 :: x25 :: x26 :: x27 :: x28 :: (some (.val (.int ((bd : Nat) : Int)))) :: (some (.own (fD (movedF ss bd)))) :: x31 :: x32 :: x33 :: x34 :: r) = .ok false (.bl true) (x0 :: x1 :: x2 :: x3 :: x4 :: x5 :: x6 :: x7 :: x8 :: x9 :: x10 :: x11 :: x12 :: (some (.val (dS ss))) :: x14 :: x15 :: x16 :: x17 :: x18 :: x19 :: x20 :: x21 :: x22 :: x23 :: x24 :: x25 :: x26 :: x27 :: x28 :: (some (.val (.int ((bd : Nat) : Int)))) :: (some (.own (fD (movedF ss bd)))) :: x31 :: x32 :: x33 :: x34 :: r) := by
    rw [ev]
    simp only [opB, asVar]
    rw [ev]
    simp only [args, asVar, argV, gt, List.getElem?_cons_zero, List.getElem?_cons_succ, AR.bind, AR.call, q1, back, ER.bind]
    rw [ev]
    · simp only [opB, asVar]
      rw [ev, walk, ev]
      · simp only [opN, opB, asVar, gt, List.getElem?_cons_zero, List.getElem?_cons_succ, fin1, fetch, Option.map, Sl.d, dS, pr1, List.length_map, hg, if_true, IR.comp]
        rw [← dS, hc]
        rcases c14 with rfl | ⟨d, rfl⟩ <;> simp only [calmE, gt, List.getElem?_cons_zero, List.getElem?_cons_succ, List.all_cons, List.all_nil, Bool.and_self, if_true, restE, unlockAll, List.set_cons_succ, List.set_cons_zero, Option.getD, ER.bind, fin1, fetch, pr1, fin2, show D.tup ((List.range ss.length).map fun k => oI (lookF (movedF ss bd) k)) = movedD ss bd from rfl, eq_moved, bl?, Option.map]
  have e2 : ev (callK T G 19) G (.one (.isinst (.call 17 (.cons (.var 13) (.cons (.var 29) .nil))) "tuple")) (x0 :: x1 :: x2 :: x3 :: x4 :: x5 :: x6 :: x7 :: x8 :: x9 :: x10 :: x11 :: x12 :: (some (.val (dS ss))) :: x14 :: x15 :: x16 :: x17 :: x18 :: x19 :: x20 :: x21 :: x22 :: x23 :: x24 :: x25 :: x26 :: x27 :: x28 :: (some (.val (.int ((bd : Nat) : Int)))) :: (some (.own (fD (movedF ss bd)))) :: x31 :: x32 :: x33 :: x34 :: r) = .ok false (.bl true) (x0 :: x1 :: x2 :: x3 :: x4 :: x5 :: x6 :: x7 :: x8 :: x9 :: x10 :: x11 :: x12 :: (some (.val (dS ss))) :: x14 :: x15 :: x16 :: x17 :: x18 :: x19 :: x20 :: x21 :: x22 :: x23 :: x24 :: x25 :: x26 :: x27 :: x28 :: (some (.val (.int ((bd : Nat) : Int)))) :: (some (.own (fD (movedF ss bd)))) :: x31 :: x32 :: x33 :: x34 :: r) := by
    rw [ev, ev]
    simp only [opB, asVar]
    rw [ev]
    simp only [args, asVar, argV, gt, List.getElem?_cons_zero, List.getElem?_cons_succ, AR.bind, AR.call, q1, back, ER.bind, fin1, fetch, movedD, isTy]
    simp [bl?]
  rw [exec, ev, e1]
  · simp only [ER.test, ER.bind, if_true, e2, ER.out]
  all_goals (intros; rename_i z; cases z)
end
end Law
namespace Law
open Rx
theorem pure_law : ∀ ns : List Int, ns.length ≤ 63 → ∃ o ps, Rx.callK T G 20 26 [.val (.frl (ns.map .int))] = .ok o (.bl true) ps := by
  intro ns hns
  obtain ⟨d0, hd0, q0'⟩ := c_draw (k := 18) hns
  have q0 : callK T G 19 18 [.val (.frl (ns.map .int))] = _ := q0'
  have s1 : exec (callK T G 19) G (.asg (.nm 1) (.call 18 (.cons (.var 0) .nil))) [some (.val (.frl (ns.map .int))), none, none, none, none, none, none, none, none, none, none, none, none, none, none, none, none, none, none, none, none, none, none, none, none, none, none, none, none, none, none, none, none, none, none] = .nx [some (.val (.frl (ns.map .int))), some (.own d0), none, none, none, none, none, none, none, none, none, none, none, none, none, none, none, none, none, none, none, none, none, none, none, none, none, none, none, none, none, none, none, none, none] := by simp [-List.map_map, execs, exec, evos, evs, args, argV, argD, AR.bind, AR.call, back, ev, tst, opB, truthOf, gt, take, asVar, fin1, fin2, fetch, pr1, pr2, cmpD, bl?, truth, Sl.d, tgt, tgts, tgtOs, tgtO, storeS, locked, Out.only, Out.then, ER.out, ER.bind, ER.test, constOf, isTy, walk, opI, opN, isMut, isLst, lockS, unlockS, unlockAll, rows, IR.for_, IR.comp, IR.calm, calmE, lastPs, lastH, putS, atD, finM, q0]
  obtain ⟨t, u, d1, t1, u1, t2, t3, u3, hd1, s2⟩ := s_tariffs hd0 (x0 := some (.val (.frl (ns.map .int)))) (r := [none, none, none, none, none, none, none, none, none, none, none, none, none, none, none, none, none, none, none, none, none, none, none, none, none, none, none, none, none, none, none])
  obtain ⟨m, q, d2, hm, hq, hd2, s3⟩ := s_counts hd1 (x0 := some (.val (.frl (ns.map .int)))) (x2 := (some (.val (dT t)))) (x3 := (some (.val (dT u)))) (r := [none, none, none, none, none, none, none, none, none, none, none, none, none, none, none, none, none, none, none, none, none, none, none, none, none, none, none, none, none])
  have s4 := s_dues t1 t3 hm (x0 := some (.val (.frl (ns.map .int)))) (x1 := some (.own d2)) (x3 := (some (.val (dT u)))) (x5 := (some (.val (.int ((q : Nat) : Int))))) (r := [none, none, none, none, none, none, none, none, none, none, none, none, none, none, none, none, none, none, none, none, none, none, none, none, none, none, none, none, none])
  have s5 := s_fair t1 t2 t3 hm (x0 := some (.val (.frl (ns.map .int)))) (x1 := some (.own d2)) (x3 := (some (.val (dT u)))) (x5 := (some (.val (.int ((q : Nat) : Int))))) (r := [none, none, none, none, none, none, none, none, none, none, none, none, none, none, none, none, none, none, none, none, none, none, none, none, none, none, none, none, none])
  have s6 := s_lists t1 t3 u1 u3 (x0 := some (.val (.frl (ns.map .int)))) (x1 := some (.own d2)) (x4 := (some (.val (.int ((m : Nat) : Int))))) (x5 := (some (.val (.int ((q : Nat) : Int))))) (r := [none, none, none, none, none, none, none, none, none, none, none, none, none, none, none, none, none, none, none, none, none, none, none, none, none, none])
  have s7 := s_mild t1 u1 (x0 := some (.val (.frl (ns.map .int)))) (x1 := some (.own d2)) (x4 := (some (.val (.int ((m : Nat) : Int))))) (x5 := (some (.val (.int ((q : Nat) : Int))))) (r := [none, none, none, none, none, none, none, none, none, none, none, none, none, none, none, none, none, none, none, none, none, none, none, none, none, none])
  have s8 := s_rows hm hq (x0 := some (.val (.frl (ns.map .int)))) (x1 := some (.own d2)) (x2 := (some (.val (dT t)))) (x3 := (some (.val (dT u)))) (x6 := (some (.own (.lst (((List.range 201).map (due t)).map nI))))) (x7 := (some (.own (.lst (((List.range 201).map (due u)).map nI))))) (x8 := none) (r := [none, none, none, none, none, none, none, none, none, none, none, none, none, none, none, none, none, none, none, none, none, none, none, none, none])
  have s9 := s_rdues (t := t) hm hq (x0 := some (.val (.frl (ns.map .int)))) (x1 := some (.own d2)) (x2 := (some (.val (dT t)))) (x3 := (some (.val (dT u)))) (x4 := (some (.val (.int ((m : Nat) : Int))))) (x5 := (some (.val (.int ((q : Nat) : Int))))) (x7 := (some (.own (.lst (((List.range 201).map (due u)).map nI))))) (x8 := none) (r := [none, none, none, none, none, none, none, none, none, none, none, none, none, none, none, none, none, none, none, none, none, none])
  have s10 := s_told t1 hm hq (x0 := some (.val (.frl (ns.map .int)))) (x1 := some (.own d2)) (x3 := (some (.val (dT u)))) (x6 := (some (.own (.lst (((List.range 201).map (due t)).map nI))))) (x7 := (some (.own (.lst (((List.range 201).map (due u)).map nI))))) (x8 := none) (r := [none, none, none, none, none, none, none, none, none, none, none, none, none, none, none, none, none, none, none, none, none, none, none, none])
  have s11 : exec (callK T G 19) G (.asg (.nm 13) (.lst .nil)) [some (.val (.frl (ns.map .int))), some (.own d2), (some (.val (dT t))), (some (.val (dT u))), (some (.val (.int ((m : Nat) : Int)))), (some (.val (.int ((q : Nat) : Int)))), (some (.own (.lst (((List.range 201).map (due t)).map nI)))), (some (.own (.lst (((List.range 201).map (due u)).map nI)))), none, (some (.own (D.lst ((rowsL q m 1).map tN)))), (some (.own (.lst ((rowsL q m 1).map fun s => nI (sd t s))))), none, none, none, none, none, none, none, none, none, none, none, none, none, none, none, none, none, none, none, none, none, none, none, none] = .nx [some (.val (.frl (ns.map .int))), some (.own d2), (some (.val (dT t))), (some (.val (dT u))), (some (.val (.int ((m : Nat) : Int)))), (some (.val (.int ((q : Nat) : Int)))), (some (.own (.lst (((List.range 201).map (due t)).map nI)))), (some (.own (.lst (((List.range 201).map (due u)).map nI)))), none, (some (.own (D.lst ((rowsL q m 1).map tN)))), (some (.own (.lst ((rowsL q m 1).map fun s => nI (sd t s))))), none, none, (some (.own (.lst (([] : Sy).map rowS)))), none, none, none, none, none, none, none, none, none, none, none, none, none, none, none, none, none, none, none, none, none] := by simp [-List.map_map, execs, exec, evos, evs, args, argV, argD, AR.bind, AR.call, back, ev, tst, opB, truthOf, gt, take, asVar, fin1, fin2, fetch, pr1, pr2, cmpD, bl?, truth, Sl.d, tgt, tgts, tgtOs, tgtO, storeS, locked, Out.only, Out.then, ER.out, ER.bind, ER.test, constOf, isTy, walk, opI, opN, isMut, isLst, lockS, unlockS, unlockAll, rows, IR.for_, IR.comp, IR.calm, calmE, lastPs, lastH, putS, atD, finM]
  obtain ⟨ss, d3, y14, y15, hd3, hs, hl, c14, c15, s12⟩ := s_stays hd2 (x0 := some (.val (.frl (ns.map .int)))) (x2 := (some (.val (dT t)))) (x3 := (some (.val (dT u)))) (x4 := (some (.val (.int ((m : Nat) : Int))))) (x5 := (some (.val (.int ((q : Nat) : Int))))) (x6 := (some (.own (.lst (((List.range 201).map (due t)).map nI))))) (x7 := (some (.own (.lst (((List.range 201).map (due u)).map nI))))) (x8 := none) (x9 := (some (.own (D.lst ((rowsL q m 1).map tN))))) (x10 := (some (.own (.lst ((rowsL q m 1).map fun s => nI (sd t s)))))) (x11 := none) (x12 := none) (r := [none, none, none, none, none, none, none, none, none, none, none, none, none, none, none, none, none, none, none])
  have s13 : exec (callK T G 19) G (.asg (.nm 13) (.p1 .tupleOf (.var 13))) [some (.val (.frl (ns.map .int))), some (.own d3), (some (.val (dT t))), (some (.val (dT u))), (some (.val (.int ((m : Nat) : Int)))), (some (.val (.int ((q : Nat) : Int)))), (some (.own (.lst (((List.range 201).map (due t)).map nI)))), (some (.own (.lst (((List.range 201).map (due u)).map nI)))), none, (some (.own (D.lst ((rowsL q m 1).map tN)))), (some (.own (.lst ((rowsL q m 1).map fun s => nI (sd t s))))), none, none, (some (.own (.lst (ss.map rowS)))), y14, y15, none, none, none, none, none, none, none, none, none, none, none, none, none, none, none, none, none, none, none] = .nx [some (.val (.frl (ns.map .int))), some (.own d3), (some (.val (dT t))), (some (.val (dT u))), (some (.val (.int ((m : Nat) : Int)))), (some (.val (.int ((q : Nat) : Int)))), (some (.own (.lst (((List.range 201).map (due t)).map nI)))), (some (.own (.lst (((List.range 201).map (due u)).map nI)))), none, (some (.own (D.lst ((rowsL q m 1).map tN)))), (some (.own (.lst ((rowsL q m 1).map fun s => nI (sd t s))))), none, none, (some (.val (dS ss))), y14, y15, none, none, none, none, none, none, none, none, none, none, none, none, none, none, none, none, none, none, none] := by simp [-List.map_map, execs, exec, evos, evs, args, argV, argD, AR.bind, AR.call, back, ev, tst, opB, truthOf, gt, take, asVar, fin1, fin2, fetch, pr1, pr2, cmpD, bl?, truth, Sl.d, tgt, tgts, tgtOs, tgtO, storeS, locked, Out.only, Out.then, ER.out, ER.bind, ER.test, constOf, isTy, walk, opI, opN, isMut, isLst, lockS, unlockS, unlockAll, rows, IR.for_, IR.comp, IR.calm, calmE, lastPs, lastH, putS, atD, finM, dS]
  have s14 := s_full hl (x14 := y14) (x15 := y15) c14 c15 (x0 := some (.val (.frl (ns.map .int)))) (x1 := some (.own d3)) (x2 := (some (.val (dT t)))) (x3 := (some (.val (dT u)))) (x4 := (some (.val (.int ((m : Nat) : Int))))) (x5 := (some (.val (.int ((q : Nat) : Int))))) (x6 := (some (.own (.lst (((List.range 201).map (due t)).map nI))))) (x7 := (some (.own (.lst (((List.range 201).map (due u)).map nI))))) (x8 := none) (x9 := (some (.own (D.lst ((rowsL q m 1).map tN))))) (x10 := (some (.own (.lst ((rowsL q m 1).map fun s => nI (sd t s)))))) (x11 := none) (x12 := none) (r := [none, none, none, none, none, none, none, none, none, none, none, none, none, none, none, none, none, none])
  obtain ⟨n, d4, hn, hd4, s15⟩ := s_night hd3 (x15 := y15) c15 (x0 := some (.val (.frl (ns.map .int)))) (x2 := (some (.val (dT t)))) (x3 := (some (.val (dT u)))) (x4 := (some (.val (.int ((m : Nat) : Int))))) (x5 := (some (.val (.int ((q : Nat) : Int))))) (x6 := (some (.own (.lst (((List.range 201).map (due t)).map nI))))) (x7 := (some (.own (.lst (((List.range 201).map (due u)).map nI))))) (x8 := none) (x9 := (some (.own (D.lst ((rowsL q m 1).map tN))))) (x10 := (some (.own (.lst ((rowsL q m 1).map fun s => nI (sd t s)))))) (x11 := none) (x12 := none) (x13 := (some (.val (dS ss)))) (x14 := y14) (r := [(some (.own (D.lst ((List.range 30).map fun n => D.lst ((gu ss n).map nI))))), none, none, none, none, none, none, none, none, none, none, none, none, none, none, none, none, none, none])
  have s16 := s_guests hs hl hn (x0 := some (.val (.frl (ns.map .int)))) (x1 := some (.own d4)) (x2 := (some (.val (dT t)))) (x3 := (some (.val (dT u)))) (x4 := (some (.val (.int ((m : Nat) : Int))))) (x5 := (some (.val (.int ((q : Nat) : Int))))) (x6 := (some (.own (.lst (((List.range 201).map (due t)).map nI))))) (x7 := (some (.own (.lst (((List.range 201).map (due u)).map nI))))) (x8 := none) (x9 := (some (.own (D.lst ((rowsL q m 1).map tN))))) (x10 := (some (.own (.lst ((rowsL q m 1).map fun s => nI (sd t s)))))) (x11 := none) (x12 := none) (x14 := y14) (r := [none, none, none, none, none, none, none, none, none, none, none, none, none, none, none, none, none])
  have s17 : exec (callK T G 19) G (.asg (.nm 18) (.lst (.cons (.tup .nil) .nil))) [some (.val (.frl (ns.map .int))), some (.own d4), (some (.val (dT t))), (some (.val (dT u))), (some (.val (.int ((m : Nat) : Int)))), (some (.val (.int ((q : Nat) : Int)))), (some (.own (.lst (((List.range 201).map (due t)).map nI)))), (some (.own (.lst (((List.range 201).map (due u)).map nI)))), none, (some (.own (D.lst ((rowsL q m 1).map tN)))), (some (.own (.lst ((rowsL q m 1).map fun s => nI (sd t s))))), none, none, (some (.val (dS ss))), y14, (some (.val (.int ((n : Nat) : Int)))), (some (.own (D.lst ((List.range 30).map fun n => D.lst ((gu ss n).map nI))))), none, none, none, none, none, none, none, none, none, none, none, none, none, none, none, none, none, none] = .nx [some (.val (.frl (ns.map .int))), some (.own d4), (some (.val (dT t))), (some (.val (dT u))), (some (.val (.int ((m : Nat) : Int)))), (some (.val (.int ((q : Nat) : Int)))), (some (.own (.lst (((List.range 201).map (due t)).map nI)))), (some (.own (.lst (((List.range 201).map (due u)).map nI)))), none, (some (.own (D.lst ((rowsL q m 1).map tN)))), (some (.own (.lst ((rowsL q m 1).map fun s => nI (sd t s))))), none, none, (some (.val (dS ss))), y14, (some (.val (.int ((n : Nat) : Int)))), (some (.own (D.lst ((List.range 30).map fun n => D.lst ((gu ss n).map nI))))), none, (some (.own (.lst ((grp 0).map tN)))), none, none, none, none, none, none, none, none, none, none, none, none, none, none, none, none] := by simp [-List.map_map, execs, exec, evos, evs, args, argV, argD, AR.bind, AR.call, back, ev, tst, opB, truthOf, gt, take, asVar, fin1, fin2, fetch, pr1, pr2, cmpD, bl?, truth, Sl.d, tgt, tgts, tgtOs, tgtO, storeS, locked, Out.only, Out.then, ER.out, ER.bind, ER.test, constOf, isTy, walk, opI, opN, isMut, isLst, lockS, unlockS, unlockAll, rows, IR.for_, IR.comp, IR.calm, calmE, lastPs, lastH, putS, atD, finM, grp, tN]
  obtain ⟨w14, e14, s18⟩ := s_groups hl (x14 := y14) c14 (x0 := some (.val (.frl (ns.map .int)))) (x1 := some (.own d4)) (x2 := (some (.val (dT t)))) (x3 := (some (.val (dT u)))) (x4 := (some (.val (.int ((m : Nat) : Int))))) (x5 := (some (.val (.int ((q : Nat) : Int))))) (x6 := (some (.own (.lst (((List.range 201).map (due t)).map nI))))) (x7 := (some (.own (.lst (((List.range 201).map (due u)).map nI))))) (x8 := none) (x9 := (some (.own (D.lst ((rowsL q m 1).map tN))))) (x10 := (some (.own (.lst ((rowsL q m 1).map fun s => nI (sd t s)))))) (x11 := none) (x12 := none) (x15 := (some (.val (.int ((n : Nat) : Int))))) (x16 := (some (.own (D.lst ((List.range 30).map fun n => D.lst ((gu ss n).map nI)))))) (x17 := none) (r := [none, none, none, none, none, none, none, none, none, none, none, none, none, none, none])
  have s19 := s_good hs hl (x14 := w14) e14 (x0 := some (.val (.frl (ns.map .int)))) (x1 := some (.own d4)) (x2 := (some (.val (dT t)))) (x3 := (some (.val (dT u)))) (x4 := (some (.val (.int ((m : Nat) : Int))))) (x5 := (some (.val (.int ((q : Nat) : Int))))) (x6 := (some (.own (.lst (((List.range 201).map (due t)).map nI))))) (x7 := (some (.own (.lst (((List.range 201).map (due u)).map nI))))) (x8 := none) (x9 := (some (.own (D.lst ((rowsL q m 1).map tN))))) (x10 := (some (.own (.lst ((rowsL q m 1).map fun s => nI (sd t s)))))) (x11 := none) (x12 := none) (x13 := (some (.val (dS ss)))) (x15 := (some (.val (.int ((n : Nat) : Int))))) (r := [none, none, none, none, none, none, none, none, none, none, none, none, none, none])
  have s20 := s_worths hl (x14 := w14) e14 (x0 := some (.val (.frl (ns.map .int)))) (x1 := some (.own d4)) (x2 := (some (.val (dT t)))) (x3 := (some (.val (dT u)))) (x4 := (some (.val (.int ((m : Nat) : Int))))) (x5 := (some (.val (.int ((q : Nat) : Int))))) (x6 := (some (.own (.lst (((List.range 201).map (due t)).map nI))))) (x7 := (some (.own (.lst (((List.range 201).map (due u)).map nI))))) (x8 := none) (x9 := (some (.own (D.lst ((rowsL q m 1).map tN))))) (x10 := (some (.own (.lst ((rowsL q m 1).map fun s => nI (sd t s)))))) (x11 := none) (x12 := none) (x15 := (some (.val (.int ((n : Nat) : Int))))) (x16 := (some (.own (D.lst ((List.range 30).map fun n => D.lst ((gu ss n).map nI)))))) (x17 := none) (x18 := (some (.own (.lst ((grp ss.length).map tN))))) (r := [none, none, none, none, none, none, none, none, none, none, none, none, none])
  have s21 := s_best hl (x0 := some (.val (.frl (ns.map .int)))) (x1 := some (.own d4)) (x2 := (some (.val (dT t)))) (x3 := (some (.val (dT u)))) (x4 := (some (.val (.int ((m : Nat) : Int))))) (x5 := (some (.val (.int ((q : Nat) : Int))))) (x6 := (some (.own (.lst (((List.range 201).map (due t)).map nI))))) (x7 := (some (.own (.lst (((List.range 201).map (due u)).map nI))))) (x8 := none) (x9 := (some (.own (D.lst ((rowsL q m 1).map tN))))) (x10 := (some (.own (.lst ((rowsL q m 1).map fun s => nI (sd t s)))))) (x11 := none) (x12 := none) (x14 := w14) (x15 := (some (.val (.int ((n : Nat) : Int))))) (x16 := (some (.own (D.lst ((List.range 30).map fun n => D.lst ((gu ss n).map nI)))))) (x17 := none) (x18 := (some (.own (.lst ((grp ss.length).map tN))))) (x19 := none) (r := [none, none, none, none, none, none, none, none, none, none, none, none, none])
  obtain ⟨a, d5, ha, hd5, s22⟩ := s_a hd4 (x0 := some (.val (.frl (ns.map .int)))) (x2 := (some (.val (dT t)))) (x3 := (some (.val (dT u)))) (x4 := (some (.val (.int ((m : Nat) : Int))))) (x5 := (some (.val (.int ((q : Nat) : Int))))) (x6 := (some (.own (.lst (((List.range 201).map (due t)).map nI))))) (x7 := (some (.own (.lst (((List.range 201).map (due u)).map nI))))) (x8 := none) (x9 := (some (.own (D.lst ((rowsL q m 1).map tN))))) (x10 := (some (.own (.lst ((rowsL q m 1).map fun s => nI (sd t s)))))) (x11 := none) (x12 := none) (x13 := (some (.val (dS ss)))) (x14 := w14) (x15 := (some (.val (.int ((n : Nat) : Int))))) (x16 := (some (.own (D.lst ((List.range 30).map fun n => D.lst ((gu ss n).map nI)))))) (x17 := none) (x18 := (some (.own (.lst ((grp ss.length).map tN))))) (x19 := none) (x20 := (some (.own (.lst (((srt (chs ss ss.length))).map tN))))) (x21 := (some (.own (.lst (((srt (chs ss ss.length)).map (worth ss)).map nI))))) (r := [none, none, none, none, none, none, none, none, none, none, none, none])
  obtain ⟨c, d6, hc, hd6, s23⟩ := s_b hd5 (a := a) (x0 := some (.val (.frl (ns.map .int)))) (x2 := (some (.val (dT t)))) (x3 := (some (.val (dT u)))) (x4 := (some (.val (.int ((m : Nat) : Int))))) (x5 := (some (.val (.int ((q : Nat) : Int))))) (x6 := (some (.own (.lst (((List.range 201).map (due t)).map nI))))) (x7 := (some (.own (.lst (((List.range 201).map (due u)).map nI))))) (x8 := none) (x9 := (some (.own (D.lst ((rowsL q m 1).map tN))))) (x10 := (some (.own (.lst ((rowsL q m 1).map fun s => nI (sd t s)))))) (x11 := none) (x12 := none) (x13 := (some (.val (dS ss)))) (x14 := w14) (x15 := (some (.val (.int ((n : Nat) : Int))))) (x16 := (some (.own (D.lst ((List.range 30).map fun n => D.lst ((gu ss n).map nI)))))) (x17 := none) (x18 := (some (.own (.lst ((grp ss.length).map tN))))) (x19 := none) (x20 := (some (.own (.lst (((srt (chs ss ss.length))).map tN))))) (x21 := (some (.own (.lst (((srt (chs ss ss.length)).map (worth ss)).map nI))))) (r := [none, none, none, none, none, none, none, none, none, none, none])
  have s24 : exec (callK T G 19) G (.asg (.nm 24) (.lst .nil)) [some (.val (.frl (ns.map .int))), some (.own d6), (some (.val (dT t))), (some (.val (dT u))), (some (.val (.int ((m : Nat) : Int)))), (some (.val (.int ((q : Nat) : Int)))), (some (.own (.lst (((List.range 201).map (due t)).map nI)))), (some (.own (.lst (((List.range 201).map (due u)).map nI)))), none, (some (.own (D.lst ((rowsL q m 1).map tN)))), (some (.own (.lst ((rowsL q m 1).map fun s => nI (sd t s))))), none, none, (some (.val (dS ss))), w14, (some (.val (.int ((n : Nat) : Int)))), (some (.own (D.lst ((List.range 30).map fun n => D.lst ((gu ss n).map nI))))), none, (some (.own (.lst ((grp ss.length).map tN)))), none, (some (.own (.lst (((srt (chs ss ss.length))).map tN)))), (some (.own (.lst (((srt (chs ss ss.length)).map (worth ss)).map nI)))), (some (.val (.int ((a : Nat) : Int)))), (some (.val (.int (((a + c) : Nat) : Int)))), none, none, none, none, none, none, none, none, none, none, none] = .nx [some (.val (.frl (ns.map .int))), some (.own d6), (some (.val (dT t))), (some (.val (dT u))), (some (.val (.int ((m : Nat) : Int)))), (some (.val (.int ((q : Nat) : Int)))), (some (.own (.lst (((List.range 201).map (due t)).map nI)))), (some (.own (.lst (((List.range 201).map (due u)).map nI)))), none, (some (.own (D.lst ((rowsL q m 1).map tN)))), (some (.own (.lst ((rowsL q m 1).map fun s => nI (sd t s))))), none, none, (some (.val (dS ss))), w14, (some (.val (.int ((n : Nat) : Int)))), (some (.own (D.lst ((List.range 30).map fun n => D.lst ((gu ss n).map nI))))), none, (some (.own (.lst ((grp ss.length).map tN)))), none, (some (.own (.lst (((srt (chs ss ss.length))).map tN)))), (some (.own (.lst (((srt (chs ss ss.length)).map (worth ss)).map nI)))), (some (.val (.int ((a : Nat) : Int)))), (some (.val (.int (((a + c) : Nat) : Int)))), (some (.own (.lst ((([] : List (Nat × Nat))).map dP)))), none, none, none, none, none, none, none, none, none, none] := by simp [-List.map_map, execs, exec, evos, evs, args, argV, argD, AR.bind, AR.call, back, ev, tst, opB, truthOf, gt, take, asVar, fin1, fin2, fetch, pr1, pr2, cmpD, bl?, truth, Sl.d, tgt, tgts, tgtOs, tgtO, storeS, locked, Out.only, Out.then, ER.out, ER.bind, ER.test, constOf, isTy, walk, opI, opN, isMut, isLst, lockS, unlockS, unlockAll, rows, IR.for_, IR.comp, IR.calm, calmE, lastPs, lastH, putS, atD, finM]
  obtain ⟨y25, c25, s25⟩ := s_runs (ss := ss) (a := a) (b := a + c) (by omega) (by omega) (x0 := some (.val (.frl (ns.map .int)))) (x1 := some (.own d6)) (x2 := (some (.val (dT t)))) (x3 := (some (.val (dT u)))) (x4 := (some (.val (.int ((m : Nat) : Int))))) (x5 := (some (.val (.int ((q : Nat) : Int))))) (x6 := (some (.own (.lst (((List.range 201).map (due t)).map nI))))) (x7 := (some (.own (.lst (((List.range 201).map (due u)).map nI))))) (x9 := (some (.own (D.lst ((rowsL q m 1).map tN))))) (x10 := (some (.own (.lst ((rowsL q m 1).map fun s => nI (sd t s)))))) (x11 := none) (x12 := none) (x13 := (some (.val (dS ss)))) (x14 := w14) (x15 := (some (.val (.int ((n : Nat) : Int))))) (x17 := none) (x18 := (some (.own (.lst ((grp ss.length).map tN))))) (x19 := none) (x20 := (some (.own (.lst (((srt (chs ss ss.length))).map tN))))) (x21 := (some (.own (.lst (((srt (chs ss ss.length)).map (worth ss)).map nI))))) (r := [none, none, none, none, none, none, none, none])
  have s26 := s_long (fr := frS ss) (a := a) (b := a + c) (by omega) (x0 := some (.val (.frl (ns.map .int)))) (x1 := some (.own d6)) (x2 := (some (.val (dT t)))) (x3 := (some (.val (dT u)))) (x4 := (some (.val (.int ((m : Nat) : Int))))) (x5 := (some (.val (.int ((q : Nat) : Int))))) (x6 := (some (.own (.lst (((List.range 201).map (due t)).map nI))))) (x7 := (some (.own (.lst (((List.range 201).map (due u)).map nI))))) (x8 := none) (x9 := (some (.own (D.lst ((rowsL q m 1).map tN))))) (x10 := (some (.own (.lst ((rowsL q m 1).map fun s => nI (sd t s)))))) (x11 := none) (x12 := none) (x13 := (some (.val (dS ss)))) (x14 := w14) (x15 := (some (.val (.int ((n : Nat) : Int))))) (x16 := (some (.own (D.lst ((List.range 30).map fun n => D.lst ((gu ss n).map nI)))))) (x18 := (some (.own (.lst ((grp ss.length).map tN))))) (x19 := none) (x20 := (some (.own (.lst (((srt (chs ss ss.length))).map tN))))) (x21 := (some (.own (.lst (((srt (chs ss ss.length)).map (worth ss)).map nI))))) (x22 := (some (.val (.int ((a : Nat) : Int))))) (x23 := (some (.val (.int (((a + c) : Nat) : Int))))) (x25 := y25) (x26 := none) (r := [none, none, none, none, none, none])
  have s27 := s_told1 hl (a := a) (b := a + c) (by omega) (by omega) (x0 := some (.val (.frl (ns.map .int)))) (x1 := some (.own d6)) (x2 := (some (.val (dT t)))) (x3 := (some (.val (dT u)))) (x4 := (some (.val (.int ((m : Nat) : Int))))) (x5 := (some (.val (.int ((q : Nat) : Int))))) (x6 := (some (.own (.lst (((List.range 201).map (due t)).map nI))))) (x7 := (some (.own (.lst (((List.range 201).map (due u)).map nI))))) (x8 := none) (x9 := (some (.own (D.lst ((rowsL q m 1).map tN))))) (x10 := (some (.own (.lst ((rowsL q m 1).map fun s => nI (sd t s)))))) (x11 := none) (x12 := none) (x14 := w14) (x15 := (some (.val (.int ((n : Nat) : Int))))) (x16 := (some (.own (D.lst ((List.range 30).map fun n => D.lst ((gu ss n).map nI)))))) (x17 := none) (x18 := (some (.own (.lst ((grp ss.length).map tN))))) (x19 := none) (x20 := (some (.own (.lst (((srt (chs ss ss.length))).map tN))))) (x21 := (some (.own (.lst (((srt (chs ss ss.length)).map (worth ss)).map nI))))) (x24 := (some (.own (.lst ((runsL (frS ss) a (a + c)).map dP))))) (x25 := y25) (x26 := none) (r := [none, none, none, none, none, none, none])
  obtain ⟨bd, d7, hb, hd7, s28⟩ := s_bedn hd6 (x0 := some (.val (.frl (ns.map .int)))) (x2 := (some (.val (dT t)))) (x3 := (some (.val (dT u)))) (x4 := (some (.val (.int ((m : Nat) : Int))))) (x5 := (some (.val (.int ((q : Nat) : Int))))) (x6 := (some (.own (.lst (((List.range 201).map (due t)).map nI))))) (x7 := (some (.own (.lst (((List.range 201).map (due u)).map nI))))) (x8 := none) (x9 := (some (.own (D.lst ((rowsL q m 1).map tN))))) (x10 := (some (.own (.lst ((rowsL q m 1).map fun s => nI (sd t s)))))) (x11 := none) (x12 := none) (x13 := (some (.val (dS ss)))) (x14 := w14) (x15 := (some (.val (.int ((n : Nat) : Int))))) (x16 := (some (.own (D.lst ((List.range 30).map fun n => D.lst ((gu ss n).map nI)))))) (x17 := none) (x18 := (some (.own (.lst ((grp ss.length).map tN))))) (x19 := none) (x20 := (some (.own (.lst (((srt (chs ss ss.length))).map tN))))) (x21 := (some (.own (.lst (((srt (chs ss ss.length)).map (worth ss)).map nI))))) (x22 := (some (.val (.int ((a : Nat) : Int))))) (x23 := (some (.val (.int (((a + c) : Nat) : Int))))) (x24 := (some (.own (.lst ((runsL (frS ss) a (a + c)).map dP))))) (x25 := y25) (x26 := none) (x27 := (some (.own (.lst ((longL (frS ss) a (a + c)).map dP))))) (x28 := none) (r := [none, none, none, none])
  obtain ⟨z8, z14, z31, z33, k14, s29⟩ := s_moved hs hl hb (x14 := w14) e14 (x0 := some (.val (.frl (ns.map .int)))) (x1 := some (.own d7)) (x2 := (some (.val (dT t)))) (x3 := (some (.val (dT u)))) (x4 := (some (.val (.int ((m : Nat) : Int))))) (x5 := (some (.val (.int ((q : Nat) : Int))))) (x6 := (some (.own (.lst (((List.range 201).map (due t)).map nI))))) (x7 := (some (.own (.lst (((List.range 201).map (due u)).map nI))))) (x9 := (some (.own (D.lst ((rowsL q m 1).map tN))))) (x10 := (some (.own (.lst ((rowsL q m 1).map fun s => nI (sd t s)))))) (x11 := none) (x12 := none) (x15 := (some (.val (.int ((n : Nat) : Int))))) (x16 := (some (.own (D.lst ((List.range 30).map fun n => D.lst ((gu ss n).map nI)))))) (x17 := none) (x18 := (some (.own (.lst ((grp ss.length).map tN))))) (x19 := none) (x20 := (some (.own (.lst (((srt (chs ss ss.length))).map tN))))) (x21 := (some (.own (.lst (((srt (chs ss ss.length)).map (worth ss)).map nI))))) (x22 := (some (.val (.int ((a : Nat) : Int))))) (x23 := (some (.val (.int (((a + c) : Nat) : Int))))) (x24 := (some (.own (.lst ((runsL (frS ss) a (a + c)).map dP))))) (x25 := y25) (x26 := none) (x27 := (some (.own (.lst ((longL (frS ss) a (a + c)).map dP))))) (x28 := none) (r := [])
  have s30 := s_ret hs hl hb (x14 := z14) k14 (x0 := some (.val (.frl (ns.map .int)))) (x1 := some (.own d7)) (x2 := (some (.val (dT t)))) (x3 := (some (.val (dT u)))) (x4 := (some (.val (.int ((m : Nat) : Int))))) (x5 := (some (.val (.int ((q : Nat) : Int))))) (x6 := (some (.own (.lst (((List.range 201).map (due t)).map nI))))) (x7 := (some (.own (.lst (((List.range 201).map (due u)).map nI))))) (x8 := z8) (x9 := (some (.own (D.lst ((rowsL q m 1).map tN))))) (x10 := (some (.own (.lst ((rowsL q m 1).map fun s => nI (sd t s)))))) (x11 := none) (x12 := none) (x15 := (some (.val (.int ((n : Nat) : Int))))) (x16 := (some (.own (D.lst ((List.range 30).map fun n => D.lst ((gu ss n).map nI)))))) (x17 := none) (x18 := (some (.own (.lst ((grp ss.length).map tN))))) (x19 := none) (x20 := (some (.own (.lst (((srt (chs ss ss.length))).map tN))))) (x21 := (some (.own (.lst (((srt (chs ss ss.length)).map (worth ss)).map nI))))) (x22 := (some (.val (.int ((a : Nat) : Int))))) (x23 := (some (.val (.int (((a + c) : Nat) : Int))))) (x24 := (some (.own (.lst ((runsL (frS ss) a (a + c)).map dP))))) (x25 := y25) (x26 := none) (x27 := (some (.own (.lst ((longL (frS ss) a (a + c)).map dP))))) (x28 := none) (x31 := z31) (x32 := none) (x33 := z33) (x34 := none) (r := [])
  refine ⟨false, [none], (run_rt (n := 1) (m := 35) (b := b26) rfl rfl (o := false) (d := .bl true) (E1 := [some (.val (.frl (ns.map .int))), some (.own d7), (some (.val (dT t))), (some (.val (dT u))), (some (.val (.int ((m : Nat) : Int)))), (some (.val (.int ((q : Nat) : Int)))), (some (.own (.lst (((List.range 201).map (due t)).map nI)))), (some (.own (.lst (((List.range 201).map (due u)).map nI)))), z8, (some (.own (D.lst ((rowsL q m 1).map tN)))), (some (.own (.lst ((rowsL q m 1).map fun s => nI (sd t s))))), none, none, (some (.val (dS ss))), z14, (some (.val (.int ((n : Nat) : Int)))), (some (.own (D.lst ((List.range 30).map fun n => D.lst ((gu ss n).map nI))))), none, (some (.own (.lst ((grp ss.length).map tN)))), none, (some (.own (.lst (((srt (chs ss ss.length))).map tN)))), (some (.own (.lst (((srt (chs ss ss.length)).map (worth ss)).map nI)))), (some (.val (.int ((a : Nat) : Int)))), (some (.val (.int (((a + c) : Nat) : Int)))), (some (.own (.lst ((runsL (frS ss) a (a + c)).map dP)))), y25, none, (some (.own (.lst ((longL (frS ss) a (a + c)).map dP)))), none, (some (.val (.int ((bd : Nat) : Int)))), (some (.own (fD (movedF ss bd)))), z31, none, z33, none]) ?_).trans rfl⟩
  show execs (callK T G 19) G b26 [some (.val (.frl (ns.map .int))), none, none, none, none, none, none, none, none, none, none, none, none, none, none, none, none, none, none, none, none, none, none, none, none, none, none, none, none, none, none, none, none, none, none] = _
  rw [b26]
  exact (execs_nx s1).trans ((execs_nx s2).trans ((execs_nx s3).trans ((execs_nx s4).trans ((execs_nx s5).trans ((execs_nx s6).trans ((execs_nx s7).trans ((execs_nx s8).trans ((execs_nx s9).trans ((execs_nx s10).trans ((execs_nx s11).trans ((execs_nx s12).trans ((execs_nx s13).trans ((execs_nx s14).trans ((execs_nx s15).trans ((execs_nx s16).trans ((execs_nx s17).trans ((execs_nx s18).trans ((execs_nx s19).trans ((execs_nx s20).trans ((execs_nx s21).trans ((execs_nx s22).trans ((execs_nx s23).trans ((execs_nx s24).trans ((execs_nx s25).trans ((execs_nx s26).trans ((execs_nx s27).trans ((execs_nx s28).trans ((execs_nx s29).trans (execs_rt s30)))))))))))))))))))))))))))))
end Law
set_option maxRecDepth 100000
set_option maxHeartbeats 0
namespace Law
open PySem PySem.Spec PyProof.Rows L2
def top (i : Nat) : Stmt := PySem.Challenge.pw_duskgates_k37_tariffs_and_beds.main.body.getD i (.Pass ⟨0, 0, 0, 0⟩)
def d0 : He.DefD := ⟨("common", none), "common", "common", defArgs (top 4), defBody (top 4), defScope (top 4), [], []⟩
def x0 : Rx.DX := ⟨d0, ["a", "b"], ["a", "b"]⟩
def d1 : He.DefD := ⟨("lowest", none), "lowest", "lowest", defArgs (top 5), defBody (top 5), defScope (top 5), [], []⟩
def x1 : Rx.DX := ⟨d1, ["a", "b"], ["a", "b", "divisor", "sign"]⟩
def d2 : He.DefD := ⟨("price_of", none), "price_of", "price_of", defArgs (top 8), defBody (top 8), defScope (top 8), [], []⟩
def x2 : Rx.DX := ⟨d2, ["tariff", "number"], ["tariff", "number", "upto", "price"]⟩
def d3 : He.DefD := ⟨("due_of", none), "due_of", "due_of", defArgs (top 9), defBody (top 9), defScope (top 9), [], []⟩
def x3 : Rx.DX := ⟨d3, ["tariff", "many"], ["tariff", "many", "number"]⟩
def d4 : He.DefD := ⟨("flat_due", none), "flat_due", "flat_due", defArgs (top 10), defBody (top 10), defScope (top 10), [], []⟩
def x4 : Rx.DX := ⟨d4, ["tariff", "many"], ["tariff", "many"]⟩
def d5 : He.DefD := ⟨("fair_price", none), "fair_price", "fair_price", defArgs (top 11), defBody (top 11), defScope (top 11), [], []⟩
def x5 : Rx.DX := ⟨d5, ["tariff", "many"], ["tariff", "many"]⟩
def d6 : He.DefD := ⟨("cheapest_parts", none), "cheapest_parts", "cheapest_parts", defArgs (top 12), defBody (top 12), defScope (top 12), [], []⟩
def x6 : Rx.DX := ⟨d6, ["tariff", "many", "most"], ["tariff", "many", "most", "known", "best", "found", "least", "first", "rest"]⟩
def d7 : He.DefD := ⟨("cheapest_due", none), "cheapest_due", "cheapest_due", defArgs (top 13), defBody (top 13), defScope (top 13), [], []⟩
def x7 : Rx.DX := ⟨d7, ["tariff", "many", "most", "least", "known"], ["tariff", "many", "most", "least", "known", "told", "first", "rest"]⟩
def d8 : He.DefD := ⟨("is_milder", none), "is_milder", "is_milder", defArgs (top 14), defBody (top 14), defScope (top 14), [], []⟩
def x8 : Rx.DX := ⟨d8, ["tariff", "other"], ["tariff", "other", "many"]⟩
def d9 : He.DefD := ⟨("where_they_meet", none), "where_they_meet", "where_they_meet", defArgs (top 15), defBody (top 15), defScope (top 15), [], []⟩
def x9 : Rx.DX := ⟨d9, ["tariff", "other"], ["tariff", "other", "many"]⟩
def d10 : He.DefD := ⟨("has_night", none), "has_night", "has_night", defArgs (top 16), defBody (top 16), defScope (top 16), [], []⟩
def x10 : Rx.DX := ⟨d10, ["stay", "night"], ["stay", "night"]⟩
def d11 : He.DefD := ⟨("guests_on", none), "guests_on", "guests_on", defArgs (top 17), defBody (top 17), defScope (top 17), [], []⟩
def x11 : Rx.DX := ⟨d11, ["stays", "night"], ["stays", "night", "k", "stay"]⟩
def d12 : He.DefD := ⟨("beds_needed", none), "beds_needed", "beds_needed", defArgs (top 18), defBody (top 18), defScope (top 18), [], []⟩
def x12 : Rx.DX := ⟨d12, ["stays"], ["stays", "first", "_"]⟩
def d13 : He.DefD := ⟨("do_clash", none), "do_clash", "do_clash", defArgs (top 19), defBody (top 19), defScope (top 19), [], []⟩
def x13 : Rx.DX := ⟨d13, ["one", "other"], ["one", "other"]⟩
def d14 : He.DefD := ⟨("choices_of", none), "choices_of", "choices_of", defArgs (top 20), defBody (top 20), defScope (top 20), [], []⟩
def x14 : Rx.DX := ⟨d14, ["stays"], ["stays", "found", "k", "some", "j"]⟩
def d15 : He.DefD := ⟨("best_stays", none), "best_stays", "best_stays", defArgs (top 21), defBody (top 21), defScope (top 21), [], []⟩
def x15 : Rx.DX := ⟨d15, ["stays"], ["stays", "choices", "worths", "k", "some"]⟩
def d16 : He.DefD := ⟨("longest_free", none), "longest_free", "longest_free", defArgs (top 22), defBody (top 22), defScope (top 22), [], []⟩
def x16 : Rx.DX := ⟨d16, ["stays", "first", "last"], ["stays", "first", "last", "best", "start", "night", "free"]⟩
def d17 : He.DefD := ⟨("moved_in", none), "moved_in", "moved_in", defArgs (top 23), defBody (top 23), defScope (top 23), [], []⟩
def x17 : Rx.DX := ⟨d17, ["stays", "beds"], ["stays", "beds", "found", "_", "k", "stay", "taken", "j", "bed", "free"]⟩
def d18 : He.DefD := ⟨("_law_draw", none), "_law_draw", "_law_draw", defArgs (top 25), defBody (top 25), defScope (top 25), [], []⟩
def x18 : Rx.DX := ⟨d18, ["script"], ["script", "seed", "cell"]⟩
def d19 : He.DefD := ⟨("_law_take", none), "_law_take", "_law_take", defArgs (top 26), defBody (top 26), defScope (top 26), [], []⟩
def x19 : Rx.DX := ⟨d19, ["draw", "many"], ["draw", "many", "found"]⟩
def d20 : He.DefD := ⟨("_law_lowest", none), "_law_lowest", "_law_lowest", defArgs (top 27), defBody (top 27), defScope (top 27), [], []⟩
def x20 : Rx.DX := ⟨d20, ["a", "b"], ["a", "b", "c", "d"]⟩
def d21 : He.DefD := ⟨("_law_tariff", none), "_law_tariff", "_law_tariff", defArgs (top 28), defBody (top 28), defScope (top 28), [], []⟩
def x21 : Rx.DX := ⟨d21, ["draw"], ["draw", "upto", "found", "k"]⟩
def d22 : He.DefD := ⟨("_law_price", none), "_law_price", "_law_price", defArgs (top 29), defBody (top 29), defScope (top 29), [], []⟩
def x22 : Rx.DX := ⟨d22, ["tariff", "number"], ["tariff", "number", "fits", "upto", "price"]⟩
def d23 : He.DefD := ⟨("_law_due", none), "_law_due", "_law_due", defArgs (top 30), defBody (top 30), defScope (top 30), [], []⟩
def x23 : Rx.DX := ⟨d23, ["tariff", "many"], ["tariff", "many", "number"]⟩
def d24 : He.DefD := ⟨("_law_rows", none), "_law_rows", "_law_rows", defArgs (top 31), defBody (top 31), defScope (top 31), [], []⟩
def x24 : Rx.DX := ⟨d24, ["many", "most", "least"], ["many", "most", "least", "found", "first", "rest"]⟩
def d25 : He.DefD := ⟨("_law_told", none), "_law_told", "_law_told", defArgs (top 32), defBody (top 32), defScope (top 32), [], []⟩
def x25 : Rx.DX := ⟨d25, ["kind", "one", "two", "three"], ["kind", "one", "two", "three"]⟩
def d26 : He.DefD := ⟨("law", none), "law", "law", defArgs (top 33), defBody (top 33), defScope (top 33), [], []⟩
def x26 : Rx.DX := ⟨d26, ["script"], ("script" :: "draw" :: "tariff" :: "other" :: "many" :: "most" :: "first" :: "second" :: "n" :: "rows" :: "dues" :: "part" :: "row" :: "stays" :: "k" :: "night" :: "full" :: "one" :: "groups" :: "some" :: "good" :: "worths" :: "a" :: "b" :: "runs" :: "start" :: "end" :: "longest" :: "run" :: "beds" :: "found" :: "taken" :: "j" :: "free" :: "bed" :: [])⟩
def fs : List Rx.DX := [x0, x1, x2, x3, x4, x5, x6, x7, x8, x9, x10, x11, x12, x13, x14, x15, x16, x17, x18, x19, x20, x21, x22, x23, x24, x25, x26]
def bl : List Str := ["abs", "all", "any", "enumerate", "int", "isinstance", "len", "list", "max", "min", "range", "sorted", "sum", "tuple"]
def gc : List Str := ["MAX_MET"]
def ex : List Str := ["Missing"]
theorem chk : Rx.chkAll gc bl ex (fs.map fun x => (x.d.name, x.ps.length)) fs T = true := by kernel_rfl
def fn : List He.DefD := fs.map (·.d)
def fa : List He.Fa := [.glo "common", .glo "lowest", .glo "price_of", .glo "due_of", .glo "flat_due", .glo "fair_price", .glo "cheapest_parts", .glo "cheapest_due", .glo "is_milder", .glo "where_they_meet", .glo "has_night", .glo "guests_on", .glo "beds_needed", .glo "do_clash", .glo "choices_of", .glo "best_stays", .glo "longest_free", .glo "moved_in", .glo "_law_draw", .glo "_law_take", .glo "_law_lowest", .glo "_law_tariff", .glo "_law_price", .glo "_law_due", .glo "_law_rows", .glo "_law_told", .glo "law", .int "MAX_MET" (200), .glo "Missing", .exc "Missing", .exm "Missing" "Missing" true] ++ bl.map .free
def exB (K : PySem.W.Frag) : Bool := true
abbrev R : PySem.W.OpenRow := PySem.W.OpenLaw.row PySem.Challenge.rw_duskgates_k37_tariffs_and_beds
abbrev hk : PySem.W.Hook := Rx.hookR 4 fa fn exB
def ob (s : PySem.W.SharedT) : He.AlD := Rx.obsRG 4 fa fn exB (HandSHeadRun.getT s)
theorem ob_eq (s : PySem.W.SharedT) : ob s = hk.obs s.abs := Rx.obsRG_eq (HandSHeadRun.getT_eq s)
def names : List PySem.Str := ["HouseError", "Missing", "common", "lowest", "MAX_MET", "price_of", "due_of", "flat_due", "fair_price", "cheapest_parts", "cheapest_due", "is_milder", "where_they_meet", "has_night", "guests_on", "beds_needed", "do_clash", "choices_of", "best_stays", "longest_free", "moved_in", "_law_draw", "_law_take", "_law_lowest", "_law_tariff", "_law_price", "_law_due", "_law_rows", "_law_told"]
theorem run (w : World) : HandSHeadRun.RunEq R (PySem.W.view R.prog [33]) hk ob 2000 names w := by
  intro os
  kernel_rfl
def cl (K : PySem.W.Frag) : Rx.Cl := fun x => .ref (He.ga K x)
theorem def0 {K : PySem.W.Frag} {h : Heap} {mg : Str → Option Value} (X : K.In h) (G : h.Ns mainGlobals mg) (c : He.SaysD fa fn K) : ∃ f fd, FunD K x0.d.name x0.d.qual x0.d.params x0.d.body x0.d.scope [] [] f fd ∧ mg x0.d.name = some (.ref f) ∧ Binds K fd x0.ps [] := by
  obtain ⟨fd, F⟩ := c.def_ 0 (d := d0) rfl
  exact ⟨_, fd, F, He.glo_ok X G (c.fact 0 (f := .glo "common") rfl), FunD.bindsN (ps := x0.ps) F fun _ _ _ _ _ _ us hl => match us, hl with | [_, _], _ => rfl⟩
theorem def1 {K : PySem.W.Frag} {h : Heap} {mg : Str → Option Value} (X : K.In h) (G : h.Ns mainGlobals mg) (c : He.SaysD fa fn K) : ∃ f fd, FunD K x1.d.name x1.d.qual x1.d.params x1.d.body x1.d.scope [] [] f fd ∧ mg x1.d.name = some (.ref f) ∧ Binds K fd x1.ps [] := by
  obtain ⟨fd, F⟩ := c.def_ 1 (d := d1) rfl
  exact ⟨_, fd, F, He.glo_ok X G (c.fact 1 (f := .glo "lowest") rfl), FunD.bindsN (ps := x1.ps) F fun _ _ _ _ _ _ us hl => match us, hl with | [_, _], _ => rfl⟩
theorem def2 {K : PySem.W.Frag} {h : Heap} {mg : Str → Option Value} (X : K.In h) (G : h.Ns mainGlobals mg) (c : He.SaysD fa fn K) : ∃ f fd, FunD K x2.d.name x2.d.qual x2.d.params x2.d.body x2.d.scope [] [] f fd ∧ mg x2.d.name = some (.ref f) ∧ Binds K fd x2.ps [] := by
  obtain ⟨fd, F⟩ := c.def_ 2 (d := d2) rfl
  exact ⟨_, fd, F, He.glo_ok X G (c.fact 2 (f := .glo "price_of") rfl), FunD.bindsN (ps := x2.ps) F fun _ _ _ _ _ _ us hl => match us, hl with | [_, _], _ => rfl⟩
theorem def3 {K : PySem.W.Frag} {h : Heap} {mg : Str → Option Value} (X : K.In h) (G : h.Ns mainGlobals mg) (c : He.SaysD fa fn K) : ∃ f fd, FunD K x3.d.name x3.d.qual x3.d.params x3.d.body x3.d.scope [] [] f fd ∧ mg x3.d.name = some (.ref f) ∧ Binds K fd x3.ps [] := by
  obtain ⟨fd, F⟩ := c.def_ 3 (d := d3) rfl
  exact ⟨_, fd, F, He.glo_ok X G (c.fact 3 (f := .glo "due_of") rfl), FunD.bindsN (ps := x3.ps) F fun _ _ _ _ _ _ us hl => match us, hl with | [_, _], _ => rfl⟩
theorem def4 {K : PySem.W.Frag} {h : Heap} {mg : Str → Option Value} (X : K.In h) (G : h.Ns mainGlobals mg) (c : He.SaysD fa fn K) : ∃ f fd, FunD K x4.d.name x4.d.qual x4.d.params x4.d.body x4.d.scope [] [] f fd ∧ mg x4.d.name = some (.ref f) ∧ Binds K fd x4.ps [] := by
  obtain ⟨fd, F⟩ := c.def_ 4 (d := d4) rfl
  exact ⟨_, fd, F, He.glo_ok X G (c.fact 4 (f := .glo "flat_due") rfl), FunD.bindsN (ps := x4.ps) F fun _ _ _ _ _ _ us hl => match us, hl with | [_, _], _ => rfl⟩
theorem def5 {K : PySem.W.Frag} {h : Heap} {mg : Str → Option Value} (X : K.In h) (G : h.Ns mainGlobals mg) (c : He.SaysD fa fn K) : ∃ f fd, FunD K x5.d.name x5.d.qual x5.d.params x5.d.body x5.d.scope [] [] f fd ∧ mg x5.d.name = some (.ref f) ∧ Binds K fd x5.ps [] := by
  obtain ⟨fd, F⟩ := c.def_ 5 (d := d5) rfl
  exact ⟨_, fd, F, He.glo_ok X G (c.fact 5 (f := .glo "fair_price") rfl), FunD.bindsN (ps := x5.ps) F fun _ _ _ _ _ _ us hl => match us, hl with | [_, _], _ => rfl⟩
theorem def6 {K : PySem.W.Frag} {h : Heap} {mg : Str → Option Value} (X : K.In h) (G : h.Ns mainGlobals mg) (c : He.SaysD fa fn K) : ∃ f fd, FunD K x6.d.name x6.d.qual x6.d.params x6.d.body x6.d.scope [] [] f fd ∧ mg x6.d.name = some (.ref f) ∧ Binds K fd x6.ps [] := by
  obtain ⟨fd, F⟩ := c.def_ 6 (d := d6) rfl
  exact ⟨_, fd, F, He.glo_ok X G (c.fact 6 (f := .glo "cheapest_parts") rfl), FunD.bindsN (ps := x6.ps) F fun _ _ _ _ _ _ us hl => match us, hl with | [_, _, _], _ => rfl⟩
theorem def7 {K : PySem.W.Frag} {h : Heap} {mg : Str → Option Value} (X : K.In h) (G : h.Ns mainGlobals mg) (c : He.SaysD fa fn K) : ∃ f fd, FunD K x7.d.name x7.d.qual x7.d.params x7.d.body x7.d.scope [] [] f fd ∧ mg x7.d.name = some (.ref f) ∧ Binds K fd x7.ps [] := by
  obtain ⟨fd, F⟩ := c.def_ 7 (d := d7) rfl
  exact ⟨_, fd, F, He.glo_ok X G (c.fact 7 (f := .glo "cheapest_due") rfl), FunD.bindsN (ps := x7.ps) F fun _ _ _ _ _ _ us hl => match us, hl with | [_, _, _, _, _], _ => rfl⟩
theorem def8 {K : PySem.W.Frag} {h : Heap} {mg : Str → Option Value} (X : K.In h) (G : h.Ns mainGlobals mg) (c : He.SaysD fa fn K) : ∃ f fd, FunD K x8.d.name x8.d.qual x8.d.params x8.d.body x8.d.scope [] [] f fd ∧ mg x8.d.name = some (.ref f) ∧ Binds K fd x8.ps [] := by
  obtain ⟨fd, F⟩ := c.def_ 8 (d := d8) rfl
  exact ⟨_, fd, F, He.glo_ok X G (c.fact 8 (f := .glo "is_milder") rfl), FunD.bindsN (ps := x8.ps) F fun _ _ _ _ _ _ us hl => match us, hl with | [_, _], _ => rfl⟩
theorem def9 {K : PySem.W.Frag} {h : Heap} {mg : Str → Option Value} (X : K.In h) (G : h.Ns mainGlobals mg) (c : He.SaysD fa fn K) : ∃ f fd, FunD K x9.d.name x9.d.qual x9.d.params x9.d.body x9.d.scope [] [] f fd ∧ mg x9.d.name = some (.ref f) ∧ Binds K fd x9.ps [] := by
  obtain ⟨fd, F⟩ := c.def_ 9 (d := d9) rfl
  exact ⟨_, fd, F, He.glo_ok X G (c.fact 9 (f := .glo "where_they_meet") rfl), FunD.bindsN (ps := x9.ps) F fun _ _ _ _ _ _ us hl => match us, hl with | [_, _], _ => rfl⟩
theorem def10 {K : PySem.W.Frag} {h : Heap} {mg : Str → Option Value} (X : K.In h) (G : h.Ns mainGlobals mg) (c : He.SaysD fa fn K) : ∃ f fd, FunD K x10.d.name x10.d.qual x10.d.params x10.d.body x10.d.scope [] [] f fd ∧ mg x10.d.name = some (.ref f) ∧ Binds K fd x10.ps [] := by
  obtain ⟨fd, F⟩ := c.def_ 10 (d := d10) rfl
  exact ⟨_, fd, F, He.glo_ok X G (c.fact 10 (f := .glo "has_night") rfl), FunD.bindsN (ps := x10.ps) F fun _ _ _ _ _ _ us hl => match us, hl with | [_, _], _ => rfl⟩
theorem def11 {K : PySem.W.Frag} {h : Heap} {mg : Str → Option Value} (X : K.In h) (G : h.Ns mainGlobals mg) (c : He.SaysD fa fn K) : ∃ f fd, FunD K x11.d.name x11.d.qual x11.d.params x11.d.body x11.d.scope [] [] f fd ∧ mg x11.d.name = some (.ref f) ∧ Binds K fd x11.ps [] := by
  obtain ⟨fd, F⟩ := c.def_ 11 (d := d11) rfl
  exact ⟨_, fd, F, He.glo_ok X G (c.fact 11 (f := .glo "guests_on") rfl), FunD.bindsN (ps := x11.ps) F fun _ _ _ _ _ _ us hl => match us, hl with | [_, _], _ => rfl⟩
theorem def12 {K : PySem.W.Frag} {h : Heap} {mg : Str → Option Value} (X : K.In h) (G : h.Ns mainGlobals mg) (c : He.SaysD fa fn K) : ∃ f fd, FunD K x12.d.name x12.d.qual x12.d.params x12.d.body x12.d.scope [] [] f fd ∧ mg x12.d.name = some (.ref f) ∧ Binds K fd x12.ps [] := by
  obtain ⟨fd, F⟩ := c.def_ 12 (d := d12) rfl
  exact ⟨_, fd, F, He.glo_ok X G (c.fact 12 (f := .glo "beds_needed") rfl), FunD.bindsN (ps := x12.ps) F fun _ _ _ _ _ _ us hl => match us, hl with | [_], _ => rfl⟩
theorem def13 {K : PySem.W.Frag} {h : Heap} {mg : Str → Option Value} (X : K.In h) (G : h.Ns mainGlobals mg) (c : He.SaysD fa fn K) : ∃ f fd, FunD K x13.d.name x13.d.qual x13.d.params x13.d.body x13.d.scope [] [] f fd ∧ mg x13.d.name = some (.ref f) ∧ Binds K fd x13.ps [] := by
  obtain ⟨fd, F⟩ := c.def_ 13 (d := d13) rfl
  exact ⟨_, fd, F, He.glo_ok X G (c.fact 13 (f := .glo "do_clash") rfl), FunD.bindsN (ps := x13.ps) F fun _ _ _ _ _ _ us hl => match us, hl with | [_, _], _ => rfl⟩
theorem def14 {K : PySem.W.Frag} {h : Heap} {mg : Str → Option Value} (X : K.In h) (G : h.Ns mainGlobals mg) (c : He.SaysD fa fn K) : ∃ f fd, FunD K x14.d.name x14.d.qual x14.d.params x14.d.body x14.d.scope [] [] f fd ∧ mg x14.d.name = some (.ref f) ∧ Binds K fd x14.ps [] := by
  obtain ⟨fd, F⟩ := c.def_ 14 (d := d14) rfl
  exact ⟨_, fd, F, He.glo_ok X G (c.fact 14 (f := .glo "choices_of") rfl), FunD.bindsN (ps := x14.ps) F fun _ _ _ _ _ _ us hl => match us, hl with | [_], _ => rfl⟩
theorem def15 {K : PySem.W.Frag} {h : Heap} {mg : Str → Option Value} (X : K.In h) (G : h.Ns mainGlobals mg) (c : He.SaysD fa fn K) : ∃ f fd, FunD K x15.d.name x15.d.qual x15.d.params x15.d.body x15.d.scope [] [] f fd ∧ mg x15.d.name = some (.ref f) ∧ Binds K fd x15.ps [] := by
  obtain ⟨fd, F⟩ := c.def_ 15 (d := d15) rfl
  exact ⟨_, fd, F, He.glo_ok X G (c.fact 15 (f := .glo "best_stays") rfl), FunD.bindsN (ps := x15.ps) F fun _ _ _ _ _ _ us hl => match us, hl with | [_], _ => rfl⟩
theorem def16 {K : PySem.W.Frag} {h : Heap} {mg : Str → Option Value} (X : K.In h) (G : h.Ns mainGlobals mg) (c : He.SaysD fa fn K) : ∃ f fd, FunD K x16.d.name x16.d.qual x16.d.params x16.d.body x16.d.scope [] [] f fd ∧ mg x16.d.name = some (.ref f) ∧ Binds K fd x16.ps [] := by
  obtain ⟨fd, F⟩ := c.def_ 16 (d := d16) rfl
  exact ⟨_, fd, F, He.glo_ok X G (c.fact 16 (f := .glo "longest_free") rfl), FunD.bindsN (ps := x16.ps) F fun _ _ _ _ _ _ us hl => match us, hl with | [_, _, _], _ => rfl⟩
theorem def17 {K : PySem.W.Frag} {h : Heap} {mg : Str → Option Value} (X : K.In h) (G : h.Ns mainGlobals mg) (c : He.SaysD fa fn K) : ∃ f fd, FunD K x17.d.name x17.d.qual x17.d.params x17.d.body x17.d.scope [] [] f fd ∧ mg x17.d.name = some (.ref f) ∧ Binds K fd x17.ps [] := by
  obtain ⟨fd, F⟩ := c.def_ 17 (d := d17) rfl
  exact ⟨_, fd, F, He.glo_ok X G (c.fact 17 (f := .glo "moved_in") rfl), FunD.bindsN (ps := x17.ps) F fun _ _ _ _ _ _ us hl => match us, hl with | [_, _], _ => rfl⟩
theorem def18 {K : PySem.W.Frag} {h : Heap} {mg : Str → Option Value} (X : K.In h) (G : h.Ns mainGlobals mg) (c : He.SaysD fa fn K) : ∃ f fd, FunD K x18.d.name x18.d.qual x18.d.params x18.d.body x18.d.scope [] [] f fd ∧ mg x18.d.name = some (.ref f) ∧ Binds K fd x18.ps [] := by
  obtain ⟨fd, F⟩ := c.def_ 18 (d := d18) rfl
  exact ⟨_, fd, F, He.glo_ok X G (c.fact 18 (f := .glo "_law_draw") rfl), FunD.bindsN (ps := x18.ps) F fun _ _ _ _ _ _ us hl => match us, hl with | [_], _ => rfl⟩
theorem def19 {K : PySem.W.Frag} {h : Heap} {mg : Str → Option Value} (X : K.In h) (G : h.Ns mainGlobals mg) (c : He.SaysD fa fn K) : ∃ f fd, FunD K x19.d.name x19.d.qual x19.d.params x19.d.body x19.d.scope [] [] f fd ∧ mg x19.d.name = some (.ref f) ∧ Binds K fd x19.ps [] := by
  obtain ⟨fd, F⟩ := c.def_ 19 (d := d19) rfl
  exact ⟨_, fd, F, He.glo_ok X G (c.fact 19 (f := .glo "_law_take") rfl), FunD.bindsN (ps := x19.ps) F fun _ _ _ _ _ _ us hl => match us, hl with | [_, _], _ => rfl⟩
theorem def20 {K : PySem.W.Frag} {h : Heap} {mg : Str → Option Value} (X : K.In h) (G : h.Ns mainGlobals mg) (c : He.SaysD fa fn K) : ∃ f fd, FunD K x20.d.name x20.d.qual x20.d.params x20.d.body x20.d.scope [] [] f fd ∧ mg x20.d.name = some (.ref f) ∧ Binds K fd x20.ps [] := by
  obtain ⟨fd, F⟩ := c.def_ 20 (d := d20) rfl
  exact ⟨_, fd, F, He.glo_ok X G (c.fact 20 (f := .glo "_law_lowest") rfl), FunD.bindsN (ps := x20.ps) F fun _ _ _ _ _ _ us hl => match us, hl with | [_, _], _ => rfl⟩
theorem def21 {K : PySem.W.Frag} {h : Heap} {mg : Str → Option Value} (X : K.In h) (G : h.Ns mainGlobals mg) (c : He.SaysD fa fn K) : ∃ f fd, FunD K x21.d.name x21.d.qual x21.d.params x21.d.body x21.d.scope [] [] f fd ∧ mg x21.d.name = some (.ref f) ∧ Binds K fd x21.ps [] := by
  obtain ⟨fd, F⟩ := c.def_ 21 (d := d21) rfl
  exact ⟨_, fd, F, He.glo_ok X G (c.fact 21 (f := .glo "_law_tariff") rfl), FunD.bindsN (ps := x21.ps) F fun _ _ _ _ _ _ us hl => match us, hl with | [_], _ => rfl⟩
theorem def22 {K : PySem.W.Frag} {h : Heap} {mg : Str → Option Value} (X : K.In h) (G : h.Ns mainGlobals mg) (c : He.SaysD fa fn K) : ∃ f fd, FunD K x22.d.name x22.d.qual x22.d.params x22.d.body x22.d.scope [] [] f fd ∧ mg x22.d.name = some (.ref f) ∧ Binds K fd x22.ps [] := by
  obtain ⟨fd, F⟩ := c.def_ 22 (d := d22) rfl
  exact ⟨_, fd, F, He.glo_ok X G (c.fact 22 (f := .glo "_law_price") rfl), FunD.bindsN (ps := x22.ps) F fun _ _ _ _ _ _ us hl => match us, hl with | [_, _], _ => rfl⟩
theorem def23 {K : PySem.W.Frag} {h : Heap} {mg : Str → Option Value} (X : K.In h) (G : h.Ns mainGlobals mg) (c : He.SaysD fa fn K) : ∃ f fd, FunD K x23.d.name x23.d.qual x23.d.params x23.d.body x23.d.scope [] [] f fd ∧ mg x23.d.name = some (.ref f) ∧ Binds K fd x23.ps [] := by
  obtain ⟨fd, F⟩ := c.def_ 23 (d := d23) rfl
  exact ⟨_, fd, F, He.glo_ok X G (c.fact 23 (f := .glo "_law_due") rfl), FunD.bindsN (ps := x23.ps) F fun _ _ _ _ _ _ us hl => match us, hl with | [_, _], _ => rfl⟩
theorem def24 {K : PySem.W.Frag} {h : Heap} {mg : Str → Option Value} (X : K.In h) (G : h.Ns mainGlobals mg) (c : He.SaysD fa fn K) : ∃ f fd, FunD K x24.d.name x24.d.qual x24.d.params x24.d.body x24.d.scope [] [] f fd ∧ mg x24.d.name = some (.ref f) ∧ Binds K fd x24.ps [] := by
  obtain ⟨fd, F⟩ := c.def_ 24 (d := d24) rfl
  exact ⟨_, fd, F, He.glo_ok X G (c.fact 24 (f := .glo "_law_rows") rfl), FunD.bindsN (ps := x24.ps) F fun _ _ _ _ _ _ us hl => match us, hl with | [_, _, _], _ => rfl⟩
theorem def25 {K : PySem.W.Frag} {h : Heap} {mg : Str → Option Value} (X : K.In h) (G : h.Ns mainGlobals mg) (c : He.SaysD fa fn K) : ∃ f fd, FunD K x25.d.name x25.d.qual x25.d.params x25.d.body x25.d.scope [] [] f fd ∧ mg x25.d.name = some (.ref f) ∧ Binds K fd x25.ps [] := by
  obtain ⟨fd, F⟩ := c.def_ 25 (d := d25) rfl
  exact ⟨_, fd, F, He.glo_ok X G (c.fact 25 (f := .glo "_law_told") rfl), FunD.bindsN (ps := x25.ps) F fun _ _ _ _ _ _ us hl => match us, hl with | [_, _, _, _], _ => rfl⟩
theorem def26 {K : PySem.W.Frag} {h : Heap} {mg : Str → Option Value} (X : K.In h) (G : h.Ns mainGlobals mg) (c : He.SaysD fa fn K) : ∃ f fd, FunD K x26.d.name x26.d.qual x26.d.params x26.d.body x26.d.scope [] [] f fd ∧ mg x26.d.name = some (.ref f) ∧ Binds K fd x26.ps [] := by
  obtain ⟨fd, F⟩ := c.def_ 26 (d := d26) rfl
  exact ⟨_, fd, F, He.glo_ok X G (c.fact 26 (f := .glo "law") rfl), FunD.bindsN (ps := x26.ps) F fun _ _ _ _ _ _ us hl => match us, hl with | [_], _ => rfl⟩
theorem defs {K : PySem.W.Frag} {h : Heap} {mg : Str → Option Value} (X : K.In h) (G : h.Ns mainGlobals mg) (c : He.SaysD fa fn K) : ∀ (f : Nat) x, fs[f]? = some x → ∃ fa fd, FunD K x.d.name x.d.qual x.d.params x.d.body x.d.scope [] [] fa fd ∧ mg x.d.name = some (.ref fa) ∧ Binds K fd x.ps []
  | 0, _, rfl => def0 X G c
  | 1, _, rfl => def1 X G c
  | 2, _, rfl => def2 X G c
  | 3, _, rfl => def3 X G c
  | 4, _, rfl => def4 X G c
  | 5, _, rfl => def5 X G c
  | 6, _, rfl => def6 X G c
  | 7, _, rfl => def7 X G c
  | 8, _, rfl => def8 X G c
  | 9, _, rfl => def9 X G c
  | 10, _, rfl => def10 X G c
  | 11, _, rfl => def11 X G c
  | 12, _, rfl => def12 X G c
  | 13, _, rfl => def13 X G c
  | 14, _, rfl => def14 X G c
  | 15, _, rfl => def15 X G c
  | 16, _, rfl => def16 X G c
  | 17, _, rfl => def17 X G c
  | 18, _, rfl => def18 X G c
  | 19, _, rfl => def19 X G c
  | 20, _, rfl => def20 X G c
  | 21, _, rfl => def21 X G c
  | 22, _, rfl => def22 X G c
  | 23, _, rfl => def23 X G c
  | 24, _, rfl => def24 X G c
  | 25, _, rfl => def25 X G c
  | 26, _, rfl => def26 X G c
  | _ + 27, _, h => nomatch h
theorem globs {K : PySem.W.Frag} {h : Heap} {mg : Str → Option Value} (X : K.In h) (Gn : h.Ns mainGlobals mg) (c : He.SaysD fa fn K) (e : exB K = true) : ∀ (j : Nat) x, gc[j]? = some x → ∃ d v u, (⟨K, G⟩ : Rx.Gm).G[j]? = some d ∧ mg x = some u ∧ RelV v u ∧ Rx.GlobOk ⟨K, G⟩ d v
  | 0, _, rfl => let ⟨t, e⟩ := He.int_ok X Gn (c.fact 27 (f := .int "MAX_MET" (200)) rfl); ⟨_, .int (200), _, rfl, e, ⟨t, rfl⟩, fun _ _ => .int _⟩
  | _ + 1, _, h => nomatch h
theorem exm0 : ∀ x ∈ ex, He.Fa.glo x ∈ fa := fun x hx => by
  rcases List.mem_cons.mp hx with rfl | hx
  · exact List.mem_of_getElem? (i := 28) rfl
  cases hx
theorem exm1 : ∀ x ∈ ex, He.Fa.exc x ∈ fa := fun x hx => by
  rcases List.mem_cons.mp hx with rfl | hx
  · exact List.mem_of_getElem? (i := 29) rfl
  cases hx
theorem exm2 : ∀ x ∈ ex, He.Fa.exm x x true ∈ fa := fun x hx => by
  rcases List.mem_cons.mp hx with rfl | hx
  · exact List.mem_of_getElem? (i := 30) rfl
  cases hx
theorem topx {P : Program} {w : World} {K : PySem.W.Frag} {h : Heap} {mg : Str → Option Value} (base : Heap) (X : K.In h) (Gn : h.Ns mainGlobals mg) (c : Rx.SaysR fa fn exB K) : Rx.TopX P w ⟨K, G⟩ (cl K) mg base gc bl ex fs T where
  len := Rx.chkAll_len chk
  chk := Rx.chkAll_get chk
  def_ := defs X Gn c.all.1
  free := Rx.frees X Gn c.all.1 fun x hx => List.mem_append_right _ (List.mem_map_of_mem hx)
  glob := globs X Gn c.all.1 c.all.2
  exc := (Rx.exc_all X Gn c.all.1 exm0 exm1 exm2).1
  cls := (Rx.exc_all X Gn c.all.1 exm0 exm1 exm2).2
end Law
open PySem PySem.W PySem.Calls PyProof.Rows
theorem PySem.Challenge.cw_duskgates_k37_tariffs_and_beds_holds : PySem.Challenge.rw_duskgates_k37_tariffs_and_beds.Holds := by
  w_on; o_law
  refine HandSHeadRun.head_any (r := OpenLaw.row PySem.Challenge.rw_duskgates_k37_tariffs_and_beds) (q := view (OpenLaw.row PySem.Challenge.rw_duskgates_k37_tariffs_and_beds).prog [33]) (H := Law.hk) (ob := Law.ob) (M := 2000) (loose := Law.names) (d := HandSHeadRun.topDef (OpenLaw.row PySem.Challenge.rw_duskgates_k37_tariffs_and_beds).prog 33) (kwd := []) Law.ob_eq
    (by kernel_rfl) (fun s => by kernel_rfl) Law.run (by kernel_rfl) (by kernel_rfl) (by kernel_rfl) (by rfl) (by first | assumption | decide +kernel) (by decide +kernel) ⟨rfl, rfl, rfl, rfl, rfl, by decide +kernel⟩ ?hw ?hc
  case hw => w_witness2
  case hc =>
    refine L2.walk_ofE (l := PySem.Challenge.rw_duskgates_k37_tariffs_and_beds) (n := 63) (k := 20) (x := "script") (CX := fun _ _ _ _ _ _ => False) rfl (by decide) (by kernel_rfl) ⟨rfl, by decide, by decide⟩ ?F (fun _ _ _ _ z => z)
    intro w mg fa h Y G hmg0
    obtain ⟨K, KX, c⟩ := Y
    have hmg : mg ("law" : PySem.Str) = some (.ref fa) := by
      have e : (HandSHeadRun.topDef (OpenLaw.row PySem.Challenge.rw_duskgates_k37_tariffs_and_beds).prog 33).name = ("law" : PySem.Str) := by kernel_rfl
      rw [← e]
      exact hmg0
    have tx : ∀ base, Rx.TopX (PySem.Challenge.rw_duskgates_k37_tariffs_and_beds).prog w ⟨K, Law.G⟩ (Law.cl K) mg base Law.gc Law.bl Law.ex Law.fs Law.T := fun base => Law.topx base KX G c
    obtain ⟨fd, F⟩ := c.all.1.def_ 26 (d := Law.d26) rfl
    have e := hmg.symm.trans (He.glo_ok KX G (c.all.1.fact 26 (f := .glo "law") rfl))
    cases e
    have b := L2.FunD.bindsA (ps := ["script"]) F fun _ _ _ _ _ _ us hl => match us, hl with | [_], _ => rfl
    exact ⟨K, fd, fun vs H Q _ => Rx.spC ⟨K, Law.G⟩ (Law.cl K) 1 (Rx.callK Law.T Law.G 20 26) vs H Q fun _ _ _ => False, KX, fun s v => b s [v] rfl, fun H a ns hl _ hS => Rx.law_sp (Γ := ⟨K, Law.G⟩) (cl := Law.cl K) (n := 63) (by decide) Law.pure_law H a ns hl hS, fun base _ _ => Rx.to0 (Rx.defs_ok (tx base) 20 26 Law.x26 _ fd rfl F)⟩
