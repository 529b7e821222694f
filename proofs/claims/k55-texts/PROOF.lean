import PyProof.Rows.All
import Wide.All
import OpenK.AllK
import Wide.FinOn
import HandS.ForMost
import HandS.Wide
import HandS.IsInst
import HandS.Style
import HandS.Conv
import HandS.RevRange
import HandS.Defaults
import HandS.ExcOwn
import HandS.TryOnly
import HandS.WordsExc
import HandS.Deep
import HandS.SetFor
import HandS.WideBits
import HandS.Star
import HandS.Head0
import HandS.Head1
import HandS.Head2
import HandS.HeadEnd
import HandS.HeadHook1
import HandS.HeadHook2
import HandS.HeadWalk
import KE.KIntText
import KE.IntTextText
import HandS.Text
import PySem.Challenge.RW_topups_k55_texts_written_and_read
set_option Elab.async false
set_option linter.all false
set_option autoImplicit false
set_option maxRecDepth 100000
set_option maxHeartbeats 4000000
/-! Mp: a small total evaluator over plain data for the part of Python that the program and its laws use. -/
namespace Mp
open PySem PySem.Spec PyProof.Rows L2

/-- plain data; scr: the script; opq 0: an empty dict, opq 1: an instance of an own class, opq n: others -/
inductive D where
  | non | bl (b : Bool) | int (i : Int) | str (x : Str)
  | lst (xs : List D) | tup (xs : List D) | scr (ns : List Int) | opq (n : Nat)
  deriving Inhabited

mutual
def D.py : D → PyData
  | .non => .none
  | .bl b => .bool b
  | .int i => .int i
  | .str x => .str x
  | .lst xs => .list (pys xs)
  | .tup xs => .tuple (pys xs)
  | .scr _ => .dict []
  | .opq _ => .dict []
def pys : List D → List PyData
  | [] => []
  | x :: xs => x.py :: pys xs
end

inductive Op2 where
  | add | sub | mul | fdiv | mod | pow
  deriving DecidableEq
inductive Cm where
  | eq | ne | lt | le | gt | ge | isin | notin
  deriving DecidableEq
/-- what an isinstance asks for: a built-in's name, an own class by its number -/
inductive Ty where
  | b (n : String) | c (k : Nat)
  deriving DecidableEq
inductive Bn where
  | abs | int | len | sum | max | min | all | any | list | tuple | sorted | str | divmod | lrange
  deriving DecidableEq
inductive Mt where
  | bitlen | index | count | join | split | startswith
  deriving DecidableEq

/-- expressions (nil, cons: argument lists; rng1 .. zip: what is walked) -/
inductive E where
  | cst (d : D) | glo (x : Str) (d : D) | var (i : Nat) | own (i : Nat)
  | neg (a : E) | bin (o : Op2) (a b : E) | cmp (o : Cm) (a b : E)
  | ch2 (o p : Cm) (a b c : E) | ch3 (o p q : Cm) (a b c d : E)
  | isN (a : E) | notN (a : E)
  | and (a b : E) | or (a b : E) | not (a : E) | ife (c a b : E)
  | lst (es : E) | tup (es : E)
  | idx (a b : E) | slc (a lo hi : E) | rev (a : E) | noe
  | call (f : Nat) (es : E) | callO (f i : Nat) (es : E)
  | blt (b : Bn) (es : E) | isi (a : E) (ts : List Ty)
  | mth (m : Mt) (o : E) (es : E)
  | comp (elt : E) (tg : List Nat) (one : Bool) (it : E) (cond : E)
  | nil | cons (e es : E) | splat (a es : E) | fcons (e es : E) | callK (f : Nat) (es : E) (js : List Nat)
  | rng1 (a : E) | rng2 (a b : E) | rng3 (a b c : E) | enm (a : E) | zip (a b : E)

/-- statements -/
inductive S where
  | skip | seq (s t : S)
  | expr (e : E) | asg (i : Nat) (e : E) | asgO (i : Nat) (e : E) | unp (is : List Nat) (e : E)
  | aug (i : Nat) (o : Op2) (e : E) | setO (i : Nat) (k e : E) | augO (i : Nat) (k : E) (o : Op2) (e : E)
  | app (i : Nat) (e : E) | ext (i : Nat) (e : E)
  | ifs (c : E) (a b : S) | whl (c : E) (b : S) | for (tg : List Nat) (one : Bool) (it : E) (b : S)
  | spoil (i j : Nat) (es : E)
  | ret (e : E) | retO (i : Nat) | retN | brk | rais (c : Nat) (p : E) | frz (i : Nat)
  | never

/-- an expression's outcome: a value, an error (its class's number, what it carries), or nothing is said -/
inductive Out (α : Type) where
  | ok (a : α) (ω : List (Nat × List D)) | ex (c : Nat) (p : List D) (ω : List (Nat × List D)) | st
abbrev Om := List (Nat × List D)
abbrev Eta := List (Option D)
abbrev M (α : Type) := Om → Out α
def Out.bnd {α β : Type} (x : Out α) (f : α → Om → Out β) : Out β := match x with
  | .ok a ω => f a ω
  | .ex c p ω => .ex c p ω
  | .st => .st
@[simp] theorem Out.bnd_ok {α β : Type} (a : α) (ω : Om) (f : α → Om → Out β) : (Out.ok a ω).bnd f = f a ω := rfl
@[simp] theorem Out.bnd_ex {α β : Type} (c : Nat) (p : List D) (ω : Om) (f : α → Om → Out β) : (Out.ex c p ω).bnd f = .ex c p ω := rfl
@[simp] theorem Out.bnd_st {α β : Type} (f : α → Om → Out β) : (Out.st).bnd f = (.st : Out β) := rfl
def Out.of {α : Type} (ω : Om) : Option α → Out α
  | some a => .ok a ω
  | none => .st
@[simp] theorem Out.of_some {α : Type} (ω : Om) (a : α) : Out.of ω (some a) = .ok a ω := rfl
@[simp] theorem Out.of_none {α : Type} (ω : Om) : Out.of ω (none : Option α) = .st := rfl
/-- a function's outcome: with what its first, changed argument holds -/
inductive FOut where
  | ok (d : D) (o : List D) | ex (c : Nat) (p : List D) (o : List D) | st

/-! ### the operations -/
def isMul (i j : Int) : Bool := decide (i.natAbs.log2 + j.natAbs.log2 < 1000000)
def addD : D → D → Option D
  | .int i, .int j => some (.int (i + j))
  | .str x, .str y => if x.length + y.length ≤ sizeLine then some (.str (x ++ y)) else none
  | .lst xs, .lst ys => if xs.length + ys.length ≤ sizeLine then some (.lst (xs ++ ys)) else none
  | _, _ => none
def subD : D → D → Option D
  | .int i, .int j => some (.int (i - j))
  | _, _ => none
def mulD : D → D → Option D
  | .int i, .int j => if isMul i j then some (.int (i * j)) else none
  | .lst xs, .int k => if k < 1000000 ∧ -1000000 < k ∧ xs.length * k.toNat ≤ sizeLine then some (.lst (List.replicate k.toNat xs).flatten) else none
  | _, _ => none
def fdivD : D → D → Option D
  | .int i, .int j => if 0 < j ∧ j.natAbs.log2 < 9000 then some (.int (i / j)) else none
  | _, _ => none
def modD : D → D → Option D
  | .int i, .int j => if 0 < j then some (.int (i % j)) else none
  | _, _ => none
def powD : D → D → Option D
  | .int i, .int j => if 0 ≤ j ∧ ((i.natAbs.log2 : Int) + 1) * j ≤ 134217728 then some (.int (i ^ j.toNat)) else none
  | _, _ => none
def op2D : Op2 → D → D → Option D
  | .add => addD | .sub => subD | .mul => mulD | .fdiv => fdivD | .mod => modD | .pow => powD
/-- x op= y, of whole numbers -/
def augD : Op2 → D → D → Option D
  | .add, .int i, .int j => some (.int (i + j))
  | .sub, .int i, .int j => some (.int (i - j))
  | .mul, .int i, .int j => if isMul i j then some (.int (i * j)) else none
  | _, _, _ => none
def shaped (d : D) : Bool := SeqAt.shaped d.py
def eqD (a b : D) : Option Bool := if shaped a && shaped b then some (PyData.eqv a.py b.py) else none
def ltD : D → D → Option Bool
  | .int i, .int j => some (decide (i < j))
  | _, _ => none
def leD : D → D → Option Bool
  | .int i, .int j => some (decide (i ≤ j))
  | _, _ => none
def inD (a : D) : D → Option Bool
  | .lst ys => if shaped a && shaped (.lst ys) then some ((pys ys).any fun z => PyData.eqv z a.py) else none
  | .str y => (match a with
    | .str x => some (!(Builtin.Str.occurrences y x 0 y.length 1).isEmpty)
    | _ => none)
  | _ => none
def cmpD : Cm → D → D → Option Bool
  | .eq, a, b => eqD a b
  | .ne, a, b => (eqD a b).map (!·)
  | .lt, a, b => ltD a b
  | .le, a, b => leD a b
  | .gt, a, b => ltD b a
  | .ge, a, b => leD b a
  | .isin, a, b => inD a b
  | .notin, a, b => (inD a b).map (!·)
def idxD : D → D → Option D
  | .lst xs, .int i => atI xs i
  | .tup xs, .int i => atI xs i
  | .scr ns, .int i => (atI ns i).map .int
  | .str z, .int i => if z.length ≤ sizeLine then (atI z.cps.toList i).map fun c => .str ⟨#[c]⟩ else none
  | _, _ => none
/-- the parts of a list between two places -/
def cutD {α : Type} (xs : List α) (lo hi : Option Int) : List α := (xs.drop (HT.sIx xs.length 0 lo)).take (HT.sIx xs.length xs.length hi - HT.sIx xs.length 0 lo)
def optI : D → Option (Option Int)
  | .non => some none
  | .int i => some (some i)
  | _ => none
def slcO (a : D) (l h : Option Int) : Option D := match a with
  | .lst xs => some (.lst (cutD xs l h))
  | .scr ns => some (.lst ((cutD ns l h).map .int))
  | .str z => if z.length ≤ sizeLine then some (.str (cutS z l h)) else none
  | _ => none
def slcD (a lo hi : D) : Option D := (optI lo).bind fun l => (optI hi).bind fun h => slcO a l h
def revD : D → Option D
  | .lst xs => some (.lst xs.reverse)
  | _ => none
def intL : List D → Option (List Int)
  | [] => some []
  | .int i :: r => (intL r).map (i :: ·)
  | _ => none
def boolL : List D → Option (List Bool)
  | [] => some []
  | .bl i :: r => (boolL r).map (i :: ·)
  | _ => none
def strL : List D → Option (List Str)
  | [] => some []
  | .str i :: r => (strL r).map (i :: ·)
  | _ => none
def maxI : List Int → Int
  | [] => 0
  | [x] => x
  | x :: y :: r => let m := maxI (y :: r); if m > x then m else x
def minI : List Int → Int
  | [] => 0
  | [x] => x
  | x :: y :: r => let m := minI (y :: r); if m < x then m else x
def lenD : D → Option Nat
  | .lst xs => some xs.length
  | .tup xs => some xs.length
  | .scr xs => some xs.length
  | .str z => if z.length ≤ sizeLine then some z.length else none
  | _ => none
def absD : List D → Option D
  | [.int i] => some (.int (if i < 0 then -i else i))
  | _ => none
def intD : List D → Option D
  | [.int i] => some (.int i)
  | [.bl b] => some (.int (if b then 1 else 0))
  | [.str x] => if x.length ≤ 640 then (PySem.intText? x).map .int else none
  | _ => none
def len1D : List D → Option D
  | [a] => (lenD a).map fun n => .int (n : Int)
  | _ => none
def sumD : List D → Option D
  | [.lst xs] => (intL xs).map fun ns => .int ns.sum
  | _ => none
def maxD : List D → Option D
  | [.int i, .int j] => some (.int (if j > i then j else i))
  | [.lst xs] => if xs.isEmpty then none else (intL xs).map fun ns => .int (maxI ns)
  | _ => none
def minD : List D → Option D
  | [.int i, .int j] => some (.int (if j < i then j else i))
  | [.lst xs] => if xs.isEmpty then none else (intL xs).map fun ns => .int (minI ns)
  | _ => none
def allD : List D → Option D
  | [.lst xs] => (boolL xs).map fun bs => .bl (bs.all id)
  | _ => none
def anyD : List D → Option D
  | [.lst xs] => (boolL xs).map fun bs => .bl (bs.any id)
  | _ => none
def listD : List D → Option D
  | [.lst xs] => some (.lst xs)
  | [.tup xs] => some (.lst xs)
  | _ => none
def tupleD : List D → Option D
  | [.lst xs] => some (.tup xs)
  | [.tup xs] => some (.tup xs)
  | _ => none
def strD : List D → Option D
  | [.int i] => if i.natAbs.log2 < 1920 then some (.str (toString i)) else none
  | _ => none
def divmodD : List D → Option D
  | [.int i, .int j] => if 0 < j ∧ j < 1073741824 then some (.tup [.int (i / j), .int (i % j)]) else none
  | _ => none
def bltD : Bn → List D → Option D
  | .abs => absD | .int => intD | .len => len1D | .sum => sumD | .max => maxD | .min => minD | .all => allD | .any => anyD
  | .list => listD | .tuple => tupleD | .str => strD | .divmod => divmodD | _ => fun _ => none
def tyB (n : String) : D → Bool
  | .non => false
  | .bl _ => n == "bool" || n == "int"
  | .int _ => n == "int"
  | .str _ => n == "str"
  | .lst _ => n == "list"
  | .scr _ => n == "list"
  | .tup _ => n == "tuple"
  | .opq k => k == 0 && n == "dict"
def tyNames : List String := ["int", "bool", "str", "list", "tuple", "dict"]
def isiD (a : D) : List Ty → Option Bool
  | [] => some false
  | .b n :: r => if tyNames.contains n then (if tyB n a then some true else isiD a r) else none
  | .c _ :: _ => none
def joinOk (a : Str) (ys : List Str) : Bool := decide ((ys.map (·.length)).sum + ys.length * a.length ≤ 16777216)
def indexD : D → List D → Option D
  | .lst xs, [y] => if shaped (.lst xs) && shaped y then ((pys xs).findIdx? (fun z => PyData.eqv z y.py)).map fun (j : Nat) => .int (j : Int) else none
  | _, _ => none
def countD : D → List D → Option D
  | .lst xs, [.int y] => (intL xs).map fun ns => .int (ns.count y : Nat)
  | _, _ => none
def joinD : D → List D → Option D
  | .str a, [.lst xs] => (strL xs).bind fun ys => if joinOk a ys then some (.str (Txt.join a ys)) else none
  | _, _ => none
def splitD : D → List D → Option D
  | .str a, [.str b] => if (b.length == 0) = false ∧ a.length + 2 ≤ sizeLine then some (.lst ((Txt.split a b).map .str)) else none
  | _, _ => none
def startsD : D → List D → Option D
  | .str a, [.str b] => some (.bl (Txt.startswith a b))
  | _, _ => none
def bitsD : D → List D → Option D
  | .int i, [] => some (.int (Builtin.Int.intBits i : Nat))
  | _, _ => none
def mtD : Mt → D → List D → Option D
  | .index => indexD | .count => countD | .join => joinD | .split => splitD | .startswith => startsD | .bitlen => bitsD
def itemsD : D → Option (List D)
  | .lst xs => some xs
  | .tup xs => some xs
  | .scr ns => some (ns.map .int)
  | .str z => some (z.cps.toList.map fun c => .str ⟨#[c]⟩)
  | _ => none
/-- what a star in front hands on -/
def splD : D → Option (List D)
  | .lst xs => some xs
  | .tup xs => some xs
  | _ => none
/-- keywords' values in the parameters' order -/
def perm {α : Type} (js : List Nat) (xs : List α) : List α := js.filterMap fun j => xs[j]?
def spOk (xs : List D) : Bool := decide (xs.length ≤ 1000) && xs.all fun d => match d with
  | .lst ys => decide (ys.length + 1000 < sizeLine)
  | _ => false
def iotaD (lo : Int) (n : Nat) : List D := (List.range n).map fun (k : Nat) => .int (lo + (k : Int))
def enumFrom (k : Nat) : List D → List D
  | [] => []
  | x :: r => .tup [.int (k : Int), x] :: enumFrom (k + 1) r
def zipD : List D → List D → List D
  | x :: xs, y :: ys => .tup [x, y] :: zipD xs ys
  | _, _ => []
def RNG : Int := 10000000

/-! ### binding -/
def bindMany : List Nat → List D → Eta → Option Eta
  | [], [], η => some η
  | i :: is, d :: ds, η => bindMany is ds (η.set i (some d))
  | _, _, _ => none
/-- the loop's names -/
def bindTg (tg : List Nat) (one : Bool) (d : D) (η : Eta) : Option Eta := match one with
  | true => (match tg with
    | [i] => some (η.set i (some d))
    | _ => none)
  | false => (match d with
    | .tup ds => bindMany tg ds η
    | _ => none)
/-- what an own slot holds -/
def look : Om → Nat → Option (List D)
  | [], _ => none
  | (j, x) :: r, i => if i = j then some x else look r i
def put : Om → Nat → List D → Om
  | [], i, x => [(i, x)]
  | (j, y) :: r, i, x => if i = j then (i, x) :: r else (j, y) :: put r i x
def drp : Om → Nat → Om
  | [], _ => []
  | (j, y) :: r, i => if i = j then drp r i else (j, y) :: drp r i
def late : E → Option Nat
  | .own i => some i
  | _ => none
def snap (ω : Om) (o : Option Nat) (d : D) : Option D := match o with
  | some i => (look ω i).map .lst
  | none => some d
def fin (x : FOut) (f : D → List D → Out D) (g : Nat → List D → List D → Out D) : Out D := match x with
  | .ok d o => f d o
  | .ex c p o => g c p o
  | .st => .st
theorem look_put (ω : Om) (i j : Nat) (x : List D) : look (put ω i x) j = if j = i then some x else look ω j := by
  induction ω with
  | nil => rfl
  | cons p r ih =>
    obtain ⟨k, y⟩ := p
    unfold put
    by_cases h : i = k
    · rw [if_pos h]
      unfold look
      by_cases h2 : j = i
      · rw [if_pos h2, if_pos h2]
      · rw [if_neg h2, if_neg h2, if_neg (by omega)]
    · rw [if_neg h]
      unfold look
      by_cases h2 : j = k
      · rw [if_pos h2, if_pos h2, if_neg (by omega)]
      · rw [if_neg h2, if_neg h2, ih]
theorem look_drp (ω : Om) (i j : Nat) : look (drp ω i) j = if j = i then none else look ω j := by
  induction ω with
  | nil => simp [drp, look]
  | cons p r ih =>
    obtain ⟨k, y⟩ := p
    unfold drp
    by_cases h : i = k
    · rw [if_pos h, ih]
      conv => rhs; unfold look
      by_cases h2 : j = i
      · rw [if_pos h2, if_pos h2]
      · rw [if_neg h2, if_neg h2, if_neg (by omega)]
    · rw [if_neg h]
      unfold look
      by_cases h2 : j = k
      · rw [if_pos h2, if_pos h2, if_neg (by omega)]
      · rw [if_neg h2, if_neg h2, ih]
/-- the turns of a comprehension -/
def compGo (body : Eta → M (Option D)) (tg : List Nat) (one : Bool) (η : Eta) : List D → List D → M (List D)
  | [], acc, ω => if tg.any fun i => (look ω i).isSome then .st else .ok acc ω
  | x :: r, acc, ω => if tg.any fun i => (look ω i).isSome then .st else match bindTg tg one x η with
    | some η' => (match body η' ω with
      | .ok (some d) ω' => if acc.length < sizeLine then compGo body tg one η r (acc ++ [d]) ω' else .st
      | .ok none ω' => compGo body tg one η r acc ω'
      | _ => .st)
    | none => .st
abbrev Phi := Nat → List D → List D → FOut
def tru : D → Option Bool
  | .bl b => some b
  | _ => none

/-- an operand: an own slot is read late -/
def opd (o : Option Nat) (f : Eta → M D) : Eta → M D := fun η ω => match o with
  | some i => if (look ω i).isSome then .ok .non ω else .st
  | none => f η ω
def opd2 (a b : Option Nat) (f g : Eta → M D) : Eta → M (D × D) := fun η ω =>
  (opd a f η ω).bnd fun x ω => (opd b g η ω).bnd fun y ω => Out.of ω ((snap ω a x).bind fun x => (snap ω b y).bind fun y => some (x, y))
def isNoe : E → Bool
  | .noe => true
  | _ => false
/-- an optional part of a slice -/
def part (b : Bool) (f : Eta → M D) : Eta → M D := fun η ω => match b with
  | true => .ok .non ω
  | false => (f η ω).bnd fun x ω => match x with
    | .int i => .ok (.int i) ω
    | _ => .st
/-- a comprehension's test -/
def ctest (b : Bool) (f : Eta → M D) : Eta → M Bool := fun η ω => match b with
  | true => .ok true ω
  | false => (f η ω).bnd fun x ω => Out.of ω (tru x)
theorem Out.bnd_assoc {α β γ : Type} (x : Out α) (f : α → Om → Out β) (g : β → Om → Out γ) : (x.bnd f).bnd g = x.bnd fun a ω => (f a ω).bnd g := by
  cases x <;> rfl
def ctake (c : Eta → M Bool) (f : Eta → M D) : Eta → M (Option D) := fun η ω => (c η ω).bnd fun b ω => match b with
  | true => (f η ω).bnd fun d ω => .ok (some d) ω
  | false => .ok none ω
/-- is it a value that has the method? -/
def mtOk : Mt → Option D → Bool
  | .index, some (.lst _) => true
  | .count, some (.lst _) => true
  | .join, some (.str _) => true
  | .split, some (.str _) => true
  | .startswith, some (.str _) => true
  | .bitlen, some (.int _) => true
  | _, _ => false
/-- as a test -/
def asB (f : Eta → M D) : Eta → M Bool := fun η ω => (f η ω).bnd fun x ω => Out.of ω (tru x)
structure Sem where
  e : Eta → M D
  es : Eta → M (List D)
def Sem.ofE (f : Eta → M D) : Sem := ⟨f, fun _ _ => .st⟩

def isInt : D → Option Int
  | .int i => some i
  | _ => none
def isNon : D → Bool
  | .non => true
  | _ => false
def isLst : D → Option (List D)
  | .lst xs => some xs
  | _ => none
/-- go on by a truth value -/
def onB (x : D) (t f : Out D) : Out D := match x with
  | .bl true => t
  | .bl false => f
  | _ => .st
def onO (x : Option Bool) (t f : Out D) : Out D := match x with
  | some true => t
  | some false => f
  | none => .st
def onI (x : D) (f : Int → Out D) : Out D := match x with
  | .int i => f i
  | _ => .st
def onL (x : D) (f : List D → Out D) : Out D := match x with
  | .lst i => f i
  | _ => .st

def evX (Φ : Phi) : E → Sem
  | .cst d => .ofE fun _ ω => .ok d ω
  | .glo _ d => .ofE fun _ ω => .ok d ω
  | .var i => .ofE fun η ω => Out.of ω ((η[i]?).getD none)
  | .own i => .ofE fun _ ω => Out.of ω ((look ω i).map .lst)
  | .neg a => let A := evX Φ a; .ofE fun η ω => (A.e η ω).bnd fun x ω => onI x fun i => .ok (.int (-i)) ω
  | .bin o a b => let A := evX Φ a; let B := evX Φ b; .ofE fun η ω => (opd2 (late a) (late b) A.e B.e η ω).bnd fun p ω => Out.of ω (op2D o p.1 p.2)
  | .cmp o a b => let A := evX Φ a; let B := evX Φ b; .ofE fun η ω => (opd2 (late a) (late b) A.e B.e η ω).bnd fun p ω => Out.of ω ((cmpD o p.1 p.2).map .bl)
  | .ch2 o p a b c => let A := evX Φ a; let B := evX Φ b; let C := evX Φ c; .ofE fun η ω => (A.e η ω).bnd fun x ω => (B.e η ω).bnd fun y ω =>
      onO (cmpD o x y) ((C.e η ω).bnd fun z ω => Out.of ω ((cmpD p y z).map .bl)) (.ok (.bl false) ω)
  | .ch3 o p q a b c d => let A := evX Φ a; let B := evX Φ b; let C := evX Φ c; let F := evX Φ d; .ofE fun η ω => (A.e η ω).bnd fun x ω => (B.e η ω).bnd fun y ω =>
      onO (cmpD o x y) ((C.e η ω).bnd fun z ω => onO (cmpD p y z) ((F.e η ω).bnd fun w ω => Out.of ω ((cmpD q z w).map .bl)) (.ok (.bl false) ω)) (.ok (.bl false) ω)
  | .isN a => let A := evX Φ a; .ofE fun η ω => (A.e η ω).bnd fun x ω => .ok (.bl (isNon x)) ω
  | .notN a => let A := evX Φ a; .ofE fun η ω => (A.e η ω).bnd fun x ω => .ok (.bl (!isNon x)) ω
  | .and a b => let A := evX Φ a; let B := evX Φ b; .ofE fun η ω => (A.e η ω).bnd fun x ω => onB x (B.e η ω) (.ok (.bl false) ω)
  | .or a b => let A := evX Φ a; let B := evX Φ b; .ofE fun η ω => (A.e η ω).bnd fun x ω => onB x (.ok (.bl true) ω) (B.e η ω)
  | .not a => let A := evX Φ a; .ofE fun η ω => (A.e η ω).bnd fun x ω => onB x (.ok (.bl false) ω) (.ok (.bl true) ω)
  | .ife c a b => let C := evX Φ c; let A := evX Φ a; let B := evX Φ b; .ofE fun η ω => (C.e η ω).bnd fun x ω => onB x (A.e η ω) (B.e η ω)
  | .lst es => let A := evX Φ es; .ofE fun η ω => (A.es η ω).bnd fun xs ω => if xs.length ≤ sizeLine then .ok (.lst xs) ω else .st
  | .tup es => let A := evX Φ es; .ofE fun η ω => (A.es η ω).bnd fun xs ω => if xs.length ≤ sizeLine then .ok (.tup xs) ω else .st
  | .idx a b => let A := evX Φ a; let B := evX Φ b; .ofE fun η ω => (opd2 (late a) (late b) A.e B.e η ω).bnd fun p ω => Out.of ω (idxD p.1 p.2)
  | .slc a lo hi => let A := evX Φ a; let L := evX Φ lo; let H := evX Φ hi; .ofE fun η ω => (opd (late a) A.e η ω).bnd fun x ω => (part (isNoe lo) L.e η ω).bnd fun l ω =>
      (part (isNoe hi) H.e η ω).bnd fun h ω => Out.of ω ((snap ω (late a) x).bind fun x => slcD x l h)
  | .rev a => let A := evX Φ a; .ofE fun η ω => (opd (late a) A.e η ω).bnd fun x ω => Out.of ω ((snap ω (late a) x).bind revD)
  | .noe => .ofE fun _ ω => .ok .non ω
  | .call f es => let A := evX Φ es; .ofE fun η ω => (A.es η ω).bnd fun xs ω => fin (Φ f xs []) (fun d _ => .ok d ω) fun c p _ => .ex c p ω
  | .callO f i es => let A := evX Φ es; .ofE fun η ω => if (look ω i).isSome then (A.es η ω).bnd fun xs ω => match look ω i with
    | some o => fin (Φ f xs o) (fun d o' => .ok d (put ω i o')) fun c p o' => .ex c p (put ω i o')
    | none => .st
    else .st
  | .blt b es => let A := evX Φ es; .ofE fun η ω => (A.es η ω).bnd fun xs ω => Out.of ω (bltD b xs)
  | .isi a ts => let A := evX Φ a; .ofE fun η ω => (opd (late a) A.e η ω).bnd fun x ω => Out.of ω ((snap ω (late a) x).bind fun x => (isiD x ts).map .bl)
  | .mth m o es => let O := evX Φ o; let A := evX Φ es; .ofE fun η ω => (opd (late o) O.e η ω).bnd fun x ω => if mtOk m (snap ω (late o) x) then
      (A.es η ω).bnd fun xs ω => Out.of ω ((snap ω (late o) x).bind fun x => mtD m x xs) else .st
  | .comp elt tg one it cond => let L := evX Φ elt; let I := evX Φ it; let C := evX Φ cond; .ofE fun η ω => (I.e η ω).bnd fun x ω => match itemsD x with
    | none => .st
    | some xs => (compGo (ctake (ctest (isNoe cond) C.e) L.e) tg one η xs [] ω).bnd fun ys ω => .ok (.lst ys) ω
  | .nil => ⟨fun _ _ => .st, fun _ ω => .ok [] ω⟩
  | .cons e es => let A := evX Φ e; let B := evX Φ es; ⟨fun _ _ => .st, fun η ω => (opd (late e) A.e η ω).bnd fun x ω => (B.es η ω).bnd fun xs ω => Out.of ω ((snap ω (late e) x).bind fun x => some (x :: xs))⟩
  | .splat a es => let A := evX Φ a; let B := evX Φ es; ⟨fun _ _ => .st, fun η ω => (A.e η ω).bnd fun x ω => match splD x with
    | some ys => (B.es η ω).bnd fun xs ω => .ok (ys ++ xs) ω
    | none => .st⟩
  | .fcons e es => let A := evX Φ e; let B := evX Φ es; ⟨fun _ _ => .st, fun η ω => (A.e η ω).bnd fun x ω => match isLst x with
    | some _ => (B.es η ω).bnd fun xs ω => .ok (x :: xs) ω
    | none => .st⟩
  | .callK f es js => let A := evX Φ es; .ofE fun η ω => (A.es η ω).bnd fun xs ω => fin (Φ f (perm js xs) []) (fun d _ => .ok d ω) fun c p _ => .ex c p ω
  | .rng1 a => let A := evX Φ a; .ofE fun η ω => (A.e η ω).bnd fun x ω => onI x fun j => if -RNG < j ∧ j < RNG then .ok (.lst (iotaD 0 j.toNat)) ω else .st
  | .rng2 a b => let A := evX Φ a; let B := evX Φ b; .ofE fun η ω => (A.e η ω).bnd fun x ω => (B.e η ω).bnd fun y ω => onI x fun i => onI y fun j =>
      if -RNG < i ∧ i < RNG ∧ -RNG < j ∧ j < RNG then .ok (.lst (iotaD i (j - i).toNat)) ω else .st
  | .rng3 a b c => let A := evX Φ a; let B := evX Φ b; let C := evX Φ c; .ofE fun η ω => (A.e η ω).bnd fun x ω => (B.e η ω).bnd fun y ω => (C.e η ω).bnd fun z ω => onI x fun i => onI y fun j => onI z fun k =>
      if -RNG < i ∧ i < RNG ∧ -RNG < j ∧ j < RNG ∧ k = -1 then .ok (.lst ((List.range (i - j).toNat).map fun (n : Nat) => .int (i - (n : Int)))) ω else .st
  | .enm a => let A := evX Φ a; .ofE fun η ω => (A.e η ω).bnd fun x ω => onL x fun xs => .ok (.lst (enumFrom 0 xs)) ω
  | .zip a b => let A := evX Φ a; let B := evX Φ b; .ofE fun η ω => (opd2 (late a) (late b) A.e B.e η ω).bnd fun p ω => onL p.1 fun xs => onL p.2 fun ys => .ok (.lst (zipD xs ys)) ω
def ev (Φ : Phi) (e : E) : Eta → M D := (evX Φ e).e
def evs (Φ : Phi) (e : E) : Eta → M (List D) := (evX Φ e).es

/-! ### statements -/
inductive OutS where
  | nx (η : Eta) (ω : Om) | rt (d : D) (η : Eta) (ω : Om) | bk (η : Eta) (ω : Om) | ex (c : Nat) (p : List D) (ω : Om) | st
/-- go on with a value -/
def Out.on {α : Type} (x : Out α) (f : α → Om → OutS) : OutS := match x with
  | .ok a ω => f a ω
  | .ex c p ω => .ex c p ω
  | .st => .st
@[simp] theorem Out.on_ok {α : Type} (a : α) (ω : Om) (f : α → Om → OutS) : (Out.ok a ω).on f = f a ω := rfl
@[simp] theorem Out.on_ex {α : Type} (c : Nat) (p : List D) (ω : Om) (f : α → Om → OutS) : (Out.ex c p ω : Out α).on f = .ex c p ω := rfl
@[simp] theorem Out.on_st {α : Type} (f : α → Om → OutS) : (Out.st : Out α).on f = .st := rfl
def ifS (x : D) (t f : OutS) : OutS := match x with
  | .bl true => t
  | .bl false => f
  | _ => .st
def onS {α : Type} (x : Option α) (f : α → OutS) : OutS := match x with
  | some a => f a
  | none => .st
@[simp] theorem onS_some {α : Type} (a : α) (f : α → OutS) : onS (some a) f = f a := rfl
@[simp] theorem onS_none {α : Type} (f : α → OutS) : onS (none : Option α) f = .st := rfl
abbrev SM := Eta → Om → OutS
def OutS.andThen (x : OutS) (f : SM) : OutS := match x with
  | .nx η ω => f η ω
  | o => o
def forGo (body : SM) (tg : List Nat) (one : Bool) : List D → SM
  | [], η, ω => .nx η ω
  | x :: r, η, ω => if tg.any fun i => (look ω i).isSome then .st else onS (bindTg tg one x η) fun η' => match body η' ω with
    | .nx η'' ω'' => forGo body tg one r η'' ω''
    | .bk η'' ω'' => .nx η'' ω''
    | o => o
def whlGo (c : Eta → M D) (body : SM) : Nat → SM
  | 0, _, _ => .st
  | n + 1, η, ω => (c η ω).on fun x ω => ifS x (match body η ω with
    | .nx η' ω' => whlGo c body n η' ω'
    | .bk η' ω' => .nx η' ω'
    | o => o) (.nx η ω)
/-- the longest while -/
def LOOPS : Nat := 1000000
def popS (ω : Om) (i : Nat) (f : List D → OutS) : OutS := onS (look ω i) f
def evS (Φ : Phi) : S → SM
  | .skip => fun η ω => .nx η ω
  | .never => fun _ _ => .st
  | .seq s t => let A := evS Φ s; let B := evS Φ t; fun η ω => (A η ω).andThen B
  | .expr e => fun η ω => (ev Φ e η ω).on fun _ ω => .nx η ω
  | .asg i e => fun η ω => (ev Φ e η ω).on fun d ω => if (look ω i).isSome then .st else .nx (η.set i (some d)) ω
  | .asgO i e => fun η ω => if 0 < i ∧ i < η.length then (ev Φ e η ω).on fun d ω => onS (isLst d) fun xs => .nx (η.set i none) (put ω i xs) else .st
  | .unp is e => fun η ω => (ev Φ e η ω).on fun d ω => if is.any fun i => (look ω i).isSome then .st else onS (bindTg is false d η) fun η' => .nx η' ω
  | .aug i o e => fun η ω => onS ((η[i]?).getD none) fun x => (ev Φ e η ω).on fun y ω => onS (augD o x y) fun z => if (look ω i).isSome then .st else .nx (η.set i (some z)) ω
  | .setO i k e => fun η ω => (ev Φ e η ω).on fun d ω => if (look ω i).isSome = false then .st else (ev Φ k η ω).on fun x ω => onS (isInt x) fun n => popS ω i fun xs => onS (ixN xs.length n) fun j => .nx η (put ω i (xs.set j d))
  | .augO i k o e => fun η ω => if (look ω i).isSome = false then .st else (ev Φ k η ω).on fun x ω => onS (isInt x) fun n => popS ω i fun xs => onS (if 0 ≤ n ∧ n < 10000000 then xs[n.toNat]? else none) fun old => (ev Φ e η ω).on fun y ω => onS (augD o old y) fun z =>
      popS ω i fun xs => onS (ixN xs.length n) fun j => .nx η (put ω i (xs.set j z))
  | .app i e => fun η ω => if (look ω i).isSome = false then .st else (ev Φ e η ω).on fun d ω => popS ω i fun xs => if xs.length < sizeLine then .nx η (put ω i (xs ++ [d])) else .st
  | .ext i e => fun η ω => if (look ω i).isSome = false then .st else (ev Φ e η ω).on fun d ω => onS (isLst d) fun ys => popS ω i fun xs => if xs.length + ys.length ≤ sizeLine then .nx η (put ω i (xs ++ ys)) else .st
  | .ifs c a b => let A := evS Φ a; let B := evS Φ b; fun η ω => (ev Φ c η ω).on fun x ω => ifS x (A η ω) (B η ω)
  | .whl c b => let B := evS Φ b; fun η ω => whlGo (ev Φ c) B LOOPS η ω
  | .for tg one it b => let B := evS Φ b; fun η ω => (ev Φ it η ω).on fun x ω => onS (itemsD x) fun xs => forGo B tg one xs η ω
  | .spoil i j es => fun η ω => if (look ω i).isSome || (look ω j).isSome || !(decide (i < η.length)) || !(decide (j < η.length)) then .st else match evs Φ es (List.replicate η.length none) [] with
    | .ok xs _ => if spOk xs then .nx ((η.set i none).set j none) ω else .st
    | _ => .st
  | .ret e => fun η ω => (ev Φ e η ω).on fun d ω => .rt d η ω
  | .retO i => fun η ω => if 0 < i then popS ω i fun xs => .rt (.lst xs) η (drp ω i) else .st
  | .retN => fun η ω => .rt .non η ω
  | .brk => fun η ω => .bk η ω
  | .rais c p => fun η ω => (evs Φ p η ω).on fun ds ω => .ex c ds ω
  | .frz i => fun η ω => if 0 < i then popS ω i fun xs => .nx (η.set i (some (.lst xs))) (drp ω i) else .st

/-! ### functions -/
/-- a def: its name, its slots' names (parameters first), how many parameters; own: its first one is changed; its body -/
structure Fn where
  name : Str
  N : List Str
  np : Nat
  own : Bool := false
  fresh : Bool := false
  body : S
def Fn.ps (f : Fn) : List Str := f.N.take f.np
def outF (own : Bool) (o : OutS) : FOut := match o with
  | .rt d _ ω => (match own with
    | true => (match look ω 0 with
      | some x => .ok d x
      | none => .st)
    | false => .ok d [])
  | .nx _ ω => (match own with
    | true => (match look ω 0 with
      | some x => .ok .non x
      | none => .st)
    | false => .ok .non [])
  | .ex c p ω => (match own with
    | true => (match look ω 0 with
      | some x => .ex c p x
      | none => .st)
    | false => .ex c p [])
  | _ => .st
/-- the names' values at the entry -/
def ent (f : Fn) (ds : List D) : Eta := match f.own with
  | true => none :: (ds.map some ++ List.replicate (f.N.length - 1 - ds.length) none)
  | false => ds.map some ++ List.replicate (f.N.length - ds.length) none
def omE (f : Fn) (o : List D) : Om := match f.own with
  | true => [(0, o)]
  | false => []
def nArgs (f : Fn) : Nat := match f.own with
  | true => f.np - 1
  | false => f.np
/-- the functions, k calls deep -/
def Fs (T : List Fn) : Nat → Phi
  | 0, _, _, _ => .st
  | k + 1, i, ds, o => match T[i]? with
    | some f => if ds.length = nArgs f then outF f.own (evS (Fs T k) f.body (ent f ds) (omE f o)) else .st
    | none => .st
end Mp

/-! Mp: how data stand in the abstract heap, and the readings of expressions. -/
namespace Mp
open PySem PySem.Spec PyProof.Rows L2
abbrev Sg := L2.St

/-- what an own class's instances answer when they are asked for a built-in type -/
structure InsTy (K : PySem.W.Frag) (C : Addr) : Prop where
  cl : Cls K C
  ha : PySem.W.findIn K (.ref C) "__class__" = some (some (.builtin "object.__class__"))
  hn : PySem.W.specialIn K (.builtin "object.__class__") "__get__" = some (some (.builtin "getset_descriptor.__get__"))
  ht : PySem.W.takesIn K (.builtin "object.__class__") = some true
  hm : PySem.W.mroIn K C (.type "object") = some true
  no : ∀ n ∈ tyNames, PySem.W.kitOne K (.ref C) (.type n) = some false
mutual
inductive Rp (K : PySem.W.Frag) (F : Hp) : V → D → Prop
  | non : Rp K F .non .non
  | bl (b : Bool) : Rp K F (.bl b) (.bl b)
  | int (i : Int) : Rp K F (.int i) (.int i)
  | str (x : Str) : Rp K F (.str x) (.str x)
  | lst {a : Addr} {vs : List V} {ds : List D} : F a = some (.lst vs) → RpL K F vs ds → Rp K F (.ref a) (.lst ds)
  | tup {a : Addr} {vs : List V} {ds : List D} : F a = some (.tup vs) → RpL K F vs ds → Rp K F (.ref a) (.tup ds)
  | scr {a : Addr} {ns : List Int} : SqL K F a (ns.map V.int) → Rp K F (.ref a) (.scr ns)
  | dic {a : Addr} : F a = some (.dK []) → Rp K F (.ref a) (.opq 0)
  | ins {a C dx : Addr} {fs : List (Str × V)} : F a = some (.ins C dx fs) → InsTy K C → Rp K F (.ref a) (.opq 1)
inductive RpL (K : PySem.W.Frag) (F : Hp) : List V → List D → Prop
  | nil : RpL K F [] []
  | cons {v : V} {vs : List V} {d : D} {ds : List D} : Rp K F v d → RpL K F vs ds → RpL K F (v :: vs) (d :: ds)
end
theorem Same.sq {K : PySem.W.Frag} {H H' : Hp} {a : Addr} {xs : List V} (e : Same H H') (h : SqL K H a xs) : SqL K H' a xs := e.seq h
section
variable {K : PySem.W.Frag} {F F' H H' : Hp}
mutual
theorem Rp.mono (e : Same F F') : ∀ {d : D} {v : V}, Rp K F v d → Rp K F' v d
  | _, _, .non => .non
  | _, _, .bl b => .bl b
  | _, _, .int i => .int i
  | _, _, .str x => .str x
  | _, _, .lst h r => .lst (e _ _ h) (RpL.mono e r)
  | _, _, .tup h r => .tup (e _ _ h) (RpL.mono e r)
  | _, _, .scr h => .scr (e.seq h)
  | _, _, .dic h => .dic (e _ _ h)
  | _, _, .ins h c => .ins (e _ _ h) c
theorem RpL.mono (e : Same F F') : ∀ {ds : List D} {vs : List V}, RpL K F vs ds → RpL K F' vs ds
  | _, _, .nil => .nil
  | _, _, .cons h r => .cons (Rp.mono e h) (RpL.mono e r)
end
theorem RpL.length : ∀ {ds : List D} {vs : List V}, RpL K F vs ds → vs.length = ds.length
  | _, _, .nil => rfl
  | _, _, .cons _ r => congrArg Nat.succ r.length
theorem RpL.get : ∀ {ds : List D} {vs : List V} {i : Nat} {d : D}, RpL K F vs ds → ds[i]? = some d → ∃ v, vs[i]? = some v ∧ Rp K F v d
  | _, _, _, _, .nil, e => by simp at e
  | _, _, 0, _, .cons h _, e => by simp at e; subst e; exact ⟨_, rfl, h⟩
  | _, _, i + 1, d, .cons _ r, e => by
    obtain ⟨v, h1, h2⟩ := RpL.get (i := i) (d := d) r (by simpa using e)
    exact ⟨v, by simpa using h1, h2⟩
theorem RpL.getV : ∀ {ds : List D} {vs : List V} {i : Nat} {v : V}, RpL K F vs ds → vs[i]? = some v → ∃ d, ds[i]? = some d ∧ Rp K F v d
  | _, _, _, _, .nil, e => by simp at e
  | _, _, 0, _, .cons h _, e => by simp at e; subst e; exact ⟨_, rfl, h⟩
  | _, _, i + 1, d, .cons _ r, e => by
    obtain ⟨v, h1, h2⟩ := RpL.getV (i := i) (v := d) r (by simpa using e)
    exact ⟨v, by simpa using h1, h2⟩
theorem RpL.append : ∀ {ds es : List D} {vs ws : List V}, RpL K F vs ds → RpL K F ws es → RpL K F (vs ++ ws) (ds ++ es)
  | _, _, _, _, .nil, s => s
  | _, _, _, _, .cons h r, s => .cons h (r.append s)
theorem RpL.take : ∀ {ds : List D} {vs : List V} (n : Nat), RpL K F vs ds → RpL K F (vs.take n) (ds.take n)
  | _, _, 0, _ => .nil
  | _, _, _ + 1, .nil => .nil
  | _, _, n + 1, .cons h r => .cons h (r.take n)
theorem RpL.drop : ∀ {ds : List D} {vs : List V} (n : Nat), RpL K F vs ds → RpL K F (vs.drop n) (ds.drop n)
  | _, _, 0, r => r
  | _, _, _ + 1, .nil => .nil
  | _, _, n + 1, .cons _ r => r.drop n
theorem RpL.rev : ∀ {ds : List D} {vs : List V}, RpL K F vs ds → RpL K F vs.reverse ds.reverse
  | _, _, .nil => .nil
  | _, _, .cons h r => by rw [List.reverse_cons, List.reverse_cons]; exact r.rev.append (.cons h .nil)
theorem RpL.set : ∀ {ds : List D} {vs : List V} {v : V} {d : D} (i : Nat), RpL K F vs ds → Rp K F v d → RpL K F (vs.set i v) (ds.set i d)
  | _, _, _, _, _, .nil, _ => .nil
  | _, _, _, _, 0, .cons _ r, h => .cons h r
  | _, _, _, _, i + 1, .cons q r, h => .cons q (r.set i h)
theorem RpL.rep {ds : List D} {vs : List V} (r : RpL K F vs ds) : ∀ n : Nat, RpL K F (List.replicate n vs).flatten (List.replicate n ds).flatten
  | 0 => .nil
  | n + 1 => by rw [List.replicate_succ, List.replicate_succ, List.flatten_cons, List.flatten_cons]; exact r.append (r.rep n)
theorem RpL.ints : ∀ {ds : List D} {vs : List V} {ns : List Int}, RpL K F vs ds → intL ds = some ns → vs = ns.map V.int
  | _, _, _, .nil, e => by
    have e' : some ([] : List Int) = some _ := e
    cases e'; rfl
  | _, _, ns, .cons (d := d) h r, e => by
    cases d with
    | int i =>
      have e' : (intL _).map (i :: ·) = some ns := e
      obtain ⟨ms, e1, e2⟩ := Option.map_eq_some_iff.mp e'
      subst e2
      cases h
      rw [r.ints e1]; rfl
    | _ => cases e
theorem RpL.bools : ∀ {ds : List D} {vs : List V} {ns : List Bool}, RpL K F vs ds → boolL ds = some ns → vs = ns.map V.bl
  | _, _, _, .nil, e => by
    have e' : some ([] : List Bool) = some _ := e
    cases e'; rfl
  | _, _, ns, .cons (d := d) h r, e => by
    cases d with
    | bl i =>
      have e' : (boolL _).map (i :: ·) = some ns := e
      obtain ⟨ms, e1, e2⟩ := Option.map_eq_some_iff.mp e'
      subst e2
      cases h
      rw [r.bools e1]; rfl
    | _ => cases e
theorem RpL.strs : ∀ {ds : List D} {vs : List V} {ns : List Str}, RpL K F vs ds → strL ds = some ns → vs = ns.map V.str
  | _, _, _, .nil, e => by
    have e' : some ([] : List Str) = some _ := e
    cases e'; rfl
  | _, _, ns, .cons (d := d) h r, e => by
    cases d with
    | str i =>
      have e' : (strL _).map (i :: ·) = some ns := e
      obtain ⟨ms, e1, e2⟩ := Option.map_eq_some_iff.mp e'
      subst e2
      cases h
      rw [r.strs e1]; rfl
    | _ => cases e
theorem rpL_ints : ∀ ns : List Int, RpL K F (ns.map V.int) (ns.map D.int)
  | [] => .nil
  | n :: r => .cons (.int n) (rpL_ints r)
theorem rpL_strs : ∀ ns : List Str, RpL K F (ns.map V.str) (ns.map D.str)
  | [] => .nil
  | n :: r => .cons (.str n) (rpL_strs r)
-- data that can be compared are the library's
mutual
theorem Rp.dp (e : Same F H) : ∀ {d : D} {v : V}, d.py.canLay0 = true → Rp K F v d → Dp K H v d.py
  | _, _, _, .non => .non
  | _, _, _, .bl b => .bl b
  | _, _, _, .int i => .int i
  | _, _, _, .str x => .str x
  | _, _, c, .lst h r => .lst (SqL.of (e _ _ h)) (RpL.dp e (by simpa [D.py, PyData.canLay0] using c) r)
  | _, _, c, .tup h r => .tup (SqT.of (e _ _ h)) (RpL.dp e (by simpa [D.py, PyData.canLay0] using c) r)
  | _, _, c, .scr h => by simp [D.py, PyData.canLay0] at c
  | _, _, c, .dic h => by simp [D.py, PyData.canLay0] at c
  | _, _, c, .ins h _ => by simp [D.py, PyData.canLay0] at c
theorem RpL.dp (e : Same F H) : ∀ {ds : List D} {vs : List V}, PyData.canLayAll0 (pys ds) = true → RpL K F vs ds → DpAll K H vs (pys ds)
  | _, _, _, .nil => .nil
  | _, _, c, .cons h r => by
    simp only [pys, PyData.canLayAll0, Bool.and_eq_true] at c
    exact .cons (Rp.dp e c.1 h) (RpL.dp e c.2 r)
end
end

/-- an operand's value: it stands in the frozen part, or is an own list of the frame -/
def Rq (K : PySem.W.Frag) (F H : Hp) (v : V) (d : D) : Prop := Rp K F v d ∨ ∃ a vs xs, v = .ref a ∧ d = .lst xs ∧ H a = some (.lst vs) ∧ RpL K F vs xs
inductive RqL (K : PySem.W.Frag) (F H : Hp) : List V → List D → Prop
  | nil : RqL K F H [] []
  | cons {v : V} {vs : List V} {d : D} {ds : List D} : Rq K F H v d → RqL K F H vs ds → RqL K F H (v :: vs) (d :: ds)
section
variable {K : PySem.W.Frag} {F F' H H' : Hp}
theorem Rq.lst {v : V} {xs : List D} (s : Same F H) (r : Rq K F H v (.lst xs)) : ∃ a vs, v = .ref a ∧ H a = some (.lst vs) ∧ RpL K F vs xs := by
  rcases r with r | ⟨a, vs, ys, e1, e2, e3, e4⟩
  · cases r with
    | lst h q => exact ⟨_, _, rfl, s _ _ h, q⟩
  · cases e2
    exact ⟨a, vs, e1, e3, e4⟩
theorem Rq.int {v : V} {i : Int} (r : Rq K F H v (.int i)) : v = .int i := by
  rcases r with r | ⟨_, _, _, _, e, _⟩
  · cases r; rfl
  · cases e
theorem Rq.str {v : V} {i : Str} (r : Rq K F H v (.str i)) : v = .str i := by
  rcases r with r | ⟨_, _, _, _, e, _⟩
  · cases r; rfl
  · cases e
theorem Rq.bl {v : V} {i : Bool} (r : Rq K F H v (.bl i)) : v = .bl i := by
  rcases r with r | ⟨_, _, _, _, e, _⟩
  · cases r; rfl
  · cases e
theorem Rq.tup {v : V} {xs : List D} (s : Same F H) (r : Rq K F H v (.tup xs)) : ∃ a vs, v = .ref a ∧ H a = some (.tup vs) ∧ RpL K F vs xs := by
  rcases r with r | ⟨_, _, _, _, e, _⟩
  · cases r with
    | tup h q => exact ⟨_, _, rfl, s _ _ h, q⟩
  · cases e
theorem Rq.scr {v : V} {xs : List Int} (s : Same F H) (r : Rq K F H v (.scr xs)) : ∃ a, v = .ref a ∧ SqL K H a (xs.map V.int) := by
  rcases r with r | ⟨_, _, _, _, e, _⟩
  · cases r with
    | scr h => exact ⟨_, rfl, s.seq h⟩
  · cases e
theorem Rq.dp {v : V} {d : D} (s : Same F H) (r : Rq K F H v d) (c : shaped d = true) : Dp K H v d.py := by
  have c0 := SeqAt.canLay_of_shaped c
  rcases r with r | ⟨a, vs, xs, rfl, rfl, h, q⟩
  · exact r.dp s c0
  · exact .lst (SqL.of h) (q.dp s (by simpa [D.py, PyData.canLay0] using c0))
theorem RqL.length : ∀ {ds : List D} {vs : List V}, RqL K F H vs ds → vs.length = ds.length
  | _, _, .nil => rfl
  | _, _, .cons _ r => congrArg Nat.succ r.length
end

/-! ### the state: data and heap -/
/-- the entry of a def: the frozen part, the heap, the address of the changed first argument -/
structure Ent where
  F : Hp
  H : Hp
  a : Option Addr
structure Gd (K : PySem.W.Frag) (E0 : Ent) (F H : Hp) (σ : Sg) (η : Eta) (ω : Om) : Prop where
  sub : Same F H
  len : η.length ≤ σ.length
  val : ∀ (i : Nat) (d : D), η[i]? = some (some d) → ∃ v, σ[i]? = some (some v) ∧ Rp K F v d
  own : ∀ (i : Nat) (xs : List D), look ω i = some xs → ∃ a vs, σ[i]? = some (some (.ref a)) ∧ H a = some (.lst vs) ∧ RpL K F vs xs ∧ F a = none
  dis : ∀ (i j : Nat) (a : Addr), (look ω i).isSome = true → (look ω j).isSome = true → σ[i]? = some (some (.ref a)) → σ[j]? = some (some (.ref a)) → i = j
  ext0 : Same E0.F F
  frm0 : ∀ b o, E0.H b = some o → E0.a ≠ some b → H b = some o
  new0 : ∀ b o, F b = some o → E0.F b = none → E0.H b = none
  own0 : ∀ (i : Nat) (a : Addr), (look ω i).isSome = true → σ[i]? = some (some (.ref a)) → E0.a = some a ∨ E0.H a = none
  par : ∀ (a : Addr), E0.a = some a → σ[0]? = some (some (.ref a)) ∧ (look ω 0).isSome = true
section
variable {K : PySem.W.Frag} {E0 : Ent} {F F' H H' : Hp} {σ : Sg} {η : Eta} {ω ω' : Om}
theorem Gd.at (g : Gd K E0 F H σ η ω) {i : Nat} (h : (look ω i).isSome = true) : ∃ a vs xs, look ω i = some xs ∧ σ[i]? = some (some (.ref a)) ∧ H a = some (.lst vs) ∧ RpL K F vs xs ∧ F a = none := by
  obtain ⟨xs, e⟩ := Option.isSome_iff_exists.mp h
  obtain ⟨a, vs, h1, h2, h3, h4⟩ := g.own i xs e
  exact ⟨a, vs, xs, e, h1, h2, h3, h4⟩
/-- a new object that belongs to the frozen part -/
theorem Gd.alloc (g : Gd K E0 F H σ η ω) {p : Addr} {o : HO} (hp : H p = none) : Gd K E0 (upd F p o) (upd H p o) σ η ω ∧ Same F (upd F p o) ∧ Same H (upd H p o) := by
  have fp : F p = none := g.sub.free hp
  have sF : Same F (upd F p o) := fun b u e => by rw [upd_ne (ne_of_none e fp)]; exact e
  have sH : Same H (upd H p o) := fun b u e => by rw [upd_ne (ne_of_none e hp)]; exact e
  refine ⟨⟨fun b u e => ?_, g.len, fun i d e => ?_, fun i xs e => ?_, g.dis, g.ext0.trans sF, fun b u e n => sH _ _ (g.frm0 b u e n), fun b u e n => ?_, g.own0, g.par⟩, sF, sH⟩
  · by_cases h : b = p
    · subst h; rw [upd_same] at e ⊢; exact e
    · rw [upd_ne h] at e ⊢; exact g.sub b u e
  · obtain ⟨v, h1, h2⟩ := g.val i d e
    exact ⟨v, h1, h2.mono sF⟩
  · obtain ⟨a, vs, h1, h2, h3, h4⟩ := g.own i xs e
    have ne : a ≠ p := ne_of_none h2 hp
    exact ⟨a, vs, h1, sH _ _ h2, h3.mono sF, by rw [upd_ne ne]; exact h4⟩
  · by_cases h : b = p
    · subst h
      cases q : E0.H b with
      | none => rfl
      | some z =>
        by_cases ha : E0.a = some b
        · obtain ⟨x1, x2⟩ := g.par b ha
          obtain ⟨a, vs, xs, _, y1, y2, _⟩ := g.at x2
          rw [x1] at y1
          cases y1
          rw [hp] at y2; cases y2
        · have := g.frm0 b z q ha
          rw [hp] at this; cases this
    · rw [upd_ne h] at e
      exact g.new0 b u e n
end

/-- behind a call -/
structure Ret (K : PySem.W.Frag) (F H F' H' : Hp) (a0 : Option Addr) (o' : List D) : Prop where
  ext : Same F F'
  sub : Same F' H'
  frm : ∀ b o, H b = some o → a0 ≠ some b → H' b = some o
  new : ∀ b o, F' b = some o → F b = none → H b = none
  par : ∀ a, a0 = some a → ∃ ws, H' a = some (.lst ws) ∧ RpL K F' ws o' ∧ F' a = none
section
variable {K : PySem.W.Frag} {E0 : Ent} {F F' H H' : Hp} {σ : Sg} {η : Eta} {ω ω' : Om}
theorem Gd.fresh (g : Gd K E0 F H σ η ω) {b : Addr} (h : H b = none) : E0.H b = none ∧ E0.a ≠ some b ∧ F b = none ∧ ∀ i, (look ω i).isSome = true → σ[i]? ≠ some (some (.ref b)) := by
  have h4 : ∀ i, (look ω i).isSome = true → σ[i]? ≠ some (some (.ref b)) := fun i hi e => by
    obtain ⟨a, vs, xs, _, y1, y2, _⟩ := g.at hi
    rw [e] at y1; cases y1
    rw [h] at y2; cases y2
  have h2 : E0.a ≠ some b := fun e => by
    obtain ⟨x1, x2⟩ := g.par b e
    exact h4 0 x2 x1
  refine ⟨?_, h2, g.sub.free h, h4⟩
  cases q : E0.H b with
  | none => rfl
  | some z =>
    have := g.frm0 b z q h2
    rw [h] at this; cases this
theorem Gd.retN (g : Gd K E0 F H σ η ω) {o' : List D} (r : Ret K F H F' H' none o') : Gd K E0 F' H' σ η ω := by
  have keep : ∀ b o, H b = some o → H' b = some o := fun b o e => r.frm b o e (fun z => nomatch z)
  refine ⟨r.sub, g.len, fun i d e => ?_, fun i xs e => ?_, g.dis, g.ext0.trans r.ext, fun b o e n => keep _ _ (g.frm0 b o e n), fun b o e n => ?_, g.own0, g.par⟩
  · obtain ⟨v, h1, h2⟩ := g.val i d e
    exact ⟨v, h1, h2.mono r.ext⟩
  · obtain ⟨a, vs, h1, h2, h3, h4⟩ := g.own i xs e
    refine ⟨a, vs, h1, keep _ _ h2, h3.mono r.ext, ?_⟩
    cases q : F' a with
    | none => rfl
    | some z =>
      have := r.new a z q h4
      rw [h2] at this; cases this
  · cases q : F b with
    | some z => exact g.new0 b z q n
    | none => exact (g.fresh (r.new b o e q)).1
theorem Gd.retO (g : Gd K E0 F H σ η ω) {i : Nat} {a : Addr} (hi : (look ω i).isSome = true) (ha : σ[i]? = some (some (.ref a))) {o' : List D} (r : Ret K F H F' H' (some a) o') : Gd K E0 F' H' σ η (put ω i o') := by
  have lk : ∀ j, (look (put ω i o') j).isSome = true → (look ω j).isSome = true := fun j h => by
    rw [look_put] at h
    split at h
    · rename_i e; rw [e]; exact hi
    · exact h
  obtain ⟨ws, w1, w2, w3⟩ := r.par a rfl
  refine ⟨r.sub, g.len, fun j d e => ?_, fun j xs e => ?_, fun j l b h1 h2 => g.dis j l b (lk _ h1) (lk _ h2), g.ext0.trans r.ext, fun b o e n => r.frm b o (g.frm0 b o e n) fun z => ?_, fun b o e n => ?_, fun j b h => g.own0 j b (lk _ h), fun b e => ?_⟩
  · obtain ⟨v, h1, h2⟩ := g.val j d e
    exact ⟨v, h1, h2.mono r.ext⟩
  · rw [look_put] at e
    split at e
    · rename_i ej
      cases e
      exact ⟨a, ws, by rw [ej]; exact ha, w1, w2, w3⟩
    · rename_i ej
      obtain ⟨b, vs, h1, h2, h3, h4⟩ := g.own j xs e
      have ne : a ≠ b := fun z => ej (g.dis j i b (by rw [e]; rfl) hi h1 (z ▸ ha))
      refine ⟨b, vs, h1, r.frm _ _ h2 (fun z => ne (Option.some.inj z)), h3.mono r.ext, ?_⟩
      cases q : F' b with
      | none => rfl
      | some z =>
        have := r.new b z q h4
        rw [h2] at this; cases this
  · cases z
    rcases g.own0 i a hi ha with z | z
    · exact n z
    · rw [z] at e; cases e
  · cases q : F b with
    | some z => exact g.new0 b z q n
    | none => exact (g.fresh (r.new b o e q)).1
  · obtain ⟨x1, x2⟩ := g.par b e
    refine ⟨x1, ?_⟩
    rw [look_put]
    split
    · rfl
    · exact x2
/-- a fresh list of the heap becomes part of the frozen one -/
theorem Gd.adopt (g : Gd K E0 F H σ η ω) {p : Addr} {o : HO} (hp : H p = some o) (fp : F p = none) (e0 : E0.H p = none) (no : ∀ i, (look ω i).isSome = true → σ[i]? ≠ some (some (.ref p))) : Gd K E0 (upd F p o) H σ η ω ∧ Same F (upd F p o) := by
  have sF : Same F (upd F p o) := fun b u e => by rw [upd_ne (ne_of_none e fp)]; exact e
  refine ⟨⟨fun b u e => ?_, g.len, fun i d e => ?_, fun i xs e => ?_, g.dis, g.ext0.trans sF, g.frm0, fun b u e n => ?_, g.own0, g.par⟩, sF⟩
  · by_cases h : b = p
    · subst h; rw [upd_same] at e; rw [hp]; exact e
    · rw [upd_ne h] at e; exact g.sub b u e
  · obtain ⟨v, h1, h2⟩ := g.val i d e
    exact ⟨v, h1, h2.mono sF⟩
  · obtain ⟨a, vs, h1, h2, h3, h4⟩ := g.own i xs e
    have ne : a ≠ p := fun z => no i (by rw [e]; rfl) (z ▸ h1)
    exact ⟨a, vs, h1, h2, h3.mono sF, by rw [upd_ne ne]; exact h4⟩
  · by_cases h : b = p
    · subst h; exact e0
    · rw [upd_ne h] at e
      exact g.new0 b u e n
end

/-! ### readings -/
/-- an error's way out -/
def Exw (K : PySem.W.Frag) (cA : Nat → Addr) (c : Nat) (p : List D) (F H : Hp) (Q : XK) : Prop := match p with
  | [] => Q (.ref (cA c)) none H
  | [d] => ∀ (dd : Addr) (v : V), H dd = none → Rp K F v d → Q (.ref (cA c)) (some dd) (upd H dd (.xd [(("place" : Str), v)]))
  | _ => False
/-- what a law fixes: the classes' addresses -/
structure Pm where
  K : PySem.W.Frag
  cA : Nat → Addr
def PoE {α β : Type} (P : Pm) (R : Om → Hp → Hp → β → α → Prop) (W : WX) (E0 : Ent) (F : Hp) (σ : Sg) (η : Eta) (Q : β → Hp → Prop) : Out α → Prop
  | .st => False
  | .ok d ω' => ∀ v F' H', Same F F' → Gd P.K E0 F' H' σ η ω' → R ω' F' H' v d → Q v H'
  | .ex c p ω' => ∀ F' H', Same F F' → Gd P.K E0 F' H' σ η ω' → Exw P.K P.cA c p F' H' fun cl dd h => W cl dd σ h
abbrev RE (K : PySem.W.Frag) : Om → Hp → Hp → V → D → Prop := fun _ F _ v d => Rp K F v d
def tE (P : Pm) (W : WX) (f : Eta → M D) : TE := fun σ H Q => ∃ E0 F η ω, Gd P.K E0 F H σ η ω ∧ PoE P (RE P.K) W E0 F σ η Q (f η ω)
def tB (P : Pm) (W : WX) (f : Eta → M Bool) : TT := fun σ H Q => ∃ E0 F η ω, Gd P.K E0 F H σ η ω ∧ PoE P (fun _ _ _ b d => b = d) W E0 F σ η Q (f η ω)
def tA (P : Pm) (W : WX) (f : Eta → M (List D)) : TA := fun σ H Q => ∃ E0 F η ω, Gd P.K E0 F H σ η ω ∧ PoE P (fun _ F _ => RpL P.K F) W E0 F σ η Q (f η ω)
def tAq (P : Pm) (W : WX) (f : Eta → M (List D)) : TA := fun σ H Q => ∃ E0 F η ω, Gd P.K E0 F H σ η ω ∧ PoE P (fun _ F H => RqL P.K F H) W E0 F σ η Q (f η ω)
def tL (P : Pm) (W : WX) (o : Option Nat) (f : Eta → M D) : TE := match o with
  | some i => tVar i
  | none => tE P W f

theorem _root_.L2.PE.imp {X : Cx} {e : Expr} {t t' : TE} (h : PE X e t) (i : ∀ σ H Q, t' σ H Q → t σ H Q) : PE X e t' := ⟨fun pins s σ H Q I q => h.run pins s σ H Q I (i σ H Q q)⟩
theorem _root_.L2.PT.imp {X : Cx} {e : Expr} {t t' : TT} (h : PT X e t) (i : ∀ σ H Q, t' σ H Q → t σ H Q) : PT X e t' := ⟨fun pins s σ H Q I q => h.run pins s σ H Q I (i σ H Q q)⟩
theorem _root_.L2.PA.imp {X : Cx} {e : List Expr} {t t' : TA} (h : PA X e t) (i : ∀ σ H Q, t' σ H Q → t σ H Q) : PA X e t' := ⟨fun pos pins s σ H Q I q => h.run pos pins s σ H Q I (i σ H Q q)⟩
theorem _root_.L2.PS.imp {X : Cx} {e : Stmt} {t t' : TS} (h : PS X e t) (i : ∀ D σ H, t' D σ H → t D σ H) : PS X e t' := ⟨fun pins s σ H D I q => h.run pins s σ H D I (i D σ H q)⟩
theorem _root_.L2.PSs.imp {X : Cx} {e : List Stmt} {t t' : TS} (h : PSs X e t) (i : ∀ D σ H, t' D σ H → t D σ H) : PSs X e t' := ⟨fun pins s σ H D I q => h.run pins s σ H D I (i D σ H q)⟩
theorem _root_.L2.PI.imp {X : Cx} {tg e : Expr} {t t' : TI} (h : PI X tg e t) (i : ∀ σ H R, t' σ H R → t σ H R) : PI X tg e t' := ⟨fun pins s σ H R I q => h.run pins s σ H R I (i σ H R q)⟩

section
variable {P : Pm} {W : WX} {E0 : Ent} {F F1 H H1 : Hp} {σ : Sg} {η : Eta} {ω : Om}
theorem PoE.weak {α β : Type} {R : Om → Hp → Hp → β → α → Prop} {Q : β → Hp → Prop} {o : Out α} (s : Same F F1) (h : PoE P R W E0 F σ η Q o) : PoE P R W E0 F1 σ η Q o := by
  cases o with
  | st => exact h
  | ok d ω' => exact fun v F' H' s' g r => h v F' H' (s.trans s') g r
  | ex c p ω' => exact fun F' H' s' g => h F' H' (s.trans s') g
/-- one after another -/
theorem PoE.bnd {α β γ δ : Type} {R : Om → Hp → Hp → β → α → Prop} {R' : Om → Hp → Hp → δ → γ → Prop} {Q : δ → Hp → Prop} {o : Out α} {f : α → Om → Out γ} {Q1 : β → Hp → Prop} (h : PoE P R' W E0 F σ η Q (o.bnd f))
    (k : ∀ d ω' v F' H', o = .ok d ω' → Same F F' → Gd P.K E0 F' H' σ η ω' → R ω' F' H' v d → PoE P R' W E0 F' σ η Q (f d ω') → Q1 v H') : PoE P R W E0 F σ η Q1 o := by
  cases o with
  | st => exact h
  | ok d ω' => exact fun v F' H' s g r => k d ω' v F' H' rfl s g r (PoE.weak s h)
  | ex c p ω' => exact h
theorem PoE.of {α β : Type} {R : Om → Hp → Hp → β → α → Prop} {Q : β → Hp → Prop} {o : Option α} (h : PoE P R W E0 F σ η Q (Out.of ω o)) : ∃ d, o = some d ∧ ∀ v F' H', Same F F' → Gd P.K E0 F' H' σ η ω → R ω F' H' v d → Q v H' := by
  cases o with
  | none => exact h.elim
  | some d => exact ⟨d, rfl, h⟩
theorem opd_none (f : Eta → M D) : opd none f = f := rfl
/-- the value of an operand, as it is known later -/
def OpV (K : PySem.W.Frag) (F : Hp) (σ : Sg) (o : Option Nat) (v : V) (d : D) : Prop := match o with
  | some i => σ[i]? = some (some v)
  | none => Rp K F v d
theorem OpV.mono {K : PySem.W.Frag} {o : Option Nat} {v : V} {d : D} (s : Same F F1) (h : OpV K F σ o v d) : OpV K F1 σ o v d := by
  cases o with
  | none => exact Rp.mono s h
  | some i => exact h
theorem OpV.snap {K : PySem.W.Frag} {o : Option Nat} {v : V} {d x : D} (g : Gd K E0 F H σ η ω) (h : OpV K F σ o v d) (e : snap ω o d = some x) : Rq K F H v x := by
  cases o with
  | none =>
    have e' : some d = some x := e
    cases e'
    exact .inl h
  | some i =>
    have e' : (look ω i).map D.lst = some x := e
    obtain ⟨xs, e1, e2⟩ := Option.map_eq_some_iff.mp e'
    subst e2
    obtain ⟨a, vs, h1, h2, h3, h4⟩ := g.own i xs e1
    have h' : σ[i]? = some (some v) := h
    rw [h1] at h'
    cases h'
    exact .inr ⟨a, vs, xs, rfl, rfl, h2, h3⟩
/-- an operand is run -/
theorem opd_run {γ δ : Type} {R' : Om → Hp → Hp → δ → γ → Prop} {Q : δ → Hp → Prop} {o : Option Nat} {f : Eta → M D} {k : D → Om → Out γ} {Q1 : V → Hp → Prop} (g : Gd P.K E0 F H σ η ω)
    (h : PoE P R' W E0 F σ η Q ((opd o f η ω).bnd k))
    (kk : ∀ d ω' v F' H', opd o f η ω = .ok d ω' → Same F F' → Gd P.K E0 F' H' σ η ω' → OpV P.K F' σ o v d → PoE P R' W E0 F' σ η Q (k d ω') → Q1 v H') : tL P W o f σ H Q1 := by
  cases o with
  | some i =>
    unfold opd at h kk
    dsimp only at h kk
    split at h
    · rename_i hs
      rw [if_pos hs] at kk
      obtain ⟨a, vs, xs, _, e, _⟩ := g.at hs
      exact ⟨_, e, kk .non ω _ F H rfl (Same.refl F) g e h⟩
    · exact h.elim
  | none => exact ⟨E0, F, η, ω, g, PoE.bnd (R := RE P.K) h fun d ω' v F' H' e s g' r q => kk d ω' v F' H' e s g' r q⟩
/-- two operands are run -/
theorem two_run {γ δ : Type} {R' : Om → Hp → Hp → δ → γ → Prop} {Q : δ → Hp → Prop} {oa ob : Option Nat} {fa fb : Eta → M D} {k : D × D → Om → Out γ} {Q1 : V → V → Hp → Prop} (g : Gd P.K E0 F H σ η ω)
    (h : PoE P R' W E0 F σ η Q ((opd2 oa ob fa fb η ω).bnd k))
    (kk : ∀ x y ω' v u F' H', Same F F' → Gd P.K E0 F' H' σ η ω' → Rq P.K F' H' v x → Rq P.K F' H' u y → PoE P R' W E0 F' σ η Q (k (x, y) ω') → Q1 v u H') :
    tL P W oa fa σ H fun v H1 => tL P W ob fb σ H1 fun u H2 => Q1 v u H2 := by
  unfold opd2 at h
  rw [Out.bnd_assoc] at h
  refine opd_run g h fun x0 ω1 v F1 H1 _ s1 g1 o1 h1 => ?_
  rw [Out.bnd_assoc] at h1
  refine opd_run g1 h1 fun y0 ω2 u F2 H2 _ s2 g2 o2 h2 => ?_
  cases e1 : snap ω2 oa x0 with
  | none => rw [e1] at h2; exact h2.elim
  | some x =>
    cases e2 : snap ω2 ob y0 with
    | none => rw [e1, e2] at h2; exact h2.elim
    | some y =>
      rw [e1, e2] at h2
      exact kk x y ω2 v u F2 H2 (s1.trans s2) g2 ((o1.mono s2).snap g2 e1) (o2.snap g2 e2) h2
end
end Mp

/-! Mp: the operations by values. -/
namespace Mp
open PySem PySem.Spec PyProof.Rows L2

/-- new objects, all of the frozen part -/
inductive New : Hp → Hp → Hp → Hp → Prop
  | refl {F H : Hp} : New F H F H
  | step {F H F1 H1 : Hp} {p : Addr} {o : HO} : New F H F1 H1 → H1 p = none → New F H (upd F1 p o) (upd H1 p o)
theorem Gd.new {K : PySem.W.Frag} {E0 : Ent} {F F' H H' : Hp} {σ : Sg} {η : Eta} {ω : Om} (g : Gd K E0 F H σ η ω) (n : New F H F' H') : Gd K E0 F' H' σ η ω ∧ Same F F' ∧ Same H H' := by
  induction n with
  | refl => exact ⟨g, Same.refl _, Same.refl _⟩
  | step n hp ih =>
    obtain ⟨g1, s1, s2⟩ := ih
    obtain ⟨g2, s3, s4⟩ := g1.alloc hp
    exact ⟨g2, s1.trans s3, s2.trans s4⟩
theorem New.one {F H : Hp} {p : Addr} {o : HO} (h : H p = none) : New F H (upd F p o) (upd H p o) := .step .refl h
/-- what is wanted of a new value -/
def FinV (K : PySem.W.Frag) (F H : Hp) (z : D) (Q : VK) : Prop := ∀ v F' H', New F H F' H' → Rp K F' v z → Q v H'
theorem FinV.here {K : PySem.W.Frag} {F H : Hp} {z : D} {Q : VK} {v : V} (q : FinV K F H z Q) (r : Rp K F v z) : Q v H := q v F H .refl r
theorem FinV.lst {K : PySem.W.Frag} {F H : Hp} {xs : List D} {vs : List V} {Q : VK} {p : Addr} (q : FinV K F H (.lst xs) Q) (s : Same F H) (hp : H p = none) (r : RpL K F vs xs) : Q (.ref p) (upd H p (.lst vs)) :=
  q _ _ _ (.one hp) (.lst upd_same (r.mono fun b u e => by rw [upd_ne (ne_of_none e (s.free hp))]; exact e))
theorem FinV.tup {K : PySem.W.Frag} {F H : Hp} {xs : List D} {vs : List V} {Q : VK} {p : Addr} (q : FinV K F H (.tup xs) Q) (s : Same F H) (hp : H p = none) (r : RpL K F vs xs) : Q (.ref p) (upd H p (.tup vs)) :=
  q _ _ _ (.one hp) (.tup upd_same (r.mono fun b u e => by rw [upd_ne (ne_of_none e (s.free hp))]; exact e))

/-- the same where a list that comes is a fresh one, not of the frozen part -/
def FinG (K : PySem.W.Frag) (F H : Hp) (z : D) (Q : VK) : Prop := match z with
  | .lst xs => ∀ p vs, H p = none → RpL K F vs xs → Q (.ref p) (upd H p (.lst vs))
  | z => ∀ v, Rp K F v z → Q v H
theorem FinV.g {K : PySem.W.Frag} {F H : Hp} {z : D} {Q : VK} (s : Same F H) (q : FinV K F H z Q) : FinG K F H z Q := by
  cases z with
  | lst xs => exact fun p vs hp r => q.lst s hp r
  | _ => exact fun v r => q.here r
theorem fing_int {K : PySem.W.Frag} {F H : Hp} {b : Int} {z : D} {Q : VK} (q : FinG K F H z Q) (e : D.int b = z) : Q (.int b) H := by
  subst e
  exact q _ (.int b)
theorem fing_str {K : PySem.W.Frag} {F H : Hp} {b : Str} {z : D} {Q : VK} (q : FinG K F H z Q) (e : D.str b = z) : Q (.str b) H := by
  subst e
  exact q _ (.str b)
def rG2 (K : PySem.W.Frag) (g : D → D → Option D) : R2 := fun x y H Q => ∃ F d e z, Same F H ∧ Rq K F H x d ∧ Rq K F H y e ∧ g d e = some z ∧ FinG K F H z Q
def rGC (K : PySem.W.Frag) (g : List D → Option D) : List V → Hp → VK → Prop := fun vs H Q => ∃ F ds z, Same F H ∧ RqL K F H vs ds ∧ g ds = some z ∧ FinG K F H z Q
def rD2 (K : PySem.W.Frag) (g : D → D → Option D) : R2 := fun x y H Q => ∃ F d e z, Same F H ∧ Rq K F H x d ∧ Rq K F H y e ∧ g d e = some z ∧ FinV K F H z Q
def rC (K : PySem.W.Frag) (g : List D → Option D) : List V → Hp → VK → Prop := fun vs H Q => ∃ F ds z, Same F H ∧ RqL K F H vs ds ∧ g ds = some z ∧ FinV K F H z Q
def rM (K : PySem.W.Frag) (g : D → List D → Option D) : V → List V → Hp → VK → Prop := fun x vs H Q => ∃ F d ds z, Same F H ∧ Rq K F H x d ∧ RqL K F H vs ds ∧ g d ds = some z ∧ FinV K F H z Q

theorem fin_bl {K : PySem.W.Frag} {F H : Hp} {b : Bool} {z : D} {Q : VK} (q : FinV K F H z Q) (e : D.bl b = z) : Q (.bl b) H := by
  subst e
  exact q.here (.bl b)
theorem fin_int {K : PySem.W.Frag} {F H : Hp} {b : Int} {z : D} {Q : VK} (q : FinV K F H z Q) (e : D.int b = z) : Q (.int b) H := by
  subst e
  exact q.here (.int b)
theorem fin_str {K : PySem.W.Frag} {F H : Hp} {b : Str} {z : D} {Q : VK} (q : FinV K F H z Q) (e : D.str b = z) : Q (.str b) H := by
  subst e
  exact q.here (.str b)

section
variable {X : Cx}
theorem g_add : OpR X (binaryOp .Add) (rG2 X.K addD) := by
  intro pins s σ H x y v u Q I rx ry h
  obtain ⟨F, d, e, z, s0, h1, h2, h3, q⟩ := h
  unfold addD at h3
  split at h3
  · have a1 := h1.int; have a2 := h2.int; subst a1 a2
    exact op_add pins s σ H _ _ v u Q I rx ry ⟨_, _, rfl, rfl, fing_int q (Option.some.inj h3)⟩
  · split at h3
    · rename_i hl
      have a1 := h1.str; have a2 := h2.str; subst a1 a2
      exact op_add_str pins s σ H _ _ v u Q I rx ry ⟨_, _, rfl, rfl, hl, fing_str q (Option.some.inj h3)⟩
    · cases h3
  · split at h3
    · rename_i xs ys hl
      obtain ⟨a, vs, rfl, e1, r1⟩ := h1.lst s0
      obtain ⟨b, ws, rfl, e2, r2⟩ := h2.lst s0
      cases h3
      exact op_cat pins s σ H _ _ v u Q I rx ry ⟨_, _, _, _, rfl, rfl, e1, e2, by rw [r1.length, r2.length]; exact hl, fun p hp => q p _ hp (r1.append r2)⟩
    · cases h3
  · cases h3
theorem r_add : OpR X (binaryOp .Add) (rD2 X.K addD) := fun pins s σ H x y v u Q I rx ry ⟨F, d, e, z, s0, h1, h2, h3, q⟩ => g_add pins s σ H x y v u Q I rx ry ⟨F, d, e, z, s0, h1, h2, h3, q.g s0⟩
theorem r_sub : OpR X (binaryOp .Sub) (rD2 X.K subD) := by
  intro pins s σ H x y v u Q I rx ry h
  obtain ⟨F, d, e, z, s0, h1, h2, h3, q⟩ := h
  unfold subD at h3
  split at h3
  · have a1 := h1.int; have a2 := h2.int; subst a1 a2
    exact op_sub pins s σ H _ _ v u Q I rx ry ⟨_, _, rfl, rfl, fin_int q (Option.some.inj h3)⟩
  · cases h3
theorem g_mul : OpR X (binaryOp .Mult) (rG2 X.K mulD) := by
  intro pins s σ H x y v u Q I rx ry h
  obtain ⟨F, d, e, z, s0, h1, h2, h3, q⟩ := h
  unfold mulD at h3
  split at h3
  · split at h3
    · rename_i hl
      unfold isMul at hl
      have hc := of_decide_eq_true hl
      have a1 := h1.int; have a2 := h2.int; subst a1 a2
      exact op_mulW pins s σ H _ _ v u Q I rx ry ⟨_, _, rfl, rfl, hc, fing_int q (Option.some.inj h3)⟩
    · cases h3
  · split at h3
    · rename_i xs k hl
      obtain ⟨a, vs, rfl, e1, r1⟩ := h1.lst s0
      have a2 := h2.int; subst a2
      cases h3
      exact op_rep pins s σ H _ _ v u Q I rx ry ⟨_, _, _, rfl, rfl, e1, by omega, by omega, by rw [r1.length]; exact hl.2.2, fun p hp => q p _ hp (r1.rep _)⟩
    · cases h3
  · cases h3
theorem r_mul : OpR X (binaryOp .Mult) (rD2 X.K mulD) := fun pins s σ H x y v u Q I rx ry ⟨F, d, e, z, s0, h1, h2, h3, q⟩ => g_mul pins s σ H x y v u Q I rx ry ⟨F, d, e, z, s0, h1, h2, h3, q.g s0⟩
theorem r_fdiv : OpR X (binaryOp .FloorDiv) (rD2 X.K fdivD) := by
  intro pins s σ H x y v u Q I rx ry h
  obtain ⟨F, d, e, z, s0, h1, h2, h3, q⟩ := h
  unfold fdivD at h3
  split at h3
  · split at h3
    · rename_i hl
      have a1 := h1.int; have a2 := h2.int; subst a1 a2
      exact op_fdivW pins s σ H _ _ v u Q I rx ry ⟨_, _, rfl, rfl, hl, fin_int q (Option.some.inj h3)⟩
    · cases h3
  · cases h3
theorem r_mod : OpR X (binaryOp .Mod) (rD2 X.K modD) := by
  intro pins s σ H x y v u Q I rx ry h
  obtain ⟨F, d, e, z, s0, h1, h2, h3, q⟩ := h
  unfold modD at h3
  split at h3
  · split at h3
    · rename_i hl
      have a1 := h1.int; have a2 := h2.int; subst a1 a2
      exact op_mod pins s σ H _ _ v u Q I rx ry ⟨_, _, rfl, rfl, hl, fin_int q (Option.some.inj h3)⟩
    · cases h3
  · cases h3
theorem intBits_le (x : Int) : Builtin.Int.intBits x ≤ x.natAbs.log2 + 1 := by
  unfold Builtin.Int.intBits
  split <;> omega
theorem r_pow : OpR X (binaryOp .Pow) (rD2 X.K powD) := by
  intro pins s σ H x y v u Q I rx ry h
  obtain ⟨F, d, e, z, s0, h1, h2, h3, q⟩ := h
  unfold powD at h3
  split at h3
  · rename_i i j
    split at h3
    · rename_i hl
      have a1 := h1.int; have a2 := h2.int; subst a1 a2
      obtain ⟨t, rfl⟩ := rx
      obtain ⟨t', rfl⟩ := ry
      refine PyProof.Rows.pow_int hl.1 ?_ ⟨.int _, H, I.tok _, ⟨_, rfl⟩, fin_int q (Option.some.inj h3)⟩
      have hb := intBits_le i
      have : (Builtin.Int.intBits i : Int) * j ≤ ((i.natAbs.log2 : Int) + 1) * j := Int.mul_le_mul_of_nonneg_right (by omega) hl.1
      have h27 : (2 : Int) ^ 27 = 134217728 := by decide
      omega
    · cases h3
  · cases h3
def opOf : Op2 → Operator
  | .add => .Add | .sub => .Sub | .mul => .Mult | .fdiv => .FloorDiv | .mod => .Mod | .pow => .Pow
theorem r_op2 (o : Op2) : OpR X (binaryOp (opOf o)) (rD2 X.K (op2D o)) := by
  cases o
  · exact r_add
  · exact r_sub
  · exact r_mul
  · exact r_fdiv
  · exact r_mod
  · exact r_pow
/-- a comparison's wish -/
abbrev rCm (K : PySem.W.Frag) (o : Cm) : R2 := rD2 K fun a b => (cmpD o a b).map .bl
def cmOf : Cm → CmpOp
  | .eq => .Eq | .ne => .NotEq | .lt => .Lt | .le => .LtE | .gt => .Gt | .ge => .GtE | .isin => .In | .notin => .NotIn
theorem r_eq (hu : X.A.units + 65 < cLine) : OpR X (compareOp .Eq) (rCm X.K .eq) := by
  intro pins s σ H x y v u Q I rx ry h
  obtain ⟨F, d, e, z, s0, h1, h2, h3, q⟩ := h
  obtain ⟨b, h4, rfl⟩ := Option.map_eq_some_iff.mp h3
  clear h3
  rename _ = _ => h3
  unfold cmpD at h3
  dsimp only at h3
  unfold eqD at h3
  split at h3
  · rename_i hs
    obtain ⟨c1, c2⟩ := Bool.and_eq_true_iff.mp hs
    exact op_eqD (by omega) pins s σ H _ _ v u Q I rx ry ⟨_, _, h1.dp s0 c1, h2.dp s0 c2, c1, c2, fin_bl q (congrArg D.bl (Option.some.inj h3))⟩
  · cases h3
theorem r_ne (hu : X.A.units + 65 < cLine) : OpR X (compareOp .NotEq) (rCm X.K .ne) := by
  intro pins s σ H x y v u Q I rx ry h
  obtain ⟨F, d, e, z, s0, h1, h2, h3, q⟩ := h
  obtain ⟨b, h4, rfl⟩ := Option.map_eq_some_iff.mp h3
  clear h3
  obtain ⟨b', h3, rfl⟩ := Option.map_eq_some_iff.mp h4
  unfold eqD at h3
  split at h3
  · rename_i hs
    obtain ⟨c1, c2⟩ := Bool.and_eq_true_iff.mp hs
    exact op_neD (by omega) pins s σ H _ _ v u Q I rx ry ⟨_, _, h1.dp s0 c1, h2.dp s0 c2, c1, c2, fin_bl q (by rw [← Option.some.inj h3])⟩
  · cases h3
theorem r_lt : OpR X (compareOp .Lt) (rCm X.K .lt) := by
  intro pins s σ H x y v u Q I rx ry h
  obtain ⟨F, d, e, z, s0, h1, h2, h3, q⟩ := h
  obtain ⟨b, h4, rfl⟩ := Option.map_eq_some_iff.mp h3
  clear h3
  rename _ = _ => h3
  unfold cmpD at h3
  dsimp only at h3
  unfold ltD at h3
  split at h3
  · have a1 := h1.int; have a2 := h2.int; subst a1 a2
    exact op_lt pins s σ H _ _ v u Q I rx ry ⟨_, _, rfl, rfl, fin_bl q (congrArg D.bl (Option.some.inj h3))⟩
  · cases h3
theorem r_le : OpR X (compareOp .LtE) (rCm X.K .le) := by
  intro pins s σ H x y v u Q I rx ry h
  obtain ⟨F, d, e, z, s0, h1, h2, h3, q⟩ := h
  obtain ⟨b, h4, rfl⟩ := Option.map_eq_some_iff.mp h3
  clear h3
  rename _ = _ => h3
  unfold cmpD at h3
  dsimp only at h3
  unfold leD at h3
  split at h3
  · have a1 := h1.int; have a2 := h2.int; subst a1 a2
    exact op_le pins s σ H _ _ v u Q I rx ry ⟨_, _, rfl, rfl, fin_bl q (congrArg D.bl (Option.some.inj h3))⟩
  · cases h3
theorem r_gt : OpR X (compareOp .Gt) (rCm X.K .gt) := by
  intro pins s σ H x y v u Q I rx ry h
  obtain ⟨F, d, e, z, s0, h1, h2, h3, q⟩ := h
  obtain ⟨b, h4, rfl⟩ := Option.map_eq_some_iff.mp h3
  clear h3
  rename _ = _ => h3
  unfold cmpD at h3
  dsimp only at h3
  unfold ltD at h3
  split at h3
  · have a1 := h1.int; have a2 := h2.int; subst a1 a2
    exact op_gt pins s σ H _ _ v u Q I rx ry ⟨_, _, rfl, rfl, fin_bl q (congrArg D.bl (Option.some.inj h3))⟩
  · cases h3
theorem r_ge : OpR X (compareOp .GtE) (rCm X.K .ge) := by
  intro pins s σ H x y v u Q I rx ry h
  obtain ⟨F, d, e, z, s0, h1, h2, h3, q⟩ := h
  obtain ⟨b, h4, rfl⟩ := Option.map_eq_some_iff.mp h3
  clear h3
  rename _ = _ => h3
  unfold cmpD at h3
  dsimp only at h3
  unfold leD at h3
  split at h3
  · have a1 := h1.int; have a2 := h2.int; subst a1 a2
    exact op_ge pins s σ H _ _ v u Q I rx ry ⟨_, _, rfl, rfl, fin_bl q (congrArg D.bl (Option.some.inj h3))⟩
  · cases h3
theorem shaped_lst {ys : List D} (c : shaped (.lst ys) = true) : SeqAt.shaped (.list (pys ys)) = true := by
  have : (D.lst ys).py = .list (pys ys) := by simp [D.py]
  unfold shaped at c
  rwa [this] at c
theorem r_in (hu : X.A.units + 65 < cLine) : OpR X (compareOp .In) (rCm X.K .isin) := by
  intro pins s σ H x y v u Q I rx ry h
  obtain ⟨F, d, e, z, s0, h1, h2, h3, q⟩ := h
  obtain ⟨b, h4, rfl⟩ := Option.map_eq_some_iff.mp h3
  clear h3
  rename _ = _ => h3
  unfold cmpD at h3
  dsimp only at h3
  unfold inD at h3
  split at h3
  · split at h3
    · rename_i ys hs
      obtain ⟨c1, c2⟩ := Bool.and_eq_true_iff.mp hs
      have h2' := h2.dp s0 c2
      have ey : (D.lst ys).py = .list (pys ys) := by simp [D.py]
      rw [ey] at h2'
      exact op_inD hu pins s σ H _ _ v u Q I rx ry ⟨_, _, h1.dp s0 c1, h2', c1, shaped_lst c2, fin_bl q (congrArg D.bl (Option.some.inj h3))⟩
    · cases h3
  · split at h3
    · have a1 := h1.str; have a2 := h2.str; subst a1 a2
      exact op_in_str pins s σ H _ _ v u Q I rx ry ⟨_, _, rfl, rfl, fin_bl q (congrArg D.bl (Option.some.inj h3))⟩
    · cases h3
  · cases h3
theorem r_notin (hu : X.A.units + 65 < cLine) : OpR X (compareOp .NotIn) (rCm X.K .notin) := by
  intro pins s σ H x y v u Q I rx ry h
  obtain ⟨F, d, e, z, s0, h1, h2, h3, q⟩ := h
  obtain ⟨b, h4, rfl⟩ := Option.map_eq_some_iff.mp h3
  clear h3
  obtain ⟨b', h3, rfl⟩ := Option.map_eq_some_iff.mp h4
  unfold inD at h3
  split at h3
  · split at h3
    · rename_i ys hs
      obtain ⟨c1, c2⟩ := Bool.and_eq_true_iff.mp hs
      have h2' := h2.dp s0 c2
      have ey : (D.lst ys).py = .list (pys ys) := by simp [D.py]
      rw [ey] at h2'
      exact op_notInD hu pins s σ H _ _ v u Q I rx ry ⟨_, _, h1.dp s0 c1, h2', c1, shaped_lst c2, fin_bl q (by rw [← Option.some.inj h3])⟩
    · cases h3
  · split at h3
    · have a1 := h1.str; have a2 := h2.str; subst a1 a2
      exact op_notIn_str pins s σ H _ _ v u Q I rx ry ⟨_, _, rfl, rfl, fin_bl q (by rw [← Option.some.inj h3])⟩
    · cases h3
  · cases h3
theorem r_cm (o : Cm) (hu : X.A.units + 65 < cLine) : OpR X (compareOp (cmOf o)) (rCm X.K o) := by
  cases o
  · exact r_eq hu
  · exact r_ne hu
  · exact r_lt
  · exact r_le
  · exact r_gt
  · exact r_ge
  · exact r_in hu
  · exact r_notin hu

theorem RpL.atI {K : PySem.W.Frag} {F : Hp} {ds : List D} {vs : List V} {i : Int} {d : D} (r : RpL K F vs ds) (e : atI ds i = some d) : ∃ v, atI vs i = some v ∧ Rp K F v d := by
  unfold L2.atI at e ⊢
  rw [r.length]
  cases h : ixN ds.length i with
  | none => rw [h] at e; cases e
  | some j =>
    rw [h] at e
    exact r.get e
theorem atI_map {α β : Type} (f : α → β) (xs : List α) (i : Int) : atI (xs.map f) i = (atI xs i).map f := by
  unfold L2.atI
  rw [List.length_map]
  cases ixN xs.length i with
  | none => rfl
  | some j => simp
theorem r_idx : IxR X (rD2 X.K idxD) := by
  intro value slice pins s σ H x y v u Q I rx ry h hs
  obtain ⟨F, d, e, z, s0, h1, h2, h3, q⟩ := h
  unfold idxD at h3
  split at h3
  · obtain ⟨a, vs, rfl, e1, r1⟩ := h1.lst s0
    have a2 := h2.int; subst a2
    obtain ⟨w, e3, r3⟩ := r1.atI h3
    exact ix_list value slice pins s σ H _ _ v u Q I rx ry ⟨_, _, _, _, rfl, rfl, SqL.of e1, e3, q.here r3⟩ hs
  · obtain ⟨a, vs, rfl, e1, r1⟩ := h1.tup s0
    have a2 := h2.int; subst a2
    obtain ⟨w, e3, r3⟩ := r1.atI h3
    exact ix_tup value slice pins s σ H _ _ v u Q I rx ry ⟨_, _, _, _, rfl, rfl, SqT.of e1, e3, q.here r3⟩ hs
  · obtain ⟨a, rfl, e1⟩ := h1.scr s0
    have a2 := h2.int; subst a2
    obtain ⟨n, h4, h5⟩ := Option.map_eq_some_iff.mp h3
    exact ix_list value slice pins s σ H _ _ v u Q I rx ry ⟨_, _, _, _, rfl, rfl, e1, by rw [atI_map, h4]; rfl, fin_int q h5⟩ hs
  · split at h3
    · rename_i hl
      have a1 := h1.str; have a2 := h2.int; subst a1 a2
      obtain ⟨n, h4, h5⟩ := Option.map_eq_some_iff.mp h3
      exact ix_str value slice pins s σ H _ _ v u Q I rx ry ⟨_, _, _, rfl, rfl, hl, h4, fin_str q h5⟩ hs
    · cases h3
  · cases h3

/-! ### built-ins called by name -/
theorem RqL.one {K : PySem.W.Frag} {F H : Hp} {vs : List V} {d : D} (r : RqL K F H vs [d]) : ∃ v, vs = [v] ∧ Rq K F H v d := by
  cases r with
  | cons h t => cases t; exact ⟨_, rfl, h⟩
theorem RqL.two {K : PySem.W.Frag} {F H : Hp} {vs : List V} {d e : D} (r : RqL K F H vs [d, e]) : ∃ v w, vs = [v, w] ∧ Rq K F H v d ∧ Rq K F H w e := by
  cases r with
  | cons h t =>
    obtain ⟨w, rfl, h2⟩ := t.one
    exact ⟨_, _, rfl, h, h2⟩
theorem rqL_ints {K : PySem.W.Frag} {F H : Hp} {vs : List V} {xs : List D} {ns : List Int} (s : Same F H) (h : RqL K F H vs [.lst xs]) (e : intL xs = some ns) : ∃ a, vs = [.ref a] ∧ H a = some (.lst (ns.map V.int)) := by
  obtain ⟨v, rfl, hv⟩ := h.one
  obtain ⟨a, ws, rfl, e1, r1⟩ := hv.lst s
  rw [r1.ints e] at e1
  exact ⟨a, rfl, e1⟩
theorem rqL_bools {K : PySem.W.Frag} {F H : Hp} {vs : List V} {xs : List D} {ns : List Bool} (s : Same F H) (h : RqL K F H vs [.lst xs]) (e : boolL xs = some ns) : ∃ a, vs = [.ref a] ∧ H a = some (.lst (ns.map V.bl)) := by
  obtain ⟨v, rfl, hv⟩ := h.one
  obtain ⟨a, ws, rfl, e1, r1⟩ := hv.lst s
  rw [r1.bools e] at e1
  exact ⟨a, rfl, e1⟩
theorem intL_length : ∀ {xs : List D} {ns : List Int}, intL xs = some ns → ns.length = xs.length
  | [], _, e => by cases e; rfl
  | x :: r, ns, e => by
    cases x with
    | int i =>
      obtain ⟨ms, e1, e2⟩ := Option.map_eq_some_iff.mp (show (intL r).map (i :: ·) = some ns from e)
      subst e2
      simp [intL_length e1]
    | _ => cases e
theorem maxI_spec : ∀ {ns : List Int}, 0 < ns.length → maxI ns ∈ ns ∧ ∀ y ∈ ns, y ≤ maxI ns
  | [], h => by simp at h
  | [x], _ => by simp [maxI]
  | x :: y :: r, _ => by
    obtain ⟨h1, h2⟩ := maxI_spec (ns := y :: r) (by simp)
    unfold maxI
    dsimp only
    split
    · rename_i c
      exact ⟨List.mem_cons_of_mem _ h1, fun z hz => by
        rcases List.mem_cons.mp hz with e | hz
        · subst e; omega
        · exact h2 z hz⟩
    · rename_i c
      exact ⟨List.mem_cons_self, fun z hz => by
        rcases List.mem_cons.mp hz with e | hz
        · subst e; omega
        · have := h2 z hz; omega⟩
theorem minI_spec : ∀ {ns : List Int}, 0 < ns.length → minI ns ∈ ns ∧ ∀ y ∈ ns, minI ns ≤ y
  | [], h => by simp at h
  | [x], _ => by simp [minI]
  | x :: y :: r, _ => by
    obtain ⟨h1, h2⟩ := minI_spec (ns := y :: r) (by simp)
    unfold minI
    dsimp only
    split
    · rename_i c
      exact ⟨List.mem_cons_of_mem _ h1, fun z hz => by
        rcases List.mem_cons.mp hz with e | hz
        · subst e; omega
        · exact h2 z hz⟩
    · rename_i c
      exact ⟨List.mem_cons_self, fun z hz => by
        rcases List.mem_cons.mp hz with e | hz
        · subst e; omega
        · have := h2 z hz; omega⟩
theorem c_abs : CallR X (.builtin "abs") (rC X.K absD) := by
  intro pins s σ H xs us Q I r h
  obtain ⟨F, ds, z, s0, h1, h3, q⟩ := h
  unfold absD at h3
  split at h3
  · obtain ⟨v, rfl, hv⟩ := h1.one
    have a1 := hv.int; subst a1
    exact call_abs pins s σ H _ us Q I r ⟨_, rfl, fin_int q (Option.some.inj h3)⟩
  · cases h3
theorem c_int : CallR X (.type "int") (rC X.K intD) := by
  intro pins s σ H xs us Q I r h
  obtain ⟨F, ds, z, s0, h1, h3, q⟩ := h
  unfold intD at h3
  split at h3
  · obtain ⟨v, rfl, hv⟩ := h1.one
    have a1 := hv.int; subst a1
    exact call_int1 pins s σ H _ us Q I r (.inl ⟨_, rfl, fin_int q (Option.some.inj h3)⟩)
  · obtain ⟨v, rfl, hv⟩ := h1.one
    have a1 := hv.bl; subst a1
    exact call_int1 pins s σ H _ us Q I r (.inr ⟨_, rfl, fin_int q (Option.some.inj h3)⟩)
  · split at h3
    · rename_i hl
      obtain ⟨v, rfl, hv⟩ := h1.one
      have a1 := hv.str; subst a1
      obtain ⟨n, h4, h5⟩ := Option.map_eq_some_iff.mp h3
      exact call_int_str pins s σ H _ us Q I r ⟨_, _, rfl, h4, hl, fin_int q h5⟩
    · cases h3
  · cases h3
theorem c_len : CallR X (.builtin "len") (rC X.K len1D) := by
  intro pins s σ H xs us Q I r h
  obtain ⟨F, ds, z, s0, h1, h3, q⟩ := h
  unfold len1D at h3
  split at h3
  · obtain ⟨v, rfl, hv⟩ := h1.one
    obtain ⟨n, h4, h5⟩ := Option.map_eq_some_iff.mp h3
    unfold lenD at h4
    split at h4
    · obtain ⟨a, vs, rfl, e1, r1⟩ := hv.lst s0
      exact call_len_seq pins s σ H _ us Q I r ⟨_, _, rfl, .inl (SqL.of e1), fin_int q (by rw [← h5, r1.length]; cases h4; rfl)⟩
    · obtain ⟨a, vs, rfl, e1, r1⟩ := hv.tup s0
      exact call_len_seq pins s σ H _ us Q I r ⟨_, _, rfl, .inr (SqT.of e1), fin_int q (by rw [← h5, r1.length]; cases h4; rfl)⟩
    · obtain ⟨a, rfl, e1⟩ := hv.scr s0
      exact call_len_seq pins s σ H _ us Q I r ⟨_, _, rfl, .inl e1, fin_int q (by rw [← h5, List.length_map]; cases h4; rfl)⟩
    · split at h4
      · rename_i hl
        have a1 := hv.str; subst a1
        exact call_len_str pins s σ H _ us Q I r ⟨_, rfl, hl, fin_int q (by rw [← h5]; cases h4; rfl)⟩
      · cases h4
    · cases h4
  · cases h3
theorem c_sum (hc : X.calm = true) : CallR X (.builtin "sum") (rC X.K sumD) := by
  intro pins s σ H xs us Q I r h
  obtain ⟨F, ds, z, s0, h1, h3, q⟩ := h
  unfold sumD at h3
  split at h3
  · obtain ⟨ns, h4, h5⟩ := Option.map_eq_some_iff.mp h3
    obtain ⟨a, rfl, e1⟩ := rqL_ints s0 h1 h4
    exact cr_sum hc pins s σ H _ us Q I r ⟨_, _, rfl, SqL.of e1, fin_int q h5⟩
  · cases h3
theorem c_max (hc : X.calm = true) : CallR X (.builtin "max") (rC X.K maxD) := by
  intro pins s σ H xs us Q I r h
  obtain ⟨F, ds, z, s0, h1, h3, q⟩ := h
  unfold maxD at h3
  split at h3
  · obtain ⟨v, w, rfl, hv, hw⟩ := h1.two
    have a1 := hv.int; have a2 := hw.int; subst a1 a2
    exact call_max2 hc pins s σ H _ us Q I r ⟨_, _, rfl, fin_int q (Option.some.inj h3)⟩
  · split at h3
    · cases h3
    · rename_i xs he
      obtain ⟨ns, h4, h5⟩ := Option.map_eq_some_iff.mp h3
      obtain ⟨a, rfl, e1⟩ := rqL_ints s0 h1 h4
      have hn : 0 < ns.length := by
        rw [intL_length h4]
        cases xs with
        | nil => simp at he
        | cons _ _ => simp
      obtain ⟨m1, m2⟩ := maxI_spec hn
      exact cr_max hc pins s σ H _ us Q I r ⟨_, _, rfl, SqL.of e1, hn, fun m hm hy => fin_int q (by
        rw [← h5]
        have := hy _ m1
        have := m2 _ hm
        congr 1
        omega)⟩
  · cases h3
theorem c_min (hc : X.calm = true) : CallR X (.builtin "min") (rC X.K minD) := by
  intro pins s σ H xs us Q I r h
  obtain ⟨F, ds, z, s0, h1, h3, q⟩ := h
  unfold minD at h3
  split at h3
  · obtain ⟨v, w, rfl, hv, hw⟩ := h1.two
    have a1 := hv.int; have a2 := hw.int; subst a1 a2
    exact call_min2 hc pins s σ H _ us Q I r ⟨_, _, rfl, fin_int q (Option.some.inj h3)⟩
  · split at h3
    · cases h3
    · rename_i xs he
      obtain ⟨ns, h4, h5⟩ := Option.map_eq_some_iff.mp h3
      obtain ⟨a, rfl, e1⟩ := rqL_ints s0 h1 h4
      have hn : 0 < ns.length := by
        rw [intL_length h4]
        cases xs with
        | nil => simp at he
        | cons _ _ => simp
      obtain ⟨m1, m2⟩ := minI_spec hn
      exact cr_min hc pins s σ H _ us Q I r ⟨_, _, rfl, SqL.of e1, hn, fun m hm hy => fin_int q (by
        rw [← h5]
        have := hy _ m1
        have := m2 _ hm
        congr 1
        omega)⟩
  · cases h3
theorem c_all (hc : X.calm = true) : CallR X (.builtin "all") (rC X.K allD) := by
  intro pins s σ H xs us Q I r h
  obtain ⟨F, ds, z, s0, h1, h3, q⟩ := h
  unfold allD at h3
  split at h3
  · obtain ⟨ns, h4, h5⟩ := Option.map_eq_some_iff.mp h3
    obtain ⟨a, rfl, e1⟩ := rqL_bools s0 h1 h4
    exact cr_all hc pins s σ H _ us Q I r ⟨_, _, rfl, SqL.of e1, fin_bl q h5⟩
  · cases h3
theorem c_any (hc : X.calm = true) : CallR X (.builtin "any") (rC X.K anyD) := by
  intro pins s σ H xs us Q I r h
  obtain ⟨F, ds, z, s0, h1, h3, q⟩ := h
  unfold anyD at h3
  split at h3
  · obtain ⟨ns, h4, h5⟩ := Option.map_eq_some_iff.mp h3
    obtain ⟨a, rfl, e1⟩ := rqL_bools s0 h1 h4
    exact cr_any hc pins s σ H _ us Q I r ⟨_, _, rfl, SqL.of e1, fin_bl q h5⟩
  · cases h3
theorem gc_list : CallR X (.type "list") (rGC X.K listD) := by
  intro pins s σ H xs us Q I r h
  obtain ⟨F, ds, z, s0, h1, h3, q⟩ := h
  unfold listD at h3
  split at h3
  · obtain ⟨v, rfl, hv⟩ := h1.one
    obtain ⟨a, vs, rfl, e1, r1⟩ := hv.lst s0
    cases h3
    exact call_list_of pins s σ H _ us Q I r ⟨_, _, rfl, .inl (SqL.of e1), fun p hp => q p _ hp r1⟩
  · obtain ⟨v, rfl, hv⟩ := h1.one
    obtain ⟨a, vs, rfl, e1, r1⟩ := hv.tup s0
    cases h3
    exact call_list_of pins s σ H _ us Q I r ⟨_, _, rfl, .inr (SqT.of e1), fun p hp => q p _ hp r1⟩
  · cases h3
theorem c_list : CallR X (.type "list") (rC X.K listD) := fun pins s σ H xs us Q I r ⟨F, ds, z, s0, h1, h3, q⟩ => gc_list pins s σ H xs us Q I r ⟨F, ds, z, s0, h1, h3, q.g s0⟩
theorem c_tuple : CallR X (.type "tuple") (rC X.K tupleD) := by
  intro pins s σ H xs us Q I r h
  obtain ⟨F, ds, z, s0, h1, h3, q⟩ := h
  unfold tupleD at h3
  split at h3
  · obtain ⟨v, rfl, hv⟩ := h1.one
    obtain ⟨a, vs, rfl, e1, r1⟩ := hv.lst s0
    cases h3
    exact call_tuple_of pins s σ H _ us Q I r ⟨_, _, rfl, .inl ⟨SqL.of e1, fun p hp => q.tup s0 hp r1⟩⟩
  · obtain ⟨v, rfl, hv⟩ := h1.one
    rcases hv with hv | ⟨_, _, _, _, e, _⟩
    · cases hv with
      | tup e1 r1 =>
        cases h3
        exact call_tuple_of pins s σ H _ us Q I r ⟨_, _, rfl, .inr ⟨SqT.of (s0 _ _ e1), q.here (.tup e1 r1)⟩⟩
    · cases e
  · cases h3
theorem c_str : CallR X (.type "str") (rC X.K strD) := by
  intro pins s σ H xs us Q I r h
  obtain ⟨F, ds, z, s0, h1, h3, q⟩ := h
  unfold strD at h3
  split at h3
  · split at h3
    · rename_i hl
      obtain ⟨v, rfl, hv⟩ := h1.one
      have a1 := hv.int; subst a1
      exact call_str_int pins s σ H _ us Q I r ⟨_, rfl, hl, fin_str q (Option.some.inj h3)⟩
    · cases h3
  · cases h3
theorem c_divmod : CallR X (.builtin "divmod") (rC X.K divmodD) := by
  intro pins s σ H xs us Q I r h
  obtain ⟨F, ds, z, s0, h1, h3, q⟩ := h
  unfold divmodD at h3
  split at h3
  · split at h3
    · rename_i hl
      obtain ⟨v, w, rfl, hv, hw⟩ := h1.two
      have a1 := hv.int; have a2 := hw.int; subst a1 a2
      cases h3
      exact call_divmod pins s σ H _ us Q I r ⟨_, _, rfl, hl, fun p hp => q.tup s0 hp (.cons (.int _) (.cons (.int _) .nil))⟩
    · cases h3
  · cases h3
end
end Mp

/-! Mp: the rules of expressions, by what the evaluator says. -/
namespace Mp
open PySem PySem.Spec PyProof.Rows L2

abbrev pm (X : Cx) (cA : Nat → Addr) : Pm := ⟨X.K, cA⟩
section
variable {X : Cx} {cA : Nat → Addr} {W : WX} {E0 : Ent}
theorem finV_of {F' H' : Hp} {σ : Sg} {η : Eta} {ω' : Om} {z : D} {Q : VK} (g' : Gd X.K E0 F' H' σ η ω') (q : ∀ v F'' H'', Same F' F'' → Gd X.K E0 F'' H'' σ η ω' → Rp X.K F'' v z → Q v H'') : FinV X.K F' H' z Q :=
  fun v F'' H'' n r => q v F'' H'' (g'.new n).2.1 (g'.new n).1 r

theorem e_cst_int {i j pos} : PE X (.Constant (.int i) j pos) (tE (pm X cA) W fun _ ω => .ok (.int i) ω) := pe_int.imp fun σ H Q ⟨E0, F, η, ω, g, h⟩ => h _ F H (Same.refl F) g (.int i)
theorem e_cst_bl {i j pos} : PE X (.Constant (.bool i) j pos) (tE (pm X cA) W fun _ ω => .ok (.bl i) ω) := pe_bl.imp fun σ H Q ⟨E0, F, η, ω, g, h⟩ => h _ F H (Same.refl F) g (.bl i)
theorem e_cst_non {j pos} : PE X (.Constant .none j pos) (tE (pm X cA) W fun _ ω => .ok .non ω) := pe_non.imp fun σ H Q ⟨E0, F, η, ω, g, h⟩ => h _ F H (Same.refl F) g .non
theorem e_cst_str {i j pos} : PE X (.Constant (.str i) j pos) (tE (pm X cA) W fun _ ω => .ok (.str i) ω) := pe_str.imp fun σ H Q ⟨E0, F, η, ω, g, h⟩ => h _ F H (Same.refl F) g (.str i)
theorem e_glo {x : Str} {d : D} {v : V} {u : Value} {pos : Pos} (hg : Gl X x) (hm : X.mg x = some u) (r : RelV v u) (rp : ∀ F, Rp X.K F v d) (hd : (x == ("__debug__" : Str)) = false) : PE X (.Name x pos) (tE (pm X cA) W fun _ ω => .ok d ω) :=
  (pe_glob hg hm r hd).imp fun σ H Q ⟨E0, F, η, ω, g, h⟩ => h _ F H (Same.refl F) g (rp F)
theorem e_var {i : Nat} {x : Str} {pos : Pos} (hN : X.N[i]? = some x) (hv : Vis X.env.scope x) (hd : (x == ("__debug__" : Str)) = false) (hcd : (x == ("__classdict__" : Str)) = false) :
    PE X (.Name x pos) (tE (pm X cA) W fun η ω => Out.of ω ((η[i]?).getD none)) := (pe_var hN hv hd hcd).imp fun σ H Q ⟨E0, F, η, ω, g, h⟩ => by
  obtain ⟨d, e, q⟩ := PoE.of h
  cases e1 : η[i]? with
  | none => rw [e1] at e; cases e
  | some o =>
    rw [e1] at e
    have e' : o = some d := e
    subst e'
    obtain ⟨v, h1, h2⟩ := g.val i d e1
    exact ⟨v, h1, q v F H (Same.refl F) g h2⟩
theorem e_own {i : Nat} {x : Str} {pos : Pos} {f : Eta → M D} (hN : X.N[i]? = some x) (hv : Vis X.env.scope x) (hd : (x == ("__debug__" : Str)) = false) (hcd : (x == ("__classdict__" : Str)) = false) :
    PE X (.Name x pos) (tL (pm X cA) W (some i) f) := pe_var hN hv hd hcd
theorem e_l {e : Expr} {f : Eta → M D} (h : PE X e (tE (pm X cA) W f)) : PE X e (tL (pm X cA) W none f) := h

variable {a b c d : Expr} {fa fb fc fd : Eta → M D} {oa ob : Option Nat} {pos : Pos}
theorem e_bin (o : Op2) (ha : PE X a (tL (pm X cA) W oa fa)) (hb : PE X b (tL (pm X cA) W ob fb)) :
    PE X (.BinOp a (opOf o) b pos) (tE (pm X cA) W fun η ω => (opd2 oa ob fa fb η ω).bnd fun p ω => Out.of ω (op2D o p.1 p.2)) := (pe_op (r_op2 o) ha hb).imp fun σ H Q ⟨E0, F, η, ω, g, h⟩ => by
  refine two_run g h fun x y ω' v u F' H' s g' rx ry q => ?_
  obtain ⟨z, e, q⟩ := PoE.of q
  exact ⟨F', x, y, z, g'.sub, rx, ry, e, finV_of g' q⟩
theorem e_cmp (o : Cm) (hu : X.A.units + 65 < cLine) (ha : PE X a (tL (pm X cA) W oa fa)) (hb : PE X b (tL (pm X cA) W ob fb)) (hm : behindInMarks (cmOf o) b = false) :
    PE X (.Compare a [cmOf o] [b] pos) (tE (pm X cA) W fun η ω => (opd2 oa ob fa fb η ω).bnd fun p ω => Out.of ω ((cmpD o p.1 p.2).map .bl)) := (pe_cmpR (r_cm o hu) ha hb hm).imp fun σ H Q ⟨E0, F, η, ω, g, h⟩ => by
  refine two_run g h fun x y ω' v u F' H' s g' rx ry q => ?_
  obtain ⟨z, e, q⟩ := PoE.of q
  exact ⟨F', x, y, z, g'.sub, rx, ry, e, finV_of g' q⟩
theorem e_idx (ha : PE X a (tL (pm X cA) W oa fa)) (hb : PE X b (tL (pm X cA) W ob fb)) (hs : PlainIx b) :
    PE X (.Subscript a b pos) (tE (pm X cA) W fun η ω => (opd2 oa ob fa fb η ω).bnd fun p ω => Out.of ω (idxD p.1 p.2)) := (pe_ix r_idx ha hb hs).imp fun σ H Q ⟨E0, F, η, ω, g, h⟩ => by
  refine two_run g h fun x y ω' v u F' H' s g' rx ry q => ?_
  obtain ⟨z, e, q⟩ := PoE.of q
  exact ⟨F', x, y, z, g'.sub, rx, ry, e, finV_of g' q⟩
theorem onI_ok {x : D} {f : Int → Out D} {Q : VK} {F : Hp} {σ : Sg} {η : Eta} (h : PoE (pm X cA) (RE X.K) W E0 F σ η Q (onI x f)) : ∃ i, x = .int i ∧ PoE (pm X cA) (RE X.K) W E0 F σ η Q (f i) := by
  cases x with
  | int i => exact ⟨i, rfl, h⟩
  | _ => exact h.elim
theorem onB_ok {x : D} {f t : Out D} {Q : VK} {F : Hp} {σ : Sg} {η : Eta} (h : PoE (pm X cA) (RE X.K) W E0 F σ η Q (onB x f t)) : ∃ b, x = .bl b ∧ PoE (pm X cA) (RE X.K) W E0 F σ η Q (if b then f else t) := by
  cases x with
  | bl b => cases b <;> exact ⟨_, rfl, h⟩
  | _ => exact h.elim
theorem e_neg (ha : PE X a (tE (pm X cA) W fa)) : PE X (.UnaryOp .USub a pos) (tE (pm X cA) W fun η ω => (fa η ω).bnd fun x ω => onI x fun i => .ok (.int (-i)) ω) := (pe_un un_neg ha).imp fun σ H Q ⟨E0, F, η, ω, g, h⟩ => by
  refine ⟨E0, F, η, ω, g, PoE.bnd h fun x ω' v F' H' e s g' r q => ?_⟩
  obtain ⟨i, rfl, q⟩ := onI_ok q
  cases r
  exact ⟨i, rfl, q _ F' H' (Same.refl _) g' (.int _)⟩
theorem e_isN {j p'} (ha : PE X a (tE (pm X cA) W fa)) : PE X (.Compare a [.Is] [.Constant .none j p'] pos) (tE (pm X cA) W fun η ω => (fa η ω).bnd fun x ω => .ok (.bl (isNon x)) ω) := (pe_cmp (pc_isN ha) rfl).imp fun σ H Q ⟨E0, F, η, ω, g, h⟩ => by
  refine ⟨E0, F, η, ω, g, PoE.bnd h fun x ω' v F' H' e s g' r q => ?_⟩
  refine q _ F' H' (Same.refl _) g' ?_
  have : decide (v = V.non) = isNon x := by cases r <;> rfl
  rw [this]
  exact .bl _
theorem e_notN {j p'} (ha : PE X a (tE (pm X cA) W fa)) : PE X (.Compare a [.IsNot] [.Constant .none j p'] pos) (tE (pm X cA) W fun η ω => (fa η ω).bnd fun x ω => .ok (.bl (!isNon x)) ω) := (pe_cmp (pc_notN ha) rfl).imp fun σ H Q ⟨E0, F, η, ω, g, h⟩ => by
  refine ⟨E0, F, η, ω, g, PoE.bnd h fun x ω' v F' H' e s g' r q => ?_⟩
  refine q _ F' H' (Same.refl _) g' ?_
  have : decide (v = V.non) = isNon x := by cases r <;> rfl
  rw [this]
  exact .bl _
/-! ### as tests -/
theorem t_val {e : Expr} {f : Eta → M D} (h : PE X e (tE (pm X cA) W f)) (he : ∀ whole, isTrue e X.env whole = (do let v ← whole; standAt e.pos; holding [v] (truthy v))) : PT X e (tB (pm X cA) W (asB f)) := (pt_val h he).imp fun σ H Q ⟨E0, F, η, ω, g, h⟩ => by
  refine ⟨E0, F, η, ω, g, PoE.bnd h fun x ω' v F' H' e s g' r q => ?_⟩
  obtain ⟨b, e, q⟩ := PoE.of q
  cases x with
  | bl k =>
    cases r
    cases e
    exact ⟨_, rfl, q _ F' H' (Same.refl _) g' rfl⟩
  | _ => cases e
theorem asB_bnd {f : Eta → M D} {k : D → Om → Out D} (η : Eta) (ω : Om) : asB (fun η ω => (f η ω).bnd k) η ω = (f η ω).bnd fun x ω => (k x ω).bnd fun y ω => Out.of ω (tru y) := by
  unfold asB
  rw [Out.bnd_assoc]
theorem t_cmp (o : Cm) (hu : X.A.units + 65 < cLine) (ha : PE X a (tL (pm X cA) W oa fa)) (hb : PE X b (tL (pm X cA) W ob fb)) (hm : behindInMarks (cmOf o) b = false) :
    PT X (.Compare a [cmOf o] [b] pos) (tB (pm X cA) W (asB fun η ω => (opd2 oa ob fa fb η ω).bnd fun p ω => Out.of ω ((cmpD o p.1 p.2).map .bl))) := (pt_cmpR (r_cm o hu) ha hb hm).imp fun σ H Q ⟨E0, F, η, ω, g, h⟩ => by
  unfold asB at h
  rw [Out.bnd_assoc] at h
  refine two_run g h fun x y ω' v u F' H' s g' rx ry q => ?_
  dsimp only at q
  cases e : cmpD o x y with
  | none => rw [e] at q; exact q.elim
  | some b =>
    rw [e] at q
    refine ⟨F', x, y, .bl b, g'.sub, rx, ry, by dsimp only; rw [e]; rfl, by
      refine finV_of g' fun w F'' H'' s2 g2 r2 => ?_
      cases r2
      exact ⟨b, rfl, q b F'' H'' s2 g2 rfl⟩⟩
theorem e_not (ha : PE X a (tE (pm X cA) W fa)) : PE X (.UnaryOp .Not a pos) (tE (pm X cA) W fun η ω => (fa η ω).bnd fun x ω => onB x (.ok (.bl false) ω) (.ok (.bl true) ω)) := (pe_not ha).imp fun σ H Q ⟨E0, F, η, ω, g, h⟩ => by
  refine ⟨E0, F, η, ω, g, PoE.bnd h fun x ω' v F' H' e s g' r q => ?_⟩
  obtain ⟨b, rfl, q⟩ := onB_ok q
  cases r
  cases b <;> exact ⟨_, rfl, q _ F' H' (Same.refl _) g' (.bl _)⟩
theorem tru_ok {γ δ : Type} {R' : Om → Hp → Hp → δ → γ → Prop} {Q : δ → Hp → Prop} {F : Hp} {σ : Sg} {η : Eta} {ω : Om} {x : D} {k : Bool → Om → Out γ} (h : PoE (pm X cA) R' W E0 F σ η Q ((Out.of ω (tru x)).bnd k)) : ∃ b, x = .bl b ∧ PoE (pm X cA) R' W E0 F σ η Q (k b ω) := by
  cases x with
  | bl b => exact ⟨b, rfl, h⟩
  | _ => exact h.elim
theorem asB_onB {η : Eta} {f : Eta → M D} {k t : Eta → M D} {ω : Om} : asB (fun η ω => (f η ω).bnd fun x ω => onB x (k η ω) (t η ω)) η ω = (asB f η ω).bnd fun c ω => if c then asB k η ω else asB t η ω := by
  unfold asB
  rw [Out.bnd_assoc, Out.bnd_assoc]
  congr 1
  funext x ω
  cases x with
  | bl b => cases b <;> rfl
  | _ => rfl
theorem t_not (ha : PT X a (tB (pm X cA) W (asB fa))) : PT X (.UnaryOp .Not a pos) (tB (pm X cA) W (asB fun η ω => (fa η ω).bnd fun x ω => onB x (.ok (.bl false) ω) (.ok (.bl true) ω))) := (pt_not ha).imp fun σ H Q ⟨E0, F, η, ω, g, h⟩ => by
  rw [asB_onB (f := fa) (k := fun _ ω => .ok (.bl false) ω) (t := fun _ ω => .ok (.bl true) ω)] at h
  refine ⟨E0, F, η, ω, g, PoE.bnd h fun c ω' v F' H' e s g' r q => ?_⟩
  subst r
  cases v <;> exact q _ F' H' (Same.refl _) g' rfl
theorem e_and {rest : List Expr} (ha : PE X a (tE (pm X cA) W fa)) (hb : PE X (.BoolOp .And (b :: rest) pos) (tE (pm X cA) W fb)) : PE X (.BoolOp .And (a :: b :: rest) pos) (tE (pm X cA) W fun η ω => (fa η ω).bnd fun x ω => onB x (fb η ω) (.ok (.bl false) ω)) := (pe_and ha hb).imp fun σ H Q ⟨E0, F, η, ω, g, h⟩ => by
  refine ⟨E0, F, η, ω, g, PoE.bnd h fun x ω' v F' H' e s g' r q => ?_⟩
  obtain ⟨b, rfl, q⟩ := onB_ok q
  cases r
  cases b
  · exact ⟨_, rfl, q _ F' H' (Same.refl _) g' (.bl _)⟩
  · exact ⟨_, rfl, E0, F', η, ω', g', q⟩
theorem e_or {rest : List Expr} (ha : PE X a (tE (pm X cA) W fa)) (hb : PE X (.BoolOp .Or (b :: rest) pos) (tE (pm X cA) W fb)) : PE X (.BoolOp .Or (a :: b :: rest) pos) (tE (pm X cA) W fun η ω => (fa η ω).bnd fun x ω => onB x (.ok (.bl true) ω) (fb η ω)) := (pe_or ha hb).imp fun σ H Q ⟨E0, F, η, ω, g, h⟩ => by
  refine ⟨E0, F, η, ω, g, PoE.bnd h fun x ω' v F' H' e s g' r q => ?_⟩
  obtain ⟨b, rfl, q⟩ := onB_ok q
  cases r
  cases b
  · exact ⟨_, rfl, E0, F', η, ω', g', q⟩
  · exact ⟨_, rfl, q _ F' H' (Same.refl _) g' (.bl _)⟩
theorem t_and {rest : List Expr} (ha : PT X a (tB (pm X cA) W (asB fa))) (hb : PW X (.BoolOp .And (b :: rest) pos) (tB (pm X cA) W (asB fb))) : PW X (.BoolOp .And (a :: b :: rest) pos) (tB (pm X cA) W (asB fun η ω => (fa η ω).bnd fun x ω => onB x (fb η ω) (.ok (.bl false) ω))) := by
  refine ⟨fun wh pins s σ H Q I hh => (pw_and ha hb).run wh pins s σ H Q I ?_⟩
  obtain ⟨E0, F, η, ω, g, h⟩ := hh
  rw [asB_onB (f := fa) (k := fb) (t := fun _ ω => .ok (.bl false) ω)] at h
  refine ⟨E0, F, η, ω, g, PoE.bnd h fun c ω' v F' H' e s g' r q => ?_⟩
  subst r
  cases v
  · exact q _ F' H' (Same.refl _) g' rfl
  · exact ⟨E0, F', η, ω', g', q⟩
theorem t_or {rest : List Expr} (ha : PT X a (tB (pm X cA) W (asB fa))) (hb : PW X (.BoolOp .Or (b :: rest) pos) (tB (pm X cA) W (asB fb))) : PW X (.BoolOp .Or (a :: b :: rest) pos) (tB (pm X cA) W (asB fun η ω => (fa η ω).bnd fun x ω => onB x (.ok (.bl true) ω) (fb η ω))) := by
  refine ⟨fun wh pins s σ H Q I hh => (pw_or ha hb).run wh pins s σ H Q I ?_⟩
  obtain ⟨E0, F, η, ω, g, h⟩ := hh
  rw [asB_onB (f := fa) (k := fun _ ω => .ok (.bl true) ω) (t := fb)] at h
  refine ⟨E0, F, η, ω, g, PoE.bnd h fun c ω' v F' H' e s g' r q => ?_⟩
  subst r
  cases v
  · exact ⟨E0, F', η, ω', g', q⟩
  · exact q _ F' H' (Same.refl _) g' rfl
theorem e_ife (hc : PT X c (tB (pm X cA) W (asB fc))) (ha : PE X a (tE (pm X cA) W fa)) (hb : PE X b (tE (pm X cA) W fb)) : PE X (.IfExp c a b pos) (tE (pm X cA) W fun η ω => (fc η ω).bnd fun x ω => onB x (fa η ω) (fb η ω)) := (pe_ifExp hc ha hb).imp fun σ H Q ⟨E0, F, η, ω, g, h⟩ => by
  have h' : PoE (pm X cA) (RE X.K) W E0 F σ η Q ((asB fc η ω).bnd fun c ω => if c then fa η ω else fb η ω) := by
    unfold asB
    rw [Out.bnd_assoc]
    have : (fun a ω => (Out.of ω (tru a)).bnd fun c ω => if c = true then fa η ω else fb η ω) = fun x ω => onB x (fa η ω) (fb η ω) := by
      funext x ω
      cases x with
      | bl b => cases b <;> rfl
      | _ => rfl
    rw [this]
    exact h
  refine ⟨E0, F, η, ω, g, PoE.bnd h' fun c ω' v F' H' e s g' r q => ?_⟩
  subst r
  cases v
  · exact ⟨E0, F', η, ω', g', q⟩
  · exact ⟨E0, F', η, ω', g', q⟩

/-! ### chains of comparisons -/
theorem onO_ok {x : Option Bool} {f t : Out D} {Q : VK} {F : Hp} {σ : Sg} {η : Eta} (h : PoE (pm X cA) (RE X.K) W E0 F σ η Q (onO x f t)) : ∃ b, x = some b ∧ PoE (pm X cA) (RE X.K) W E0 F σ η Q (if b then f else t) := by
  cases x with
  | some b => cases b <;> exact ⟨_, rfl, h⟩
  | none => exact h.elim
theorem e_ch2 (o p : Cm) (hu : X.A.units + 65 < cLine) (ha : PE X a (tE (pm X cA) W fa)) (hb : PE X b (tE (pm X cA) W fb)) (hc : PE X c (tE (pm X cA) W fc)) (hm : lastMarks [cmOf o, cmOf p] [b, c] = false) :
    PE X (.Compare a [cmOf o, cmOf p] [b, c] pos) (tE (pm X cA) W fun η ω => (fa η ω).bnd fun x ω => (fb η ω).bnd fun y ω => onO (cmpD o x y) ((fc η ω).bnd fun z ω => Out.of ω ((cmpD p y z).map .bl)) (.ok (.bl false) ω)) :=
  (pe_chain (r_cm o hu) (r_cm p hu) ha hb hc hm).imp fun σ H Q ⟨E0, F, η, ω, g, h⟩ => by
  refine ⟨E0, F, η, ω, g, PoE.bnd h fun x ω1 v F1 H1 e1 s1 g1 rx q => ?_⟩
  refine ⟨E0, F1, η, ω1, g1, PoE.bnd q fun y ω2 u F2 H2 e2 s2 g2 ry q => ?_⟩
  obtain ⟨k, e3, q⟩ := onO_ok q
  refine ⟨F2, x, y, .bl k, g2.sub, .inl (rx.mono s2), .inl ry, by dsimp only; rw [e3]; rfl, ?_⟩
  refine finV_of g2 fun w F3 H3 s3 g3 r3 => ?_
  cases r3
  refine ⟨k, rfl, ?_⟩
  have q := PoE.weak s3 q
  cases k
  · exact q _ F3 H3 (Same.refl _) g3 (.bl _)
  · refine ⟨E0, F3, η, ω2, g3, PoE.bnd q fun z ω4 t F4 H4 e4 s4 g4 rz q => ?_⟩
    obtain ⟨z', e5, q⟩ := PoE.of q
    exact ⟨F4, y, z, z', g4.sub, .inl ((ry.mono s3).mono s4), .inl rz, e5, finV_of g4 q⟩
theorem e_ch3 (o p q : Cm) (hu : X.A.units + 65 < cLine) (ha : PE X a (tE (pm X cA) W fa)) (hb : PE X b (tE (pm X cA) W fb)) (hc : PE X c (tE (pm X cA) W fc)) (hd : PE X d (tE (pm X cA) W fd)) (hm : lastMarks [cmOf o, cmOf p, cmOf q] [b, c, d] = false) :
    PE X (.Compare a [cmOf o, cmOf p, cmOf q] [b, c, d] pos) (tE (pm X cA) W fun η ω => (fa η ω).bnd fun x ω => (fb η ω).bnd fun y ω => onO (cmpD o x y) ((fc η ω).bnd fun z ω => onO (cmpD p y z) ((fd η ω).bnd fun w ω => Out.of ω ((cmpD q z w).map .bl)) (.ok (.bl false) ω)) (.ok (.bl false) ω)) := by
  refine ⟨fun pins s σ H Q I hh => ?_⟩
  obtain ⟨E0, F, η, ω, g, h⟩ := hh
  have h1 : tE (pm X cA) W fa σ H fun v H1 => tE (pm X cA) W fb σ H1 fun u H2 => rCm X.K o v u H2 fun z H3 => ∃ k, z = .bl k ∧ if k = true then (tE (pm X cA) W fc σ H3 fun t H4 => rCm X.K p u t H4 fun z H5 => ∃ k, z = .bl k ∧ if k = true then (tE (pm X cA) W fd σ H5 fun w H6 => rCm X.K q t w H6 Q) else Q (.bl false) H5) else Q (.bl false) H3 := by
    refine ⟨E0, F, η, ω, g, PoE.bnd h fun x ω1 v F1 H1 e1 s1 g1 rx q => ?_⟩
    refine ⟨E0, F1, η, ω1, g1, PoE.bnd q fun y ω2 u F2 H2 e2 s2 g2 ry q => ?_⟩
    obtain ⟨k, e3, q⟩ := onO_ok q
    refine ⟨F2, x, y, .bl k, g2.sub, .inl (rx.mono s2), .inl ry, by dsimp only; rw [e3]; rfl, ?_⟩
    refine finV_of g2 fun w F3 H3 s3 g3 r3 => ?_
    cases r3
    refine ⟨k, rfl, ?_⟩
    have q := PoE.weak s3 q
    cases k
    · exact q _ F3 H3 (Same.refl _) g3 (.bl _)
    · refine ⟨E0, F3, η, ω2, g3, PoE.bnd q fun z ω4 t F4 H4 e4 s4 g4 rz q => ?_⟩
      obtain ⟨k, e5, q⟩ := onO_ok q
      refine ⟨F4, y, z, .bl k, g4.sub, .inl ((ry.mono s3).mono s4), .inl rz, by dsimp only; rw [e5]; rfl, ?_⟩
      refine finV_of g4 fun w F5 H5 s5 g5 r5 => ?_
      cases r5
      refine ⟨k, rfl, ?_⟩
      have q := PoE.weak s5 q
      cases k
      · exact q _ F5 H5 (Same.refl _) g5 (.bl _)
      · refine ⟨E0, F5, η, ω4, g5, PoE.bnd q fun w ω6 t' F6 H6 e6 s6 g6 rw' q => ?_⟩
        obtain ⟨z', e7, q⟩ := PoE.of q
        exact ⟨F6, z, w, z', g6.sub, .inl ((rz.mono s5).mono s6), .inl rw', e7, finV_of g6 q⟩
  refine Compare_chain (thn (ha.run pins s σ H _ I h1) fun v s1 ⟨x, H1, I1, r1, q1⟩ => chain_link (thn (hb.run pins s1 σ H1 _ I1 q1) fun u s2 ⟨y, H2, I2, r2, q2⟩ =>
    thn (r_cm o hu pins s2 σ H2 x y v u _ I2 r1 r2 q2) fun d s3 ⟨z, H3, I3, r3, k, e, q3⟩ => ?_)) hm
  subst e
  cases r3
  refine wpAny_truthy_bool ?_
  cases k with
  | false => exact ite_ff ⟨.bl false, H3, I3, rfl, q3⟩
  | true =>
    refine ite_tt (chain_link (thn (hc.run pins s3 σ H3 _ I3 q3) fun u' s4 ⟨y', H4, I4, r4, q4⟩ => thn (r_cm p hu pins s4 σ H4 y y' u u' _ I4 r2 r4 q4) fun d' s5 ⟨z, H5, I5, r5, k, e, q5⟩ => ?_))
    subst e
    cases r5
    refine wpAny_truthy_bool ?_
    cases k with
    | false => exact ite_ff ⟨.bl false, H5, I5, rfl, q5⟩
    | true => exact ite_tt (chain_last (thn (hd.run pins s5 σ H5 _ I5 q5) fun w' s6 ⟨z', H6, I6, r6, q6⟩ => r_cm q hu pins s6 σ H6 y' z' u' w' Q I6 r4 r6 q6))
end
end Mp

/-! Mp: arguments, displays, slices, built-ins, methods, isinstance. -/
namespace Mp
open PySem PySem.Spec PyProof.Rows L2

section
variable {X : Cx} {cA : Nat → Addr} {W : WX} {E0 : Ent}
variable {a b c d e : Expr} {es : List Expr} {fa fb fc fe : Eta → M D} {fes : Eta → M (List D)} {oa ob oe : Option Nat} {pos : Pos}
/-! ### arguments -/
theorem a_nil : PA X [] (tA (pm X cA) W fun _ ω => .ok [] ω) := pa_nil.imp fun σ H Q ⟨E0, F, η, ω, g, h⟩ => h _ F H (Same.refl F) g .nil
theorem a_cons (he : PE X e (tE (pm X cA) W fe)) (hr : PA X es (tA (pm X cA) W fes)) (hs : starEach (e :: es) X.env = (false, eval e X.env) :: starEach es X.env) :
    PA X (e :: es) (tA (pm X cA) W fun η ω => (opd none fe η ω).bnd fun x ω => (fes η ω).bnd fun xs ω => Out.of ω ((snap ω none x).bind fun x => some (x :: xs))) := (pa_cons he hr hs).imp fun σ H Q ⟨E0, F, η, ω, g, h⟩ => by
  refine ⟨E0, F, η, ω, g, PoE.bnd (R := RE X.K) (o := fe η ω) h fun x ω1 v F1 H1 e1 s1 g1 rx q => ?_⟩
  refine ⟨E0, F1, η, ω1, g1, PoE.bnd q fun xs ω2 vs F2 H2 e2 s2 g2 rxs q => ?_⟩
  exact q _ F2 H2 (Same.refl _) g2 (.cons (rx.mono s2) rxs)
theorem RqL.of {K : PySem.W.Frag} {F H : Hp} : ∀ {vs : List V} {ds : List D}, RpL K F vs ds → RqL K F H vs ds
  | _, _, .nil => .nil
  | _, _, .cons h r => .cons (.inl h) (RqL.of r)
/-- what an operand's value is from now on, while nothing but new objects come -/
theorem aq_of (h : PA X es (tA (pm X cA) W fes)) : PA X es (tAq (pm X cA) W fes) := h.imp fun σ H Q ⟨E0, F, η, ω, g, h⟩ => by
  refine ⟨E0, F, η, ω, g, ?_⟩
  cases e : fes η ω with
  | st => rw [e] at h; exact h
  | ex c p ω' => rw [e] at h; exact h
  | ok d ω' =>
    rw [e] at h
    exact fun vs F' H' s g' r => h vs F' H' s g' (RqL.of r)
/-- one operand alone -/
theorem aq_one (he : PE X e (tL (pm X cA) W oe fe)) (hs : starEach [e] X.env = [(false, eval e X.env)]) :
    PA X [e] (tAq (pm X cA) W fun η ω => (opd oe fe η ω).bnd fun x ω => (Out.ok ([] : List D) ω).bnd fun xs ω => Out.of ω ((snap ω oe x).bind fun x => some (x :: xs))) := (pa_cons he pa_nil hs).imp fun σ H Q ⟨E0, F, η, ω, g, h⟩ => by
  refine opd_run g h fun x0 ω1 v F1 H1 _ s1 g1 o1 q => ?_
  dsimp only [Out.bnd_ok] at q
  obtain ⟨xs, e1, q⟩ := PoE.of q
  obtain ⟨x, e2, e3⟩ := Option.bind_eq_some_iff.mp e1
  cases e3
  exact q [v] F1 H1 (Same.refl _) g1 (.cons (o1.snap g1 e2) .nil)

/-! ### displays -/
theorem iteO_ok {β : Type} {α : Type} {R : Om → Hp → Hp → β → α → Prop} {c : Prop} [Decidable c] {f : Out α} {Q : β → Hp → Prop} {F : Hp} {σ : Sg} {η : Eta} (h : PoE (pm X cA) R W E0 F σ η Q (if c then f else .st)) : c ∧ PoE (pm X cA) R W E0 F σ η Q f := by
  by_cases hc : c
  · rw [if_pos hc] at h; exact ⟨hc, h⟩
  · rw [if_neg hc] at h; exact h.elim
theorem e_lst (h : PA X es (tA (pm X cA) W fes)) : PE X (.List es pos) (tE (pm X cA) W fun η ω => (fes η ω).bnd fun xs ω => if xs.length ≤ sizeLine then .ok (.lst xs) ω else .st) := (pe_lst h).imp fun σ H Q ⟨E0, F, η, ω, g, h⟩ => by
  refine ⟨E0, F, η, ω, g, PoE.bnd h fun xs ω1 vs F1 H1 e1 s1 g1 rx q => ?_⟩
  obtain ⟨hl, q⟩ := iteO_ok q
  exact ⟨by rw [rx.length]; exact hl, fun p hp => (finV_of g1 q).lst g1.sub hp rx⟩
theorem e_tup {k : Nat} (h : PA X es (tA (pm X cA) W fes)) : PE X (.Tuple es k pos) (tE (pm X cA) W fun η ω => (fes η ω).bnd fun xs ω => if xs.length ≤ sizeLine then .ok (.tup xs) ω else .st) := (pe_tup h).imp fun σ H Q ⟨E0, F, η, ω, g, h⟩ => by
  refine ⟨E0, F, η, ω, g, PoE.bnd h fun xs ω1 vs F1 H1 e1 s1 g1 rx q => ?_⟩
  obtain ⟨hl, q⟩ := iteO_ok q
  exact ⟨by rw [rx.length]; exact hl, fun p hp => (finV_of g1 q).tup g1.sub hp rx⟩

/-! ### slices -/
theorem RpL.cut {K : PySem.W.Frag} {F : Hp} {ds : List D} {vs : List V} (r : RpL K F vs ds) (lo hi : Option Int) : RpL K F (cutV vs lo hi) (cutD ds lo hi) := by
  unfold cutV cutD
  rw [r.length]
  exact (r.drop _).take _
theorem cutV_map {α : Type} (f : α → V) (xs : List α) (lo hi : Option Int) : cutV (xs.map f) lo hi = (cutD xs lo hi).map f := by
  unfold cutV cutD
  rw [List.length_map, List.map_take, List.map_drop]
def rS (K : PySem.W.Frag) : V → Option Int → Option Int → Hp → VK → Prop := fun x lo hi H Q => ∃ F d z, Same F H ∧ Rq K F H x d ∧ slcO d lo hi = some z ∧ FinV K F H z Q
theorem r_slc : SlR X (rS X.K) := by
  intro pins s σ H x v vl vu lo hi sl Q I rx hs pl pu h
  obtain ⟨F, d, z, s0, h1, h3, q⟩ := h
  unfold slcO at h3
  split at h3
  · obtain ⟨p, vs, rfl, e1, r1⟩ := h1.lst s0
    cases h3
    exact sl_list pins s σ H _ v vl vu lo hi sl Q I rx hs pl pu ⟨_, _, rfl, SqL.of e1, fun p hp => q.lst s0 hp (r1.cut lo hi)⟩
  · obtain ⟨p, rfl, e1⟩ := h1.scr s0
    cases h3
    exact sl_list pins s σ H _ v vl vu lo hi sl Q I rx hs pl pu ⟨_, _, rfl, e1, fun p hp => by
      rw [cutV_map]
      exact q.lst s0 hp (rpL_ints _)⟩
  · split at h3
    · rename_i hl
      have a1 := h1.str; subst a1
      exact sl_str pins s σ H _ v vl vu lo hi sl Q I rx hs pl pu ⟨_, rfl, hl, fin_str q (Option.some.inj h3)⟩
    · cases h3
  · cases h3
theorem _root_.L2.PO.imp {X : Cx} {e : Option Expr} {t t' : TO} (h : PO X e t) (i : ∀ σ H Q, t' σ H Q → t σ H Q) : PO X e t' := ⟨fun pins s σ H Q I q => h.run pins s σ H Q I (i σ H Q q)⟩
def tO (P : Pm) (W : WX) (f : Eta → M D) : TO := fun σ H Q => ∃ E0 F η ω, Gd P.K E0 F H σ η ω ∧ PoE P (fun _ _ _ (o : Option Int) d => optI d = some o) W E0 F σ η Q (f η ω)
theorem o_none {f : Eta → M D} : PO X none (tO (pm X cA) W (part true f)) := po_none.imp fun σ H Q ⟨E0, F, η, ω, g, h⟩ => h none F H (Same.refl _) g rfl
theorem o_some (he : PE X e (tE (pm X cA) W fe)) : PO X (some e) (tO (pm X cA) W (part false fe)) := (po_some he).imp fun σ H Q ⟨E0, F, η, ω, g, h⟩ => by
  refine ⟨E0, F, η, ω, g, PoE.bnd (R := RE X.K) (o := fe η ω) h fun x ω1 v F1 H1 e1 s1 g1 rx q => ?_⟩
  cases x with
  | int i =>
    cases rx
    exact ⟨i, rfl, q (some i) F1 H1 (Same.refl _) g1 rfl⟩
  | _ => exact q.elim
theorem e_slc {lo hi : Option Expr} {p2 : Pos} {bl bh : Bool} {fl fh : Eta → M D} (ha : PE X a (tL (pm X cA) W oa fa)) (hl : PO X lo (tO (pm X cA) W (part bl fl))) (hh : PO X hi (tO (pm X cA) W (part bh fh))) :
    PE X (.Subscript a (.Slice lo hi none p2) pos) (tE (pm X cA) W fun η ω => (opd oa fa η ω).bnd fun x ω => (part bl fl η ω).bnd fun l ω => (part bh fh η ω).bnd fun h ω => Out.of ω ((snap ω oa x).bind fun x => slcD x l h)) :=
  (pe_slice r_slc ha hl hh).imp fun σ H Q ⟨E0, F, η, ω, g, h⟩ => by
  refine opd_run g h fun x0 ω1 v F1 H1 _ s1 g1 o1 q => ?_
  refine ⟨E0, F1, η, ω1, g1, PoE.bnd q fun l ω2 lo' F2 H2 e2 s2 g2 rl q => ?_⟩
  refine ⟨E0, F2, η, ω2, g2, PoE.bnd q fun h ω3 hi' F3 H3 e3 s3 g3 rh q => ?_⟩
  obtain ⟨z, e4, q⟩ := PoE.of q
  obtain ⟨x, e5, e6⟩ := Option.bind_eq_some_iff.mp e4
  unfold slcD at e6
  rw [rl, rh] at e6
  exact ⟨F3, x, z, g3.sub, ((o1.mono s2).mono s3).snap g3 e5, e6, finV_of g3 q⟩
theorem e_rev {k : Nat} {p1 p2 p3 : Pos} (ha : PE X a (tL (pm X cA) W oa fa)) : PE X (.Subscript a (.Slice none none (some (.UnaryOp .USub (.Constant (.int 1) k p1) p2)) p3) pos) (tE (pm X cA) W fun η ω => (opd oa fa η ω).bnd fun x ω => Out.of ω ((snap ω oa x).bind revD)) :=
  (pe_revL ha).imp fun σ H Q ⟨E0, F, η, ω, g, h⟩ => by
  refine opd_run g h fun x0 ω1 v F1 H1 _ s1 g1 o1 q => ?_
  obtain ⟨z, e4, q⟩ := PoE.of q
  obtain ⟨x, e5, e6⟩ := Option.bind_eq_some_iff.mp e4
  cases x with
  | lst xs =>
    obtain ⟨p, vs, rfl, e1, r1⟩ := (o1.snap g1 e5).lst g1.sub
    cases e6
    exact ⟨_, _, rfl, SqL.of e1, fun p hp => (finV_of g1 q).lst g1.sub hp r1.rev⟩
  | _ => cases e6

/-! ### built-ins by name -/
theorem e_blt {x : Str} {id : String} {p : Pos} {g : List D → Option D} (hc : CallR X (.builtin id) (rC X.K g)) (hg : Gl X x) (hm : X.mg x = none) (hv : bootBuiltins x = some (.builtin id)) (ha : PA X (e :: es) (tAq (pm X cA) W fes)) (hn : x ≠ "__name__") (hdb : (x == ("__debug__" : Str)) = false)
    (he : starEach (e :: es) X.env = (false, eval e X.env) :: starEach es X.env) (hpl : (backTo pos (starEach es X.env)).any (·.1) = false) : PE X (.Call (.Name x p) (e :: es) [] pos) (tE (pm X cA) W fun η ω => (fes η ω).bnd fun xs ω => Out.of ω (g xs)) :=
  (pe_callB hc hg hm hv ha hn hdb he hpl).imp fun σ H Q ⟨E0, F, η, ω, gd, h⟩ => by
  refine ⟨E0, F, η, ω, gd, PoE.bnd h fun xs ω1 vs F1 H1 e1 s1 g1 rx q => ?_⟩
  obtain ⟨z, e4, q⟩ := PoE.of q
  exact ⟨F1, xs, z, g1.sub, rx, e4, finV_of g1 q⟩
theorem e_bltT {x : Str} {id : String} {p : Pos} {g : List D → Option D} (hc : CallR X (.type id) (rC X.K g)) (hg : Gl X x) (hm : X.mg x = none) (hv : bootBuiltins x = some (.type id)) (ha : PA X (e :: es) (tAq (pm X cA) W fes)) (hn : x ≠ "__name__") (hdb : (x == ("__debug__" : Str)) = false)
    (he : starEach (e :: es) X.env = (false, eval e X.env) :: starEach es X.env) (hpl : (backTo pos (starEach es X.env)).any (·.1) = false) : PE X (.Call (.Name x p) (e :: es) [] pos) (tE (pm X cA) W fun η ω => (fes η ω).bnd fun xs ω => Out.of ω (g xs)) :=
  (pe_callTy hc hg hm hv ha hn hdb he hpl).imp fun σ H Q ⟨E0, F, η, ω, gd, h⟩ => by
  refine ⟨E0, F, η, ω, gd, PoE.bnd h fun xs ω1 vs F1 H1 e1 s1 g1 rx q => ?_⟩
  obtain ⟨z, e4, q⟩ := PoE.of q
  exact ⟨F1, xs, z, g1.sub, rx, e4, finV_of g1 q⟩

/-! ### methods -/
theorem m_index (hu : X.A.units + 65 < cLine) : MtR X "list.index" (rM X.K indexD) := by
  intro pins s σ H x xs v us Q I rx rs h
  obtain ⟨F, d, ds, z, s0, h1, h2, h3, q⟩ := h
  unfold indexD at h3
  split at h3
  · split at h3
    · rename_i ys y hs
      obtain ⟨c1, c2⟩ := Bool.and_eq_true_iff.mp hs
      obtain ⟨w, rfl, hw⟩ := h2.one
      obtain ⟨p, vs, rfl, e1, r1⟩ := h1.lst s0
      obtain ⟨j, h4, h5⟩ := Option.map_eq_some_iff.mp h3
      obtain ⟨hj, h6, h7⟩ := List.findIdx?_eq_some_iff_getElem.mp h4
      have h1' := h1.dp s0 c1
      have ey : (D.lst ys).py = .list (pys ys) := by simp [D.py]
      rw [ey] at h1'
      exact mt_indexD hu pins s σ H _ _ v us Q I rx rs ⟨_, _, _, _, j, (pys ys)[j], rfl, rfl, h1', hw.dp s0 c2, shaped_lst c1, c2, List.getElem?_eq_getElem hj, h6, fun m z' hm hz => by
        obtain ⟨hm', e⟩ := List.getElem?_eq_some_iff.mp hz
        subst e
        have := h7 m hm
        simpa using this, fin_int q h5⟩
    · cases h3
  · cases h3
theorem m_count : MtR X "list.count" (rM X.K countD) := by
  intro pins s σ H x xs v us Q I rx rs h
  obtain ⟨F, d, ds, z, s0, h1, h2, h3, q⟩ := h
  unfold countD at h3
  split at h3
  · obtain ⟨ns, h4, h5⟩ := Option.map_eq_some_iff.mp h3
    obtain ⟨w, rfl, hw⟩ := h2.one
    have a2 := hw.int; subst a2
    obtain ⟨p, vs, rfl, e1, r1⟩ := h1.lst s0
    rw [r1.ints h4] at e1
    exact mt_lcount pins s σ H _ _ v us Q I rx rs ⟨_, _, _, rfl, rfl, SqL.of e1, fin_int q h5⟩
  · cases h3
theorem m_join : MtR X "str.join" (rM X.K joinD) := by
  intro pins s σ H x xs v us Q I rx rs h
  obtain ⟨F, d, ds, z, s0, h1, h2, h3, q⟩ := h
  unfold joinD at h3
  split at h3
  · obtain ⟨ns, h4, h5⟩ := Option.bind_eq_some_iff.mp h3
    split at h5
    · rename_i hl
      unfold joinOk at hl
      have hl' := of_decide_eq_true hl
      obtain ⟨w, rfl, hw⟩ := h2.one
      have a1 := h1.str; subst a1
      obtain ⟨p, vs, rfl, e1, r1⟩ := hw.lst s0
      rw [r1.strs h4] at e1
      exact mt_join pins s σ H _ _ v us Q I rx rs ⟨_, _, _, rfl, rfl, .inl (SqL.of e1), hl', fin_str q (Option.some.inj h5)⟩
    · cases h5
  · cases h3
theorem m_split : MtR X "str.split" (rM X.K splitD) := by
  intro pins s σ H x xs v us Q I rx rs h
  obtain ⟨F, d, ds, z, s0, h1, h2, h3, q⟩ := h
  unfold splitD at h3
  split at h3
  · split at h3
    · rename_i hl
      obtain ⟨w, rfl, hw⟩ := h2.one
      have a1 := h1.str; subst a1
      have a2 := hw.str; subst a2
      cases h3
      exact mt_split pins s σ H _ _ v us Q I rx rs ⟨_, _, rfl, rfl, hl.1, hl.2, fun p hp => q.lst s0 hp (rpL_strs _)⟩
    · cases h3
  · cases h3
theorem m_starts : MtR X "str.startswith" (rM X.K startsD) := by
  intro pins s σ H x xs v us Q I rx rs h
  obtain ⟨F, d, ds, z, s0, h1, h2, h3, q⟩ := h
  unfold startsD at h3
  split at h3
  · obtain ⟨w, rfl, hw⟩ := h2.one
    have a1 := h1.str; subst a1
    have a2 := hw.str; subst a2
    exact mt_startswith pins s σ H _ _ v us Q I rx rs ⟨_, _, rfl, rfl, fin_bl q (Option.some.inj h3)⟩
  · cases h3
/-- the method of a value of the type T, with arguments -/
theorem e_mth {T id : String} {nm : Str} {apos : Pos} {m : Mt} (pa : PlainAttrs T) (slot : Slot T nm id) (hty : typeOf (.builtin id) = pure (.type "method_descriptor")) (hm : MtR X id (rM X.K (mtD m)))
    (tv : ∀ (F H : Hp) (v : V) (d : D), Same F H → Rq X.K F H v d → mtOk m (some d) = true → tyV X.K T v H)
    (ho : PE X a (tL (pm X cA) W oa fa)) (ha : PA X (e :: es) (tAq (pm X cA) W fes))
    (hbase : attributeBase a nm X.env (eval a X.env) = eval a X.env)
    (hfew : ((backTo pos (starEach (e :: es) X.env)).all (fun x => !x.1) && (backToKw pos (keywordEach [] X.env)).all (fun x => x.1.isSome)
      && decide ((e :: es).length + ([] : List Keyword).length + (if ([] : List Keyword).isEmpty then 0 else 1) < 30)) = true)
    (hline : (apos.endLine == pos.line) = true) (hs : starEach (e :: es) X.env = (false, eval e X.env) :: starEach es X.env) (hplain : (backTo pos (starEach es X.env)).any (·.1) = false) :
    PE X (.Call (.Attribute a nm apos) (e :: es) [] pos) (tE (pm X cA) W fun η ω => (opd oa fa η ω).bnd fun x ω => if mtOk m (snap ω oa x) then (fes η ω).bnd fun xs ω => Out.of ω ((snap ω oa x).bind fun x => mtD m x xs) else .st) :=
  (pe_bm pa slot hty hm ho ha hbase hfew hline hs hplain).imp fun σ H Q ⟨E0, F, η, ω, g, h⟩ => by
  refine opd_run g h fun x0 ω1 v F1 H1 _ s1 g1 o1 q => ?_
  obtain ⟨hk, q⟩ := iteO_ok q
  refine ⟨?_, E0, F1, η, ω1, g1, PoE.bnd q fun xs ω2 vs F2 H2 e2 s2 g2 rxs q => ?_⟩
  · cases e1 : snap ω1 oa x0 with
    | none => rw [e1] at hk; cases m <;> cases hk
    | some x =>
      rw [e1] at hk
      exact tv F1 H1 v x g1.sub (o1.snap g1 e1) hk
  · obtain ⟨z, e4, q⟩ := PoE.of q
    obtain ⟨x, e5, e6⟩ := Option.bind_eq_some_iff.mp e4
    exact ⟨F2, x, xs, z, g2.sub, (o1.mono s2).snap g2 e5, rxs, e6, finV_of g2 q⟩
theorem tv_list {m : Mt} (hm : m = .index ∨ m = .count) (F H : Hp) (v : V) (d : D) (s : Same F H) (r : Rq X.K F H v d) (k : mtOk m (some d) = true) : tyV X.K "list" v H := by
  have : ∃ xs, d = .lst xs := by
    rcases hm with rfl | rfl <;> cases d <;> first | exact ⟨_, rfl⟩ | cases k
  obtain ⟨xs, rfl⟩ := this
  obtain ⟨p, vs, rfl, e1, r1⟩ := r.lst s
  exact Or.inl ⟨rfl, _, SqL.of e1⟩
theorem tv_str {m : Mt} (hm : m = .join ∨ m = .split ∨ m = .startswith) (F H : Hp) (v : V) (d : D) (s : Same F H) (r : Rq X.K F H v d) (k : mtOk m (some d) = true) : tyV X.K "str" v H := by
  have : ∃ xs, d = .str xs := by
    rcases hm with rfl | rfl | rfl <;> cases d <;> first | exact ⟨_, rfl⟩ | cases k
  obtain ⟨xs, rfl⟩ := this
  have a1 := r.str; subst a1
  rfl
theorem e_bits {apos : Pos} (ho : PE X a (tE (pm X cA) W fa)) (hbase : attributeBase a "bit_length" X.env (eval a X.env) = eval a X.env) (hline : (apos.endLine == pos.line) = true) :
    PE X (.Call (.Attribute a "bit_length" apos) [] [] pos) (tE (pm X cA) W fun η ω => (opd none fa η ω).bnd fun x ω => if mtOk .bitlen (snap ω none x) then (Out.ok ([] : List D) ω).bnd fun xs ω => Out.of ω ((snap ω none x).bind fun x => mtD .bitlen x xs) else .st) :=
  (pe_bits ho hbase hline).imp fun σ H Q ⟨E0, F, η, ω, g, h⟩ => by
  refine ⟨E0, F, η, ω, g, PoE.bnd (R := RE X.K) (o := fa η ω) h fun x ω1 v F1 H1 e1 s1 g1 rx q => ?_⟩
  obtain ⟨hk, q⟩ := iteO_ok q
  cases x with
  | int i =>
    cases rx
    exact ⟨i, rfl, q _ F1 H1 (Same.refl _) g1 (.int _)⟩
  | _ => cases hk
end
end Mp

/-! Mp: isinstance, calls of defs. -/
namespace Mp
open PySem PySem.Spec PyProof.Rows L2

/-! ### isinstance -/
def tyS (a n : String) : Bool := a == n || (a == "bool" && n == "int")
theorem kit_tab : ∀ a ∈ ["NoneType", "bool", "int", "str", "list", "tuple", "dict"], ∀ n ∈ tyNames, kitB a n = some (tyS a n) := by decide +kernel
theorem tyB_scal : ∀ n ∈ tyNames, (tyS "NoneType" n = false) ∧ (tyS "bool" n = (n == "bool" || n == "int")) ∧ (tyS "int" n = (n == "int")) ∧ (tyS "str" n = (n == "str")) ∧ (tyS "list" n = (n == "list")) ∧ (tyS "tuple" n = (n == "tuple")) ∧ (tyS "dict" n = (n == "dict")) := by decide +kernel
section
variable {X : Cx} {cA : Nat → Addr} {W : WX} {E0 : Ent}
variable {a b c d e : Expr} {es : List Expr} {fa fb fc fe : Eta → M D} {fes : Eta → M (List D)} {oa ob oe : Option Nat} {pos : Pos}
theorem tyX_of {K : PySem.W.Frag} {F H : Hp} {v : V} {d : D} (s : Same F H) (r : Rq K F H v d) : ∃ t, TyX K H v t ∧ ∀ n ∈ tyNames, PySem.W.kitOne K t (.type n) = some (tyB n d) := by
  have key : ∀ (a : String), a ∈ ["NoneType", "bool", "int", "str", "list", "tuple", "dict"] → ∀ n ∈ tyNames, PySem.W.kitOne K (.type a) (.type n) = some (tyS a n) := fun a ha n hn => kit_ty (kit_tab a ha n hn)
  rcases r with r | ⟨p, vs, xs, rfl, rfl, h, q⟩
  · cases r with
    | non => exact ⟨_, .base .non, fun n hn => by rw [key _ (by simp) n hn, (tyB_scal n hn).1]; rfl⟩
    | bl b => exact ⟨_, .base (.bl b), fun n hn => by rw [key _ (by simp) n hn, (tyB_scal n hn).2.1]; rfl⟩
    | int b => exact ⟨_, .base (.int b), fun n hn => by rw [key _ (by simp) n hn, (tyB_scal n hn).2.2.1]; rfl⟩
    | str b => exact ⟨_, .base (.str b), fun n hn => by rw [key _ (by simp) n hn, (tyB_scal n hn).2.2.2.1]; rfl⟩
    | lst h q => exact ⟨_, .base (.lst (s _ _ h)), fun n hn => by rw [key _ (by simp) n hn, (tyB_scal n hn).2.2.2.2.1]; rfl⟩
    | tup h q => exact ⟨_, .base (.tup (s _ _ h)), fun n hn => by rw [key _ (by simp) n hn, (tyB_scal n hn).2.2.2.2.2.1]; rfl⟩
    | scr h =>
      refine ⟨.type "list", ?_, fun n hn => by rw [key _ (by simp) n hn, (tyB_scal n hn).2.2.2.2.1]; rfl⟩
      rcases s.seq h with (h | ⟨o, h⟩) | ⟨o, its, n, h1, h2, _⟩
      · exact .base (.lst h)
      · exact .base (.frz h)
      · exact .kList h1 h2
    | dic h => exact ⟨_, .base (.dK (s _ _ h)), fun n hn => by rw [key _ (by simp) n hn, (tyB_scal n hn).2.2.2.2.2.2]; rfl⟩
    | ins h i => exact ⟨_, .base (.ins (s _ _ h) i.cl i.ha i.hn i.ht i.hm), fun n hn => by rw [i.no n hn]; rfl⟩
  · exact ⟨_, .base (.lst h), fun n hn => by rw [key _ (by simp) n hn, (tyB_scal n hn).2.2.2.2.1]; rfl⟩
theorem e_isi1 {n : String} {p : Pos} {t : Expr} (hg : Gl X "isinstance") (hm : X.mg "isinstance" = none) (ha : PE X a (tL (pm X cA) W oa fa)) (ht : PE X t (tC (.ty n))) (hn : tyNames.contains n = true)
    (he : starEach [a, t] X.env = (false, eval a X.env) :: starEach [t] X.env) (he2 : starEach [t] X.env = [(false, eval t X.env)]) (hpl : (backTo pos (starEach [t] X.env)).any (·.1) = false) :
    PE X (.Call (.Name "isinstance" p) [a, t] [] pos) (tE (pm X cA) W fun η ω => (opd oa fa η ω).bnd fun x ω => Out.of ω ((snap ω oa x).bind fun x => (isiD x [.b n]).map .bl)) :=
  (pe_callB (id := "isinstance") call_isi hg hm (by decide +kernel) (pa_cons ha (pa_cons ht pa_nil he2) he) (by decide) (by decide) he hpl).imp fun σ H Q ⟨E0, F, η, ω, g, h⟩ => by
  refine opd_run g h fun x0 ω1 v F1 H1 _ s1 g1 o1 q => ?_
  obtain ⟨z, e4, q⟩ := PoE.of q
  obtain ⟨x, e5, e6⟩ := Option.bind_eq_some_iff.mp e4
  obtain ⟨t, ty, kk⟩ := tyX_of g1.sub (o1.snap g1 e5)
  have hn' : n ∈ tyNames := by simpa using hn
  have : z = .bl (tyB n x) := by
    unfold isiD at e6
    rw [if_pos hn] at e6
    cases e7 : tyB n x with
    | true => rw [e7] at e6; exact (Option.some.inj e6).symm
    | false => rw [e7] at e6; exact (Option.some.inj e6).symm
  subst this
  exact ⟨v, .ty n, t, .type n, tyB n x, rfl, .ty n, ty, kk n hn', (finV_of g1 q).here (.bl _)⟩
/-- a tuple of built-in types, evaluated -/
def tTys (ns : List String) : TA := fun _ H Q => Q (ns.map V.ty) H
theorem a_tys_nil : PA X [] (tTys []) := pa_nil
theorem a_tys_cons {n : String} {ns : List String} {t : Expr} {ts : List Expr} (ht : PE X t (tC (.ty n))) (hs : PA X ts (tTys ns)) (he : starEach (t :: ts) X.env = (false, eval t X.env) :: starEach ts X.env) : PA X (t :: ts) (tTys (n :: ns)) := pa_cons ht hs he
theorem kitAny_of {K : PySem.W.Frag} {t : Value} {x : D} (kk : ∀ n ∈ tyNames, PySem.W.kitOne K t (.type n) = some (tyB n x)) : ∀ {ns : List String} {b : Bool}, isiD x (ns.map Ty.b) = some b → PySem.W.kitAny K t (ns.map Value.type) = some b
  | [], b, e => by cases e; rfl
  | n :: ns, b, e => by
    have e' : (if tyNames.contains n then (if tyB n x then some true else isiD x (ns.map Ty.b)) else none) = some b := e
    split at e'
    · rename_i hn
      have h1 := kk n (by simpa using hn)
      split at e'
      · rename_i hb
        cases e'
        rw [hb] at h1
        exact kitAny_cons (cs := ns.map Value.type) h1 (fun z => nomatch z) fun _ => rfl
      · rename_i hb
        have hb' : tyB n x = false := by simpa using hb
        rw [hb'] at h1
        exact kitAny_cons (cs := ns.map Value.type) h1 (fun _ => kitAny_of kk e') fun z => nomatch z
    · cases e'
theorem clsV_tys : ∀ ns : List String, Paired ClsV (ns.map V.ty) (ns.map Value.type)
  | [] => .nil
  | n :: ns => .cons (.ty n) (clsV_tys ns)
theorem e_isiT {ns : List String} {p p2 : Pos} {k : Nat} {ts : List Expr} (hg : Gl X "isinstance") (hm : X.mg "isinstance" = none) (ha : PE X a (tL (pm X cA) W oa fa)) (ht : PA X ts (tTys ns)) (hl : ns.length ≤ 100)
    (he : starEach [a, .Tuple ts k p2] X.env = (false, eval a X.env) :: starEach [.Tuple ts k p2] X.env) (he2 : starEach [.Tuple ts k p2] X.env = [(false, eval (.Tuple ts k p2) X.env)]) (hpl : (backTo pos (starEach [.Tuple ts k p2] X.env)).any (·.1) = false) :
    PE X (.Call (.Name "isinstance" p) [a, .Tuple ts k p2] [] pos) (tE (pm X cA) W fun η ω => (opd oa fa η ω).bnd fun x ω => Out.of ω ((snap ω oa x).bind fun x => (isiD x (ns.map Ty.b)).map .bl)) :=
  (pe_callB (id := "isinstance") call_isiT hg hm (by decide +kernel) (pa_cons ha (pa_cons (pe_tup ht) pa_nil he2) he) (by decide) (by decide) he hpl).imp fun σ H Q ⟨E0, F, η, ω, g, h⟩ => by
  refine opd_run g h fun x0 ω1 v F1 H1 _ s1 g1 o1 q => ?_
  obtain ⟨z, e4, q⟩ := PoE.of q
  obtain ⟨x, e5, e6⟩ := Option.bind_eq_some_iff.mp e4
  obtain ⟨b, e7, rfl⟩ := Option.map_eq_some_iff.mp e6
  refine ⟨by rw [List.length_map]; exact Nat.le_of_lt (small1000 (by omega)), fun p hp => ?_⟩
  obtain ⟨g2, s2, s3⟩ := g1.alloc (o := .tup (ns.map V.ty)) hp
  obtain ⟨t, ty, kk⟩ := tyX_of g2.sub ((o1.mono s2).snap g2 e5)
  exact ⟨v, p, ns.map V.ty, t, ns.map Value.type, b, rfl, upd_same, clsV_tys ns, ty, kitAny_of kk e7, q _ _ _ s2 g2 (.bl b)⟩

/-! ### calls of defs -/
/-- a result's value: of the frozen part, or a fresh list -/
def RetV (K : PySem.W.Frag) (fresh : Bool) (F' H' H : Hp) (v : V) (d : D) : Prop :=
  (Rp K F' v d ∧ (fresh = true → isLst d = none)) ∨ (fresh = true ∧ ∃ p vs xs, v = .ref p ∧ d = .lst xs ∧ H p = none ∧ F' p = none ∧ H' p = some (.lst vs) ∧ RpL K F' vs xs)
def PoF (P : Pm) (f : Fn) (F H : Hp) (a0 : Option Addr) (Q : VK) (E : XK) : FOut → Prop
  | .st => False
  | .ok d o' => ∀ v F' H', Ret P.K F H F' H' a0 o' → RetV P.K f.fresh F' H' H v d → Q v H'
  | .ex c p o' => ∀ F' H', Ret P.K F H F' H' a0 o' → Exw P.K P.cA c p F' H' E
/-- the arguments: data; of a def with a changed first one, this list too -/
def Argd (K : PySem.W.Frag) (own : Bool) (F H : Hp) (vs : List V) (ds o : List D) (a0 : Option Addr) : Prop :=
  (own = false ∧ RpL K F vs ds ∧ o = [] ∧ a0 = none) ∨ (own = true ∧ ∃ a vs' ws, vs = .ref a :: vs' ∧ RpL K F vs' ds ∧ H a = some (.lst ws) ∧ RpL K F ws o ∧ F a = none ∧ a0 = some a)
/-- the promise of the i-th def, k calls deep -/
def spF (P : Pm) (T : List Fn) (k i : Nat) : Sp := fun vs H Q E => ∃ (f : Fn) (F : Hp) (ds o : List D) (a0 : Option Addr), T[i]? = some f ∧ ds.length = nArgs f ∧ Same F H ∧ Argd P.K f.own F H vs ds o a0 ∧ PoF P f F H a0 Q E (Fs T k i ds o)
/-- nothing by position -/
def kwP {α : Type} (js : List Nat) : List α → List α → List α
  | [], ws => perm js ws
  | _ :: _, _ => []
/-- what is known of the i-th def -/
structure FnF (P : Program) (w : World) (K : PySem.W.Frag) (mg : Str → Option Value) (base : Heap) (cA : Nat → Addr) (T : List Fn) (KW : List (Nat × List Nat × List Str)) (k i : Nat) (f : Fn) : Prop where
  ex : ∃ (ad : Addr) (fd : FuncData), FnOk P w K mg base (L2.CX P w) k ad fd f.ps (spF ⟨K, cA⟩ T k i) ∧ mg f.name = some (.ref ad) ∧ PySem.W.keepIn K (.ref ad) = true ∧ Binds K fd f.ps [] ∧
    (∀ js ks, (i, js, ks) ∈ KW → KBinds K fd f.ps ks (kwP js) (kwP js)) ∧
    (∀ (s : Shared) (us : List Value), us.length = f.ps.length → BindsTo s fd ⟨us, []⟩ (f.ps.zip us)) ∧ ∃ oc od osl, K.lookup ad = some ⟨oc, od, .func fd, osl⟩
abbrev FnX (X : Cx) (cA : Nat → Addr) (T : List Fn) (KW : List (Nat × List Nat × List Str)) (k i : Nat) (f : Fn) : Prop := FnF X.prog X.w X.K X.mg X.base cA T KW k i f
theorem fs_len {T : List Fn} {k i : Nat} {f : Fn} {ds o : List D} (hT : T[i]? = some f) (h : Fs T k i ds o ≠ .st) : ds.length = nArgs f := by
  cases k with
  | zero => exact absurd rfl h
  | succ k =>
    unfold Fs at h
    rw [hT] at h
    dsimp only at h
    split at h
    · assumption
    · exact absurd rfl h
theorem retV_rp {K : PySem.W.Frag} {fr : Bool} {F F' H H' : Hp} {v : V} {d : D} {σ : Sg} {η : Eta} {ω ω' : Om} (g : Gd K E0 F H σ η ω) (g' : Gd K E0 F' H' σ η ω') (dom : ∀ j, (look ω' j).isSome = true → (look ω j).isSome = true) (r : RetV K fr F' H' H v d) :
    ∃ F'', Same F' F'' ∧ Gd K E0 F'' H' σ η ω' ∧ Rp K F'' v d := by
  rcases r with ⟨r, _⟩ | ⟨_, p, vs, xs, rfl, rfl, h1, h2, h3, h4⟩
  · exact ⟨F', Same.refl _, g', r⟩
  · obtain ⟨x1, _, _, x4⟩ := g.fresh h1
    obtain ⟨g2, s2⟩ := g'.adopt h3 h2 x1 fun i hi => x4 i (dom i hi)
    exact ⟨_, s2, g2, .lst upd_same (h4.mono s2)⟩
section
variable {T : List Fn} {KW : List (Nat × List Nat × List Str)} {k i : Nat} {f : Fn}
theorem fin_run {F1 H1 : Hp} {σ : Sg} {η : Eta} {ω : Om} {x : FOut} {Q : VK} {a0 : Option Addr} {up : List D → Om} (g : Gd (pm X cA).K E0 F1 H1 σ η ω) (gr : ∀ F' H' o', Ret X.K F1 H1 F' H' a0 o' → Gd X.K E0 F' H' σ η (up o')) (dom : ∀ o' j, (look (up o') j).isSome = true → (look ω j).isSome = true)
    (q : PoE (pm X cA) (RE X.K) W E0 F1 σ η Q (fin x (fun d o => .ok d (up o)) fun c p o => .ex c p (up o))) : PoF (pm X cA) f F1 H1 a0 Q (WE W σ) x := by
  cases x with
  | st => exact q
  | ok d o' =>
    intro v F' H' r rv
    obtain ⟨F2, s2, g2, r2⟩ := retV_rp (E0 := E0) g (gr F' H' o' r) (dom o') rv
    exact q v F2 H' (r.ext.trans s2) g2 r2
  | ex c p o' => exact fun F' H' r => q F' H' r.ext (gr F' H' o' r)
theorem e_call {x : Str} {p : Pos} (hT : T[i]? = some f) (ho : f.own = false) (hx : x = f.name) (G : FnX X cA T KW k i f) (hr : Room k X.A) (tk : Takes X W) (hg : Gl X x) (ha : PA X (e :: es) (tA (pm X cA) W fes)) (hdb : (x == ("__debug__" : Str)) = false)
    (he : starEach (e :: es) X.env = (false, eval e X.env) :: starEach es X.env) (hpl : (backTo pos (starEach es X.env)).any (·.1) = false) :
    PE X (.Call (.Name x p) (e :: es) [] pos) (tE (pm X cA) W fun η ω => (fes η ω).bnd fun xs ω => fin (Fs T k i xs []) (fun d _ => .ok d ω) fun c p _ => .ex c p ω) := by
  obtain ⟨ad, fd, F, hm, hk, hb, _⟩ := G.ex
  subst hx
  refine (pe_callS F hr hg hm hk hb (fun σ => passAt tk σ) ha hdb he hpl).imp fun σ H Q ⟨E0, Fz, η, ω, g, h⟩ => ?_
  refine ⟨E0, Fz, η, ω, g, PoE.bnd h fun xs ω1 vs F1 H1 e1 s1 g1 rx q => ?_⟩
  refine ⟨f, F1, xs, [], none, hT, ?_, g1.sub, .inl ⟨ho, rx, rfl, rfl⟩, fin_run (up := fun _ => ω1) g1 (fun F' H' o' r => g1.retN r) (fun _ _ z => z) q⟩
  refine fs_len (k := k) (o := []) hT fun z => ?_
  rw [z] at q; exact q
theorem e_callO {x y : Str} {j : Nat} {p p2 : Pos} (hT : T[i]? = some f) (ho : f.own = true) (hx : x = f.name) (G : FnX X cA T KW k i f) (hr : Room k X.A) (tk : Takes X W) (hg : Gl X x) (hN : X.N[j]? = some y) (hv : Vis X.env.scope y) (hd : (y == ("__debug__" : Str)) = false) (hcd : (y == ("__classdict__" : Str)) = false)
    (ha : PA X es (tA (pm X cA) W fes)) (hdb : (x == ("__debug__" : Str)) = false)
    (he : starEach (.Name y p2 :: es) X.env = (false, eval (.Name y p2) X.env) :: starEach es X.env) (hpl : (backTo pos (starEach es X.env)).any (·.1) = false) :
    PE X (.Call (.Name x p) (.Name y p2 :: es) [] pos) (tE (pm X cA) W fun η ω => if (look ω j).isSome then (fes η ω).bnd fun xs ω => match look ω j with
      | some o => fin (Fs T k i xs o) (fun d o' => .ok d (put ω j o')) fun c p o' => .ex c p (put ω j o')
      | none => .st
      else .st) := by
  obtain ⟨ad, fd, F, hm, hk, hb, _⟩ := G.ex
  subst hx
  refine (pe_callS F hr hg hm hk hb (fun σ => passAt tk σ) (pa_cons (pe_var hN hv hd hcd) ha he) hdb he hpl).imp fun σ H Q ⟨E0, Fz, η, ω, g, h⟩ => ?_
  obtain ⟨hs, h⟩ := iteO_ok h
  obtain ⟨a, _, _, _, e0, _⟩ := g.at hs
  refine ⟨.ref a, e0, E0, Fz, η, ω, g, PoE.bnd h fun xs ω1 vs F1 H1 e1 s1 g1 rx q => ?_⟩
  cases lk : look ω1 j with
  | none => rw [lk] at q; exact q.elim
  | some o =>
    rw [lk] at q
    dsimp only at q
    obtain ⟨a', ws, y1, y2, y3, y4⟩ := g1.own j o lk
    rw [e0] at y1
    cases y1
    have hs1 : (look ω1 j).isSome = true := by rw [lk]; rfl
    refine ⟨f, F1, xs, o, some a, hT, ?_, g1.sub, .inr ⟨ho, a, vs, ws, rfl, rx, y2, y3, y4, rfl⟩, fin_run (up := fun o' => put ω1 j o') g1 (fun F' H' o' r => g1.retO hs1 e0 r) (fun o' l z => ?_) q⟩
    · refine fs_len (k := k) (o := o) hT fun z => ?_
      rw [z] at q; exact q
    · rw [look_put] at z
      split at z
      · rename_i e; rw [e]; exact hs1
      · exact z
/-- the same by keywords alone -/
theorem _root_.L2.PK.imp {X : Cx} {e : List Keyword} {t t' : TA} (h : PK X e t) (i : ∀ σ H Q, t' σ H Q → t σ H Q) : PK X e t' := ⟨fun pos pins s σ H Q I q => h.run pos pins s σ H Q I (i σ H Q q)⟩
theorem k_nil : PK X [] (tA (pm X cA) W fun _ ω => .ok [] ω) := pk_nil.imp fun σ H Q ⟨E0, F, η, ω, g, h⟩ => h _ F H (Same.refl F) g .nil
theorem k_cons {nm : Option Str} {kpos : Pos} {kws : List Keyword} (he : PE X e (tE (pm X cA) W fe)) (hr : PK X kws (tA (pm X cA) W fes)) :
    PK X (⟨nm, e, kpos⟩ :: kws) (tA (pm X cA) W fun η ω => (opd none fe η ω).bnd fun x ω => (fes η ω).bnd fun xs ω => Out.of ω ((snap ω none x).bind fun x => some (x :: xs))) := (pk_cons he hr).imp fun σ H Q ⟨E0, F, η, ω, g, h⟩ => by
  refine ⟨E0, F, η, ω, g, PoE.bnd (R := RE X.K) (o := fe η ω) h fun x ω1 v F1 H1 e1 s1 g1 rx q => ?_⟩
  refine ⟨E0, F1, η, ω1, g1, PoE.bnd q fun xs ω2 vs F2 H2 e2 s2 g2 rxs q => ?_⟩
  exact q _ F2 H2 (Same.refl _) g2 (.cons (rx.mono s2) rxs)
theorem RpL.perm {K : PySem.W.Frag} {F : Hp} {vs : List V} {ds : List D} (r : RpL K F vs ds) : ∀ js : List Nat, RpL K F (Mp.perm js vs) (Mp.perm js ds)
  | [] => .nil
  | j :: js => by
    unfold Mp.perm
    rw [List.filterMap_cons, List.filterMap_cons]
    cases q : ds[j]? with
    | some d =>
      obtain ⟨v, e1, e2⟩ := r.get q
      rw [e1]
      exact .cons e2 (r.perm js)
    | none =>
      have : vs[j]? = none := by
        rw [List.getElem?_eq_none_iff] at q ⊢
        rw [r.length]; exact q
      rw [this]
      exact r.perm js
theorem vals_perm {vs : List V} {us : List Value} (r : Vals vs us) : ∀ js : List Nat, Vals (Mp.perm js vs) (Mp.perm js us)
  | [] => .nil
  | j :: js => by
    unfold Mp.perm
    rw [List.filterMap_cons, List.filterMap_cons]
    cases q : vs[j]? with
    | some d =>
      obtain ⟨v, e1, e2⟩ := r.get q
      rw [e1]
      exact .cons e2 (vals_perm r js)
    | none =>
      have : us[j]? = none := by
        rw [List.getElem?_eq_none_iff] at q ⊢
        rw [← r.length]; exact q
      rw [this]
      exact vals_perm r js
theorem e_callK {x : Str} {p : Pos} {js : List Nat} {ks : List Str} {kws : List Keyword} (hT : T[i]? = some f) (ho : f.own = false) (hx : x = f.name) (G : FnX X cA T KW k i f) (hm1 : (i, js, ks) ∈ KW) (hr : Room k X.A) (tk : Takes X W) (hg : Gl X x) (ha : PK X kws (tA (pm X cA) W fes)) (hdb : (x == ("__debug__" : Str)) = false)
    (hks : kws.map (fun z => match z with | ⟨n, _, _⟩ => n) = ks.map some) :
    PE X (.Call (.Name x p) [] kws pos) (tE (pm X cA) W fun η ω => (fes η ω).bnd fun xs ω => fin (Fs T k i (Mp.perm js xs) []) (fun d _ => .ok d ω) fun c p _ => .ex c p ω) := by
  obtain ⟨ad, fd, F, hm, hk, hb, hkb, _⟩ := G.ex
  subst hx
  have KB := hkb js ks hm1
  have e1 : ∀ (kws : List Keyword) (ks : List Str), kws.map (fun z => match z with | ⟨n, _, _⟩ => n) = ks.map some → ((backToKw pos (keywordEach kws X.env)).all (·.1.isSome) = true ∧ (backToKw pos (keywordEach kws X.env)).filterMap (·.1) = ks ∧ (backToKw pos (keywordEach kws X.env)).any (·.1.isNone) = false) := by
    intro kws
    induction kws with
    | nil =>
      intro ks h
      cases ks with
      | nil => exact ⟨rfl, rfl, rfl⟩
      | cons _ _ => cases h
    | cons z r ih =>
      intro ks h
      obtain ⟨n, v, q⟩ := z
      cases ks with
      | nil => cases h
      | cons y ks =>
        simp only [List.map_cons, List.cons.injEq] at h
        obtain ⟨h1, h2⟩ := h
        obtain ⟨i1, i2, i3⟩ := ih ks h2
        subst h1
        refine ⟨?_, ?_, ?_⟩
        · show (true && (backToKw pos (keywordEach r X.env)).all (·.1.isSome)) = true
          rw [i1]; rfl
        · show List.filterMap _ ((some y, _) :: backToKw pos (keywordEach r X.env)) = _
          rw [List.filterMap_cons]
          dsimp only
          rw [i2]
        · show (false || (backToKw pos (keywordEach r X.env)).any (·.1.isNone)) = false
          rw [i3]; rfl
  obtain ⟨hall, hkk, hany⟩ := e1 kws ks hks
  refine ⟨fun pins s σ H Q I hh => ?_⟩
  refine wpAny_Call_Name_kw (ld_glob I hg hm ?_ hdb)
  refine PySem.W.callWith_KW0 (h₀ := X.base) I.ok.mod.kin hk hall ?_ (by rw [hany]; rfl)
  have ht : tA (pm X cA) W fes σ H fun zs H2 => spF ⟨X.K, cA⟩ T k i (Mp.perm js zs) H2 Q (WE W σ) := by
    obtain ⟨E0, Fz, η, ω, g, h⟩ := hh
    refine ⟨E0, Fz, η, ω, g, PoE.bnd h fun xs ω1 vs F1 H1 e1 s1 g1 rx q => ?_⟩
    refine ⟨f, F1, Mp.perm js xs, [], none, hT, ?_, g1.sub, .inl ⟨ho, rx.perm js, rfl, rfl⟩, fin_run (up := fun _ => ω1) g1 (fun F' H' o' r => g1.retN r) (fun _ _ z => z) q⟩
    refine fs_len (k := k) (o := []) hT fun z => ?_
    rw [z] at q; exact q
  refine thn (ha.run pos pins s σ H _ I ht) fun ws s2 ⟨zs, H2, I2, rz, q2⟩ => ⟨I2.kIn, ?_⟩
  rw [hkk]
  have r2 := KB.rel (vs := []) (us := []) .nil rz
  have hl : (Mp.perm js ws).length = f.ps.length := by
    have z : (Mp.perm js zs).length = (Mp.perm js ws).length := r2.length
    rw [← z]
    exact F.len _ _ _ _ q2
  refine wpAny_call (codeAny_mono (F.run X.A X.stack s2 H2 ⟨[], ks.zip ws⟩ (Mp.perm js ws) (Mp.perm js zs) Q (WE W σ) hr I2.env0 (KB.to s2 [] ws I2.kIn hl) r2 q2) fun r s' hq => ?_)
  cases r with
  | error e => exact passAt tk σ pins H2 s2 e s' I2 hq
  | ok fl =>
    cases fl with
    | ret u => exact I2.after hq
    | next => exact False.elim hq
    | brk => exact False.elim hq
    | cont => exact False.elim hq
end
end
end Mp
/-! Mp: binding, what is walked, comprehensions. -/
namespace Mp
open PySem PySem.Spec PyProof.Rows L2

/-! ### binding -/
/-- behind a binding of the slots tg -/
structure Bnd (K : PySem.W.Frag) (F : Hp) (tg : List Nat) (σ σ2 : Sg) (η η2 : Eta) : Prop where
  lenS : σ2.length = σ.length
  lenE : η2.length = η.length
  offS : ∀ j, j ∉ tg → σ2[j]? = σ[j]?
  offE : ∀ j, j ∉ tg → η2[j]? = η[j]?
  val : ∀ (j : Nat) (d : D), j ∈ tg → η2[j]? = some (some d) → ∃ v, σ2[j]? = some (some v) ∧ Rp K F v d
section
variable {K : PySem.W.Frag} {E0 E1 : Ent} {F F' H H' : Hp} {σ σ2 : Sg} {η η2 : Eta} {ω ω' : Om} {tg : List Nat}
theorem Gd.bind (g : Gd K E0 F H σ η ω) (b : Bnd K F tg σ σ2 η η2) (no : ∀ j ∈ tg, look ω j = none) : Gd K E0 F H σ2 η2 ω := by
  have off : ∀ j, (look ω j).isSome = true → j ∉ tg := fun j h hj => by rw [no j hj] at h; cases h
  refine ⟨g.sub, by rw [b.lenS, b.lenE]; exact g.len, fun i d e => ?_, fun i xs e => ?_, fun i j a h1 h2 e1 e2 => ?_, g.ext0, g.frm0, g.new0, fun i a h e => ?_, fun a e => ?_⟩
  · by_cases hi : i ∈ tg
    · exact b.val i d hi e
    · rw [b.offE i hi] at e
      rw [b.offS i hi]
      exact g.val i d e
  · obtain ⟨a, vs, h1, h2⟩ := g.own i xs e
    exact ⟨a, vs, by rw [b.offS i (off i (by rw [e]; rfl))]; exact h1, h2⟩
  · rw [b.offS i (off i h1)] at e1
    rw [b.offS j (off j h2)] at e2
    exact g.dis i j a h1 h2 e1 e2
  · rw [b.offS i (off i h)] at e
    exact g.own0 i a h e
  · obtain ⟨x1, x2⟩ := g.par a e
    exact ⟨by rw [b.offS 0 (off 0 x2)]; exact x1, x2⟩
theorem Gd.unbind (g' : Gd K E0 F' H' σ2 η2 ω') (g : Gd K E0 F H σ η ω) (s : Same F F') (b : ∀ j, j ∉ tg → σ2[j]? = σ[j]?) (no : ∀ j ∈ tg, look ω' j = none) : Gd K E0 F' H' σ η ω' := by
  have off : ∀ j, (look ω' j).isSome = true → j ∉ tg := fun j h hj => by rw [no j hj] at h; cases h
  refine ⟨g'.sub, g.len, fun i d e => ?_, fun i xs e => ?_, fun i j a h1 h2 e1 e2 => ?_, g'.ext0, g'.frm0, g'.new0, fun i a h e => ?_, fun a e => ?_⟩
  · obtain ⟨v, h1, h2⟩ := g.val i d e
    exact ⟨v, h1, h2.mono s⟩
  · obtain ⟨a, vs, h1, h2⟩ := g'.own i xs e
    exact ⟨a, vs, by rw [← b i (off i (by rw [e]; rfl))]; exact h1, h2⟩
  · rw [← b i (off i h1)] at e1
    rw [← b j (off j h2)] at e2
    exact g'.dis i j a h1 h2 e1 e2
  · rw [← b i (off i h)] at e
    exact g'.own0 i a h e
  · obtain ⟨x1, x2⟩ := g'.par a e
    exact ⟨by rw [← b 0 (off 0 x2)]; exact x1, x2⟩
end
/-- the target of a loop: a name, or names of a tuple -/
def gTgs : List Nat → TGs
  | [] => gNil
  | i :: is => gCons (gName i) (gTgs is)
def gTg (K : PySem.W.Frag) (tg : List Nat) (one : Bool) : TG := match one with
  | true => gName (tg.headD 0)
  | false => gTup K tg.length (gTgs tg)
theorem bindMany_ok {K : PySem.W.Frag} {F H : Hp} : ∀ {is : List Nat} {ds : List D} {ws : List V} {η η' : Eta} {σ : Sg} {Q : Sg → Hp → Prop}, bindMany is ds η = some η' → RpL K F ws ds → η.length ≤ σ.length → (∀ σ2, Bnd K F is σ σ2 η η' → Q σ2 H) → gTgs is ws σ H Q
  | [], [], ws, η, η', σ, Q, e, r, _, q => by
    cases r
    cases e
    exact ⟨rfl, q σ ⟨rfl, rfl, fun _ _ => rfl, fun _ _ => rfl, fun j d hj => by cases hj⟩⟩
  | [], _ :: _, _, _, _, _, _, e, _, _, _ => by cases e
  | _ :: _, [], _, _, _, _, _, e, _, _, _ => by cases e
  | i :: is, d :: ds, ws, η, η', σ, Q, e, r, hl, q => by
    cases r with
    | cons r1 r2 =>
      rename_i v vr
      have e' : bindMany is ds (η.set i (some d)) = some η' := e
      refine ⟨v, vr, rfl, ?_⟩
      show gTgs is vr (σ.set i (some v)) H Q
      refine bindMany_ok e' r2 (by rw [List.length_set, List.length_set]; exact hl) fun σ2 b => q σ2 ⟨by rw [b.lenS, List.length_set], by rw [b.lenE, List.length_set], fun j hj => ?_, fun j hj => ?_, fun j dd hj ed => ?_⟩
      · rw [b.offS j (fun z => hj (List.mem_cons_of_mem _ z)), List.getElem?_set_ne (fun z => hj (by rw [z]; exact List.mem_cons_self))]
      · rw [b.offE j (fun z => hj (List.mem_cons_of_mem _ z)), List.getElem?_set_ne (fun z => hj (by rw [z]; exact List.mem_cons_self))]
      · by_cases hi : j ∈ is
        · exact b.val j dd hi ed
        · have ej : j = i := by
            rcases List.mem_cons.mp hj with z | z
            · exact z
            · exact absurd z hi
          subst ej
          rw [b.offE j hi] at ed
          rw [b.offS j hi]
          have hlt : j < η.length := by
            have := (List.getElem?_eq_some_iff.mp ed).1
            rwa [List.length_set] at this
          rw [List.getElem?_set_self hlt] at ed
          cases ed
          exact ⟨v, List.getElem?_set_self (by omega), r1⟩
theorem bindTg_ok {K : PySem.W.Frag} {F H : Hp} {tg : List Nat} {one : Bool} {d : D} {v : V} {η η' : Eta} {σ : Sg} {Q : Sg → Hp → Prop} (s : Same F H) (e : bindTg tg one d η = some η') (r : Rp K F v d) (hl : η.length ≤ σ.length) (q : ∀ σ2, Bnd K F tg σ σ2 η η' → Q σ2 H) : gTg K tg one v σ H Q := by
  cases one with
  | true =>
    unfold bindTg at e
    dsimp only at e
    split at e
    · rename_i i
      refine bindMany_ok (is := [i]) (ds := [d]) (ws := [v]) (η := η) (η' := η') e (.cons r .nil) hl q |> fun h => ?_
      obtain ⟨v', r', e1, h1⟩ := h
      cases e1
      obtain ⟨_, h2⟩ := h1
      exact h2
    · cases e
  | false =>
    unfold bindTg at e
    dsimp only at e
    split at e
    · cases r with
      | tup h1 h2 =>
        rename_i ds a vs
        have hlen : vs.length = tg.length := by
          rw [h2.length]
          have : ∀ {is : List Nat} {ds : List D} {η η' : Eta}, bindMany is ds η = some η' → ds.length = is.length := by
            intro is
            induction is with
            | nil => intro ds η η' e; cases ds with
              | nil => rfl
              | cons _ _ => cases e
            | cons i is ih => intro ds η η' e; cases ds with
              | nil => cases e
              | cons d ds => exact congrArg Nat.succ (ih (show bindMany is ds (η.set i (some d)) = some η' from e))
          exact this e
        exact ⟨_, _, rfl, SqT.of (s _ _ h1), hlen, bindMany_ok e h2 hl q⟩
    · cases e

/-! ### what is walked -/
structure Wk (K : PySem.W.Frag) (F : Hp) (J : It) (xs : List D) : Prop where
  stop : ∀ H, Same F H → J.stop xs.length H
  go : ∀ i H, Same F H → i < xs.length → J.go i H
  yld : ∀ i F2 H x H' d, Same F F2 → Same F2 H → J.yld i H x H' → xs[i]? = some d → ∃ F3, New F2 H F3 H' ∧ Rp K F3 x d
section
variable {K : PySem.W.Frag} {F : Hp} {a b : Addr} {vs ws : List V} {xs ys : List D}
theorem wk_list (h : F a = some (.lst vs)) (r : RpL K F vs xs) : Wk K F (Itl K a) xs where
  stop := fun H s => ⟨vs, SqL.of (s _ _ h), Nat.le_of_eq r.length⟩
  go := fun i H s hi => ⟨vs, vs[i]'(by rw [r.length]; exact hi), SqL.of (s _ _ h), List.getElem?_eq_getElem _⟩
  yld := fun i F2 H x H' d s1 s2 y e => by
    obtain ⟨rfl, y⟩ := y
    have h2 := y vs (SqL.of (s2 _ _ (s1 _ _ h)))
    obtain ⟨v, h3, h4⟩ := r.get e
    rw [h2] at h3
    cases h3
    exact ⟨F2, .refl, h4.mono s1⟩
theorem wk_tup (h : F a = some (.tup vs)) (r : RpL K F vs xs) : Wk K F (Itt K a) xs where
  stop := fun H s => ⟨vs, SqT.of (s _ _ h), Nat.le_of_eq r.length⟩
  go := fun i H s hi => ⟨vs, vs[i]'(by rw [r.length]; exact hi), SqT.of (s _ _ h), List.getElem?_eq_getElem _⟩
  yld := fun i F2 H x H' d s1 s2 y e => by
    obtain ⟨rfl, y⟩ := y
    have h2 := y vs (SqT.of (s2 _ _ (s1 _ _ h)))
    obtain ⟨v, h3, h4⟩ := r.get e
    rw [h2] at h3
    cases h3
    exact ⟨F2, .refl, h4.mono s1⟩
theorem wk_scr {ns : List Int} (h : SqL K F a (ns.map V.int)) : Wk K F (Itl K a) (ns.map D.int) where
  stop := fun H s => ⟨_, s.seq h, by rw [List.length_map, List.length_map]; exact Nat.le_refl _⟩
  go := fun i H s hi => ⟨_, (ns.map V.int)[i]'(by simpa using hi), s.seq h, List.getElem?_eq_getElem _⟩
  yld := fun i F2 H x H' d s1 s2 y e => by
    obtain ⟨rfl, y⟩ := y
    have h2 := y _ (s2.seq (s1.seq h))
    rw [List.getElem?_map] at h2 e
    cases e3 : ns[i]? with
    | none => rw [e3] at e; cases e
    | some n =>
      rw [e3] at e h2
      cases e
      cases h2
      exact ⟨F2, .refl, .int n⟩
theorem wk_str {z : Str} : Wk K F (Its z) (z.cps.toList.map fun c => D.str ⟨#[c]⟩) where
  stop := fun H s => by simp [Its]
  go := fun i H s hi => by simpa [Its] using hi
  yld := fun i F2 H x H' d s1 s2 y e => by
    obtain ⟨rfl, c, h1, rfl⟩ := y
    rw [List.getElem?_map, Array.getElem?_toList, h1] at e
    cases e
    exact ⟨F2, .refl, .str _⟩
theorem iota_get {lo : Int} {n i : Nat} {d : D} (e : (iotaD lo n)[i]? = some d) : i < n ∧ d = .int (lo + i) := by
  unfold iotaD at e
  rw [List.getElem?_map] at e
  cases q : (List.range n)[i]? with
  | none => rw [q] at e; cases e
  | some j =>
    rw [q] at e
    obtain ⟨h1, h2⟩ := List.getElem?_eq_some_iff.mp q
    rw [List.getElem_range] at h2
    subst h2
    cases e
    exact ⟨by simpa using h1, rfl⟩
theorem iota_length (lo : Int) (n : Nat) : (iotaD lo n).length = n := by unfold iotaD; rw [List.length_map, List.length_range]
theorem wk_rng {lo : Int} {n : Nat} : Wk K F (Itr lo n) (iotaD lo n) where
  stop := fun H s => Nat.le_of_eq (iota_length lo n).symm
  go := fun i H s hi => by rw [iota_length] at hi; exact hi
  yld := fun i F2 H x H' d s1 s2 y e => by
    obtain ⟨rfl, rfl⟩ := y
    obtain ⟨_, rfl⟩ := iota_get e
    exact ⟨F2, .refl, .int _⟩
theorem wk_rngC {lo : Int} {n : Nat} : Wk K F (Itc lo (-1) n) ((List.range n).map fun (k : Nat) => .int (lo - (k : Int))) where
  stop := fun H s => by show n ≤ _; rw [List.length_map, List.length_range]; exact Nat.le_refl _
  go := fun i H s hi => by rw [List.length_map, List.length_range] at hi; exact hi
  yld := fun i F2 H x H' d s1 s2 y e => by
    obtain ⟨rfl, rfl⟩ := y
    rw [List.getElem?_map] at e
    cases q : (List.range n)[i]? with
    | none => rw [q] at e; cases e
    | some j =>
      rw [q] at e
      obtain ⟨h1, h2⟩ := List.getElem?_eq_some_iff.mp q
      rw [List.getElem_range] at h2
      subst h2
      cases e
      refine ⟨F2, .refl, ?_⟩
      have : lo + (i : Int) * -1 = lo - (i : Int) := by omega
      rw [this]
      exact .int _
theorem enumFrom_get : ∀ {xs : List D} {k i : Nat} {d : D}, (enumFrom k xs)[i]? = some d → ∃ x, xs[i]? = some x ∧ d = .tup [.int ((k + i : Nat) : Int), x]
  | [], k, i, d, e => by simp [enumFrom] at e
  | x :: r, k, 0, d, e => by
    have e' : some (D.tup [.int (k : Int), x]) = some d := by simpa [enumFrom] using e
    cases e'
    exact ⟨x, rfl, rfl⟩
  | x :: r, k, i + 1, d, e => by
    obtain ⟨y, h1, h2⟩ := enumFrom_get (xs := r) (k := k + 1) (i := i) (d := d) (by simpa [enumFrom] using e)
    refine ⟨y, by simpa using h1, ?_⟩
    rw [h2, show k + 1 + i = k + (i + 1) by omega]
theorem enumFrom_length : ∀ (xs : List D) (k : Nat), (enumFrom k xs).length = xs.length
  | [], _ => rfl
  | _ :: r, k => congrArg Nat.succ (enumFrom_length r (k + 1))
theorem wk_enum (h : F a = some (.lst vs)) (r : RpL K F vs xs) : Wk K F (Ite K a) (enumFrom 0 xs) where
  stop := fun H s => ⟨vs, SqL.of (s _ _ h), by rw [enumFrom_length]; exact Nat.le_of_eq r.length⟩
  go := fun i H s hi => by
    rw [enumFrom_length] at hi
    exact ⟨vs, vs[i]'(by rw [r.length]; exact hi), SqL.of (s _ _ h), List.getElem?_eq_getElem _⟩
  yld := fun i F2 H x H' d s1 s2 y e => by
    obtain ⟨p, z, rfl, hp, rfl, y⟩ := y
    obtain ⟨x', e1, rfl⟩ := enumFrom_get e
    have h2 := y vs (SqL.of (s2 _ _ (s1 _ _ h)))
    obtain ⟨v, h3, h4⟩ := r.get e1
    rw [h2] at h3
    cases h3
    have sF : Same F2 (upd F2 p (.tup [.int (i : Nat), z])) := fun b u e => by rw [upd_ne (ne_of_none e (s2.free hp))]; exact e
    refine ⟨_, .one hp, .tup upd_same (.cons ?_ (.cons (h4.mono (s1.trans sF)) .nil))⟩
    rw [Nat.zero_add]
    exact .int _
theorem zipD_get : ∀ {xs ys : List D} {i : Nat} {d : D}, (zipD xs ys)[i]? = some d → ∃ x y, xs[i]? = some x ∧ ys[i]? = some y ∧ d = .tup [x, y]
  | [], _, i, d, e => by simp [zipD] at e
  | _ :: _, [], i, d, e => by simp [zipD] at e
  | x :: xs, y :: ys, 0, d, e => by
    have e' : some (D.tup [x, y]) = some d := by simpa [zipD] using e
    cases e'
    exact ⟨x, y, rfl, rfl, rfl⟩
  | x :: xs, y :: ys, i + 1, d, e => by
    obtain ⟨x', y', h1, h2, h3⟩ := zipD_get (xs := xs) (ys := ys) (i := i) (d := d) (by simpa [zipD] using e)
    exact ⟨x', y', by simpa using h1, by simpa using h2, h3⟩
theorem zipD_length : ∀ (xs ys : List D), (zipD xs ys).length = min xs.length ys.length
  | [], _ => by simp [zipD]
  | _ :: _, [] => by simp [zipD]
  | x :: xs, y :: ys => by
    show (zipD xs ys).length + 1 = min (xs.length + 1) (ys.length + 1)
    rw [zipD_length xs ys]
    omega
theorem wk_zip (h : F a = some (.lst vs)) (r : RpL K F vs xs) (h' : F b = some (.lst ws)) (r' : RpL K F ws ys) : Wk K F (Itz K a b) (zipD xs ys) where
  stop := fun H s => ⟨vs, ws, SqL.of (s _ _ h), SqL.of (s _ _ h'), by rw [zipD_length, r.length, r'.length]; omega⟩
  go := fun i H s hi => by
    rw [zipD_length] at hi
    exact ⟨vs, ws, vs[i]'(by rw [r.length]; omega), ws[i]'(by rw [r'.length]; omega), SqL.of (s _ _ h), SqL.of (s _ _ h'), List.getElem?_eq_getElem _, List.getElem?_eq_getElem _⟩
  yld := fun i F2 H x H' d s1 s2 y e => by
    obtain ⟨p, z, z', rfl, hp, rfl, y, y'⟩ := y
    obtain ⟨x1, x2, e1, e2, rfl⟩ := zipD_get e
    have h2 := y vs (SqL.of (s2 _ _ (s1 _ _ h)))
    have h2' := y' ws (SqL.of (s2 _ _ (s1 _ _ h')))
    obtain ⟨v, h3, h4⟩ := r.get e1
    obtain ⟨v', h3', h4'⟩ := r'.get e2
    rw [h2] at h3; cases h3
    rw [h2'] at h3'; cases h3'
    have sF : Same F2 (upd F2 p (.tup [z, z'])) := fun b u e => by rw [upd_ne (ne_of_none e (s2.free hp))]; exact e
    exact ⟨_, .one hp, .tup upd_same (.cons (h4.mono (s1.trans sF)) (.cons (h4'.mono (s1.trans sF)) .nil))⟩
end
def PoI (P : Pm) (W : WX) (E0 : Ent) (F : Hp) (σ : Sg) (η : Eta) (R : It → Hp → Prop) : Out D → Prop
  | .st => False
  | .ok x ω' => ∃ xs, itemsD x = some xs ∧ ∀ F' H' J, Same F F' → Gd P.K E0 F' H' σ η ω' → Wk P.K F' J xs → R J H'
  | .ex c p ω' => ∀ F' H', Same F F' → Gd P.K E0 F' H' σ η ω' → Exw P.K P.cA c p F' H' fun cl dd h => W cl dd σ h
def tI (P : Pm) (W : WX) (f : Eta → M D) : TI := fun σ H R => ∃ E0 F η ω, Gd P.K E0 F H σ η ω ∧ PoI P W E0 F σ η R (f η ω)
section
variable {X : Cx} {cA : Nat → Addr} {W : WX} {E0 : Ent} {tg : Expr}
variable {a b c d e : Expr} {es : List Expr} {fa fb fc fe : Eta → M D} {fes : Eta → M (List D)} {oa ob oe : Option Nat} {pos p : Pos}
/-- a list, a tuple, a text -/
def iSeq (K : PySem.W.Frag) (tl : TE) : TI := fun σ H R => tl σ H fun x H1 => (∃ a, x = .ref a ∧ (((∃ xs, SqL K H1 a xs) ∧ R (Itl K a) H1) ∨ ((∃ xs, SqT K H1 a xs) ∧ R (Itt K a) H1))) ∨ ∃ z, x = .str z ∧ R (Its z) H1
theorem pi_seq {l : Expr} {tl : TE} (hl : PE X l tl) : PI X tg l (iSeq X.K tl) := by
  refine ⟨fun pins s σ H R I h => ?_⟩
  refine thn (hl.run pins s σ H _ I h) fun v s1 ⟨x, H1, I1, r1, q1⟩ => ?_
  rcases q1 with ⟨a, e, q⟩ | ⟨x, ex, q⟩
  rotate_left
  · subst ex
    obtain ⟨t, rfl⟩ := r1
    cases ha : x.cps.all (· < 128)
    · exact wpAny_pyIter_wide ha (pi_one (tk := s1.toks) I1 _ (turn_str _ x t "str_iterator" (.inr rfl)) ⟨_, Heap.get?_push_size _ rfl, rfl, rfl⟩ q)
    · exact wpAny_pyIter_ascii ha (pi_one (tk := s1.toks) I1 _ (turn_str _ x t "str_ascii_iterator" (.inl rfl)) ⟨_, Heap.get?_push_size _ rfl, rfl, rfl⟩ q)
  subst e
  cases r1
  rcases q with ⟨⟨xs, hq⟩, q⟩ | ⟨⟨xs, hq⟩, q⟩
  · obtain ⟨its, rv, p, hz⟩ := I1.list hq
    refine wpAny_pyIter_list p.isList ?_
    refine ⟨s1.heap.objs.size, [s1.heap.objs.size], _, _, H1, rfl, I1.kept (t' := s1.toks) fun b o e => Heap.get?_push_of_some _ e, turn_list a _, ⟨_, Heap.get?_push_size _ rfl, rfl, rfl⟩, fun b hb => ?_, q⟩
    have e : b = s1.heap.objs.size := by simpa using hb
    subst e
    exact I1.fpOk (Nat.le_refl _) (I1.hok.fresh (Nat.le_refl _))
  · obtain ⟨its, rv, p, hz⟩ := I1.tuple hq
    refine wpAny_pyIter_tuple (show s1.heap.IsTuple a its.toArray from p) ?_
    refine ⟨s1.heap.objs.size, [s1.heap.objs.size], _, _, H1, rfl, I1.kept (t' := s1.toks) fun b o e => Heap.get?_push_of_some _ e, turn_tuple a _, ⟨_, Heap.get?_push_size _ rfl, rfl, rfl⟩, fun b hb => ?_, q⟩
    have e : b = s1.heap.objs.size := by simpa using hb
    subst e
    exact I1.fpOk (Nat.le_refl _) (I1.hok.fresh (Nat.le_refl _))
theorem PoI.bnd {β α : Type} {R : Om → Hp → Hp → β → α → Prop} {Q : It → Hp → Prop} {F : Hp} {σ : Sg} {η : Eta} {o : Out α} {f : α → Om → Out D} {Q1 : β → Hp → Prop} (h : PoI (pm X cA) W E0 F σ η Q (o.bnd f))
    (k : ∀ d ω' v F' H', o = .ok d ω' → Same F F' → Gd X.K E0 F' H' σ η ω' → R ω' F' H' v d → PoI (pm X cA) W E0 F' σ η Q (f d ω') → Q1 v H') : PoE (pm X cA) R W E0 F σ η Q1 o := by
  cases o with
  | st => exact h
  | ok d ω' => 
    intro v F' H' s g r
    refine k d ω' v F' H' rfl s g r ?_
    have h' : PoI (pm X cA) W E0 F σ η Q (f d ω') := h
    cases e : f d ω' with
    | st => rw [e] at h'; exact h'
    | ok x ω2 =>
      rw [e] at h'
      obtain ⟨xs, h1, h2⟩ := h'
      exact ⟨xs, h1, fun F2 H2 J s2 => h2 F2 H2 J (s.trans s2)⟩
    | ex c p ω2 =>
      rw [e] at h'
      exact fun F2 H2 s2 => h' F2 H2 (s.trans s2)
  | ex c p ω' => exact h
theorem i_seq (ha : PE X a (tE (pm X cA) W fa)) : PI X tg a (tI (pm X cA) W fa) := (pi_seq ha).imp fun σ H R ⟨E0, F, η, ω, g, h⟩ => by
  refine ⟨E0, F, η, ω, g, ?_⟩
  cases e : fa η ω with
  | st => rw [e] at h; exact h
  | ex c p ω' => rw [e] at h; exact h
  | ok x ω' =>
    rw [e] at h
    obtain ⟨xs, h1, h2⟩ := h
    intro v F' H' s g' r
    cases r with
    | lst h3 h4 =>
      have h1' : some _ = some xs := h1
      cases h1'
      exact .inl ⟨_, rfl, .inl ⟨⟨_, SqL.of (g'.sub _ _ h3)⟩, h2 F' H' _ s g' (wk_list h3 h4)⟩⟩
    | tup h3 h4 =>
      have h1' : some _ = some xs := h1
      cases h1'
      exact .inl ⟨_, rfl, .inr ⟨⟨_, SqT.of (g'.sub _ _ h3)⟩, h2 F' H' _ s g' (wk_tup h3 h4)⟩⟩
    | scr h3 =>
      have h1' : some _ = some xs := h1
      cases h1'
      exact .inl ⟨_, rfl, .inl ⟨⟨_, g'.sub.seq h3⟩, h2 F' H' _ s g' (wk_scr h3)⟩⟩
    | str z =>
      have h1' : some _ = some xs := h1
      cases h1'
      exact .inr ⟨_, rfl, h2 F' H' _ s g' wk_str⟩
    | _ => cases h1
theorem onI_okI {x : D} {f : Int → Out D} {Q : It → Hp → Prop} {F : Hp} {σ : Sg} {η : Eta} (h : PoI (pm X cA) W E0 F σ η Q (onI x f)) : ∃ i, x = .int i ∧ PoI (pm X cA) W E0 F σ η Q (f i) := by
  cases x with
  | int i => exact ⟨i, rfl, h⟩
  | _ => exact h.elim
theorem onL_okI {x : D} {f : List D → Out D} {Q : It → Hp → Prop} {F : Hp} {σ : Sg} {η : Eta} (h : PoI (pm X cA) W E0 F σ η Q (onL x f)) : ∃ i, x = .lst i ∧ PoI (pm X cA) W E0 F σ η Q (f i) := by
  cases x with
  | lst i => exact ⟨i, rfl, h⟩
  | _ => exact h.elim
theorem ite_okI {cc : Prop} [Decidable cc] {f : Out D} {Q : It → Hp → Prop} {F : Hp} {σ : Sg} {η : Eta} (h : PoI (pm X cA) W E0 F σ η Q (if cc then f else .st)) : cc ∧ PoI (pm X cA) W E0 F σ η Q f := by
  by_cases hc : cc
  · rw [if_pos hc] at h; exact ⟨hc, h⟩
  · rw [if_neg hc] at h; exact h.elim
theorem i_rng1 (hg : Gl X "range") (hm : X.mg "range" = none) (ha : PE X a (tE (pm X cA) W fa)) (hs : starEach [a] X.env = [(false, eval a X.env)]) :
    PI X tg (.Call (.Name "range" p) [a] [] pos) (tI (pm X cA) W fun η ω => (fa η ω).bnd fun x ω => onI x fun j => if -RNG < j ∧ j < RNG then .ok (.lst (iotaD 0 j.toNat)) ω else .st) := (pi_range1 hg hm (pa_cons ha pa_nil hs) hs).imp fun σ H R ⟨E0, F, η, ω, g, h⟩ => by
  refine ⟨E0, F, η, ω, g, PoI.bnd h fun x ω1 v F1 H1 e1 s1 g1 rx q => ?_⟩
  obtain ⟨j, rfl, qa⟩ := onI_okI q
  obtain ⟨hj, xs, h1, h2⟩ := ite_okI qa
  cases rx
  cases h1
  unfold RNG at hj
  exact ⟨j, rfl, by omega, by omega, h2 F1 H1 _ (Same.refl _) g1 wk_rng⟩
theorem i_rng2 (hg : Gl X "range") (hm : X.mg "range" = none) (ha : PE X a (tE (pm X cA) W fa)) (hb : PE X b (tE (pm X cA) W fb)) (hs : starEach [a, b] X.env = [(false, eval a X.env), (false, eval b X.env)]) (hs2 : starEach [b] X.env = [(false, eval b X.env)]) :
    PI X tg (.Call (.Name "range" p) [a, b] [] pos) (tI (pm X cA) W fun η ω => (fa η ω).bnd fun x ω => (fb η ω).bnd fun y ω => onI x fun i => onI y fun j => if -RNG < i ∧ i < RNG ∧ -RNG < j ∧ j < RNG then .ok (.lst (iotaD i (j - i).toNat)) ω else .st) :=
  (pi_range2 hg hm (pa_cons ha (pa_cons hb pa_nil hs2) (by rw [hs, hs2])) hs hs2).imp fun σ H R ⟨E0, F, η, ω, g, h⟩ => by
  refine ⟨E0, F, η, ω, g, PoI.bnd h fun x ω1 v F1 H1 e1 s1 g1 rx q => ?_⟩
  refine ⟨E0, F1, η, ω1, g1, PoI.bnd q fun y ω2 v2 F2 H2 e2 s2 g2 ry q => ?_⟩
  obtain ⟨i, rfl, qa⟩ := onI_okI q
  obtain ⟨j, rfl, qb⟩ := onI_okI qa
  obtain ⟨hj, xs, h1, h2⟩ := ite_okI qb
  cases rx
  cases ry
  cases h1
  unfold RNG at hj
  exact ⟨i, j, rfl, by omega, h2 F2 H2 _ (Same.refl _) g2 wk_rng⟩
theorem i_rng3 (hg : Gl X "range") (hm : X.mg "range" = none) (ha : PE X a (tE (pm X cA) W fa)) (hb : PE X b (tE (pm X cA) W fb)) (hc : PE X c (tE (pm X cA) W fc)) (hs : starEach [a, b, c] X.env = (false, eval a X.env) :: starEach [b, c] X.env) (hs2 : starEach [b, c] X.env = (false, eval b X.env) :: starEach [c] X.env) (hs3 : starEach [c] X.env = (false, eval c X.env) :: starEach [] X.env)
    (hpl : (backTo pos (starEach [b, c] X.env)).any (·.1) = false) :
    PI X tg (.Call (.Name "range" p) [a, b, c] [] pos) (tI (pm X cA) W fun η ω => (fa η ω).bnd fun x ω => (fb η ω).bnd fun y ω => (fc η ω).bnd fun z ω => onI x fun i => onI y fun j => onI z fun k =>
      if -RNG < i ∧ i < RNG ∧ -RNG < j ∧ j < RNG ∧ k = -1 then .ok (.lst ((List.range (i - j).toNat).map fun (n : Nat) => .int (i - (n : Int)))) ω else .st) :=
  (pi_range3 hg hm (pa_cons ha (pa_cons hb (pa_cons hc pa_nil hs3) hs2) hs) hs hpl).imp fun σ H R ⟨E0, F, η, ω, g, h⟩ => by
  refine ⟨E0, F, η, ω, g, PoI.bnd h fun x ω1 v F1 H1 e1 s1 g1 rx q => ?_⟩
  refine ⟨E0, F1, η, ω1, g1, PoI.bnd q fun y ω2 v2 F2 H2 e2 s2 g2 ry q => ?_⟩
  refine ⟨E0, F2, η, ω2, g2, PoI.bnd q fun y ω3 v3 F3 H3 e3 s3 g3 rz q => ?_⟩
  obtain ⟨i, rfl, qa⟩ := onI_okI q
  obtain ⟨j, rfl, qb⟩ := onI_okI qa
  obtain ⟨k, rfl, qc⟩ := onI_okI qb
  obtain ⟨hj, xs, h1, h2⟩ := ite_okI qc
  cases rx
  cases ry
  cases rz
  cases h1
  unfold RNG at hj
  obtain ⟨h3, h4, h5, h6, rfl⟩ := hj
  exact ⟨i, j, -1, (i - j).toNat, rfl, RgC.neg (by omega) (by omega) (by omega) (by omega), h2 F3 H3 _ (Same.refl _) g3 wk_rngC⟩
theorem i_enum {elts : List Expr} {kk : Nat} {tpos : Pos} (hg : Gl X "enumerate") (hm : X.mg "enumerate" = none) (ha : PE X a (tE (pm X cA) W fa)) (hs : starEach [a] X.env = [(false, eval a X.env)]) :
    PI X (.Tuple elts kk tpos) (.Call (.Name "enumerate" p) [a] [] pos) (tI (pm X cA) W fun η ω => (fa η ω).bnd fun x ω => onL x fun xs => .ok (.lst (enumFrom 0 xs)) ω) := (pi_enum hg hm (pa_cons ha pa_nil hs) hs).imp fun σ H R ⟨E0, F, η, ω, g, h⟩ => by
  refine ⟨E0, F, η, ω, g, PoI.bnd h fun x ω1 v F1 H1 e1 s1 g1 rx q => ?_⟩
  obtain ⟨xs, rfl, qa⟩ := onL_okI q
  obtain ⟨ys, h1, h2⟩ := qa
  cases h1
  cases rx with
  | lst h3 h4 => exact ⟨_, _, rfl, SqL.of (g1.sub _ _ h3), h2 F1 H1 _ (Same.refl _) g1 (wk_enum h3 h4)⟩
theorem i_zip {elts : List Expr} {kk : Nat} {tpos : Pos} (hg : Gl X "zip") (hm : X.mg "zip" = none) (ha : PE X a (tE (pm X cA) W fa)) (hb : PE X b (tE (pm X cA) W fb)) (hs : starEach [a, b] X.env = (false, eval a X.env) :: starEach [b] X.env) (hs2 : starEach [b] X.env = (false, eval b X.env) :: starEach [] X.env) (hpl : (backTo pos (starEach [b] X.env)).any (·.1) = false) :
    PI X (.Tuple elts kk tpos) (.Call (.Name "zip" p) [a, b] [] pos) (tI (pm X cA) W fun η ω => (opd2 none none fa fb η ω).bnd fun p ω => onL p.1 fun xs => onL p.2 fun ys => .ok (.lst (zipD xs ys)) ω) :=
  (pi_zip hg hm (pa_cons ha (pa_cons hb pa_nil hs2) hs) hs hpl).imp fun σ H R ⟨E0, F, η, ω, g, h⟩ => by
  have h' : PoI (pm X cA) W E0 F σ η R ((fa η ω).bnd fun x ω => (fb η ω).bnd fun y ω => onL x fun xs => onL y fun ys => .ok (.lst (zipD xs ys)) ω) := by
    unfold opd2 at h
    dsimp only at h
    rw [Out.bnd_assoc] at h
    have : (fun x ω => (((opd none fb η ω).bnd fun y ω => Out.of ω ((snap ω none x).bind fun x => (snap ω none y).bind fun y => some (x, y)))).bnd fun p ω => onL p.1 fun xs => onL p.2 fun ys => .ok (.lst (zipD xs ys)) ω) = fun x ω => (fb η ω).bnd fun y ω => onL x fun xs => onL y fun ys => .ok (.lst (zipD xs ys)) ω := by
      funext x ω
      rw [Out.bnd_assoc]
      rfl
    rw [this] at h
    exact h
  refine ⟨E0, F, η, ω, g, PoI.bnd h' fun x ω1 v F1 H1 e1 s1 g1 rx q => ?_⟩
  refine ⟨E0, F1, η, ω1, g1, PoI.bnd q fun y ω2 v2 F2 H2 e2 s2 g2 ry q => ?_⟩
  obtain ⟨xs, rfl, qa⟩ := onL_okI q
  obtain ⟨ys, rfl, qb⟩ := onL_okI qa
  obtain ⟨zs, h1, h2⟩ := qb
  cases h1
  have rx := Rp.mono s2 rx
  cases rx with
  | lst h3 h4 =>
    cases ry with
    | lst h5 h6 => exact ⟨_, _, _, _, rfl, SqL.of (g2.sub _ _ h3), SqL.of (g2.sub _ _ h5), h2 F2 H2 _ (Same.refl _) g2 (wk_zip h3 h4 h5 h6)⟩
end
end Mp

/-! Mp: comprehensions. -/
namespace Mp
open PySem PySem.Spec PyProof.Rows L2

abbrev W0 : WX := fun _ _ _ _ => False
section
variable {K : PySem.W.Frag} {E0 : Ent} {F F' H H' : Hp} {σ : Sg} {η : Eta} {ω : Om}
/-- with one more object that is to stay -/
def Ent.with (E0 : Ent) (p : Addr) (o : HO) : Ent := ⟨E0.F, fun b => if b = p then some o else E0.H b, E0.a⟩
theorem Gd.guard (g : Gd K E0 F H σ η ω) {p : Addr} {o : HO} (hp : H p = some o) (fp : F p = none) (no : ∀ i, (look ω i).isSome = true → σ[i]? ≠ some (some (.ref p))) : Gd K (E0.with p o) F H σ η ω := by
  refine ⟨g.sub, g.len, g.val, g.own, g.dis, g.ext0, fun b u e n => ?_, fun b u e n => ?_, fun i a h e => ?_, g.par⟩
  · unfold Ent.with at e
    dsimp only at e
    split at e
    · rename_i hb; cases e; rw [hb]; exact hp
    · exact g.frm0 b u e n
  · show (if b = p then some o else E0.H b) = none
    rw [if_neg (ne_of_none e fp)]
    exact g.new0 b u e n
  · rcases g.own0 i a h e with z | z
    · exact .inl z
    · refine .inr ?_
      show (if a = p then some o else E0.H a) = none
      rw [if_neg (fun q => no i h (by rw [← q]; exact e))]
      exact z
theorem Gd.unguard {p : Addr} {o : HO} (g : Gd K (E0.with p o) F H σ η ω) (hp : E0.H p = none) (ha : E0.a ≠ some p) :
    Gd K E0 F H σ η ω ∧ H p = some o ∧ F p = none ∨ E0.F p ≠ none := by
  by_cases q : E0.F p = none
  · refine .inl ⟨⟨g.sub, g.len, g.val, g.own, g.dis, g.ext0, fun b u e n => ?_, fun b u e n => ?_, fun i a h e => ?_, g.par⟩, ?_, ?_⟩
    · exact g.frm0 b u (by show (if b = p then some o else E0.H b) = some u; rw [if_neg (ne_of_none e hp)]; exact e) n
    · have := g.new0 b u e n
      have z : (if b = p then some o else E0.H b) = none := this
      split at z
      · cases z
      · exact z
    · rcases g.own0 i a h e with z | z
      · exact .inl z
      · have z' : (if a = p then some o else E0.H a) = none := z
        split at z'
        · cases z'
        · exact .inr z'
    · exact g.frm0 p o (by show (if p = p then some o else E0.H p) = some o; rw [if_pos rfl]) ha
    · cases z : F p with
      | none => rfl
      | some u =>
        have := g.new0 p u z q
        have z' : (if p = p then some o else E0.H p) = none := this
        rw [if_pos rfl] at z'
        cases z'
  · exact .inr q
theorem Gd.guard_own {p : Addr} {o : HO} (g : Gd K (E0.with p o) F H σ η ω) (ha : E0.a ≠ some p) : ∀ i, (look ω i).isSome = true → σ[i]? ≠ some (some (.ref p)) := fun i h e => by
  rcases g.own0 i p h e with z | z
  · exact ha z
  · have z' : (if p = p then some o else E0.H p) = none := z
    rw [if_pos rfl] at z'
    cases z'
theorem New.none (n : New F H F' H') {p : Addr} (hp : H p ≠ none) (fp : F p = none) : F' p = none ∧ H' p = H p := by
  induction n with
  | refl => exact ⟨fp, rfl⟩
  | step n h ih =>
    obtain ⟨h1, h2⟩ := ih
    rename_i F1 H1 q u
    have ne : p ≠ q := fun e => hp (by rw [← h2, e]; exact h)
    exact ⟨by rw [upd_ne ne]; exact h1, by rw [upd_ne ne]; exact h2⟩
/-- an untracked object of the heap may change -/
theorem Gd.other (g : Gd K E0 F H σ η ω) {p : Addr} {o : HO} (fp : F p = none) (e0 : E0.H p = none) (no : ∀ i, (look ω i).isSome = true → σ[i]? ≠ some (some (.ref p))) : Gd K E0 F (upd H p o) σ η ω := by
  refine ⟨fun b u e => by rw [upd_ne (ne_of_none e fp)]; exact g.sub b u e, g.len, g.val, fun i xs e => ?_, g.dis, g.ext0, fun b u e n => by rw [upd_ne (ne_of_none e e0)]; exact g.frm0 b u e n, g.new0, g.own0, g.par⟩
  obtain ⟨a, vs, h1, h2, h3, h4⟩ := g.own i xs e
  have ne : a ≠ p := fun z => no i (by rw [e]; rfl) (z ▸ h1)
  exact ⟨a, vs, h1, by rw [upd_ne ne]; exact h2, h3, h4⟩
end

theorem wipe_off {σ : Sg} : ∀ {vs : List Nat} {j : Nat}, j ∉ vs → (wipe σ vs)[j]? = σ[j]?
  | [], _, _ => rfl
  | v :: vs, j, h => by
    unfold wipe
    rw [List.getElem?_set_ne (fun z => h (by rw [z]; exact List.mem_cons_self))]
    exact wipe_off fun z => h (List.mem_cons_of_mem _ z)
theorem wipe_at {σ : Sg} : ∀ {vs : List Nat} {j : Nat}, j ∈ vs → j < σ.length → (wipe σ vs)[j]? = some none
  | v :: vs, j, h, hl => by
    unfold wipe
    by_cases e : v = j
    · subst e
      rw [List.getElem?_set_self (by rw [wipe_length]; exact hl)]
    · rw [List.getElem?_set_ne e]
      rcases List.mem_cons.mp h with z | z
      · exact absurd z.symm e
      · exact wipe_at z hl
theorem wipe_eq {σ σ2 : Sg} {vs : List Nat} (hl : σ2.length = σ.length) (h : ∀ j, j ∉ vs → σ2[j]? = σ[j]?) : wipe σ2 vs = wipe σ vs := by
  apply List.ext_getElem?
  intro j
  by_cases hj : j ∈ vs
  · by_cases hlt : j < σ.length
    · rw [wipe_at hj hlt, wipe_at hj (by omega)]
    · rw [List.getElem?_eq_none (by rw [wipe_length]; omega), List.getElem?_eq_none (by rw [wipe_length]; omega)]
  · rw [wipe_off hj, wipe_off hj, h j hj]
theorem any_false {tg : List Nat} {ω : Om} (h : ¬ (tg.any fun i => (look ω i).isSome) = true) : ∀ j ∈ tg, look ω j = none := fun j hj => by
  cases e : look ω j with
  | none => rfl
  | some x => exact absurd (List.any_eq_true.mpr ⟨j, hj, by rw [e]; rfl⟩) h
section
variable {X : Cx} {cA : Nat → Addr} {W : WX} {E0 : Ent}
variable {elt iter tge : Expr} {ifs : List Expr} {scope : Scope} {own : List (Str × Nat)} {pos : Pos} {fi fe : Eta → M D} {fc : Eta → M Bool} {one : Bool}
theorem asPoE {α β : Type} {R : Om → Hp → Hp → β → α → Prop} {F : Hp} {σ : Sg} {η : Eta} {ω : Om} {Q : β → Hp → Prop} {d : α} (h : PoE (pm X cA) R W E0 F σ η Q (.ok d ω)) : ∀ v F' H', Same F F' → Gd X.K E0 F' H' σ η ω → R ω F' H' v d → Q v H' := h
theorem e_comp (hc : X.calm = true) (hN : X.N.Nodup) (hi : PI X tge iter (tI (pm X cA) W fi)) (ok : BlkOk X.N X.env.scope scope own)
    (hg : ∀ (s : Shared) (H : Hp) (C : Addr) (cl : List (Str × Addr)) (fp : List Addr), PG (X.blk s H scope (compEnvC scope cl C X.env) fp) tge (gTg X.K (own.map (·.2)) one))
    (ht : ∀ (s : Shared) (H : Hp) (C : Addr) (cl : List (Str × Addr)) (fp : List Addr), PTs (X.blk s H scope (compEnvC scope cl C X.env) fp) ifs (tB (pm X cA) W0 fc))
    (he : ∀ (s : Shared) (H : Hp) (C : Addr) (cl : List (Str × Addr)) (fp : List Addr), PE (X.blk s H scope (compEnvC scope cl C X.env) fp) elt (tE (pm X cA) W0 fe)) (hs : ∀ x, foldedSetIterable iter X.env x = pure x) :
    PE X (.ListComp elt [⟨tge, iter, ifs, 0⟩] scope pos) (tLc (tI (pm X cA) W fi) (gTg X.K (own.map (·.2)) one) (tB (pm X cA) W0 fc) (tE (pm X cA) W0 fe) (own.map (·.2))) := pe_lc hc hN hi ok hg ht he hs
/-- what the evaluator says of a comprehension is the library's reading of it -/
theorem lc_read {tg : List Nat} {σ : Sg} {H : Hp} {Q : VK} {R : Ent → Om → Hp → Hp → V → D → Prop}
    (hend : ∀ (E0 : Ent) (F2 Hn : Hp) (η : Eta) (ω2 : Om) (acc : List V) (ds : List D) (p : Addr), Gd X.K E0 F2 Hn σ η ω2 → F2 p = none → Hn p = some (.lst acc) → RpL X.K F2 acc ds → E0.H p = none → E0.a ≠ some p → (∀ j, (look ω2 j).isSome = true → σ[j]? ≠ some (some (.ref p))) →
      ∃ F3, Same F2 F3 ∧ Gd X.K E0 F3 Hn σ η ω2 ∧ R E0 ω2 F3 Hn (.ref p) (.lst ds))
    (hh : ∃ E0 F η ω, Gd X.K E0 F H σ η ω ∧ PoE (pm X cA) (R E0) W E0 F σ η Q ((fi η ω).bnd fun x ω => match itemsD x with
      | none => .st
      | some xs => (compGo (ctake fc fe) tg one η xs [] ω).bnd fun ys ω => .ok (.lst ys) ω)) :
    tLc (tI (pm X cA) W fi) (gTg X.K tg one) (tB (pm X cA) W0 fc) (tE (pm X cA) W0 fe) tg σ H Q := by
  obtain ⟨E0, F, η, ω, g, h⟩ := hh
  refine ⟨E0, F, η, ω, g, ?_⟩
  cases e : fi η ω with
  | st => rw [e] at h; exact h
  | ex c p ω' => rw [e] at h; exact h
  | ok x ω1 =>
    rw [e] at h
    simp only [Out.bnd_ok] at h
    cases e2 : itemsD x with
    | none => rw [e2] at h; exact h.elim
    | some xs =>
      rw [e2] at h
      refine ⟨xs, e2, fun F1 H1 J s1 g1 wk => ?_⟩
      intro dA hD
      obtain ⟨z1, z2, z3, z4⟩ := g1.fresh hD
      -- the invariant
      refine ⟨fun i m Hn => m = xs.length - i ∧ i ≤ xs.length ∧ ∃ F2 ω2 acc ds, Same F1 F2 ∧ Gd X.K E0 F2 Hn σ η ω2 ∧ F2 dA = none ∧ Hn dA = some (.lst acc) ∧ RpL X.K F2 acc ds ∧ (∀ j, (look ω2 j).isSome = true → σ[j]? ≠ some (some (.ref dA))) ∧
        PoE (pm X cA) (R E0) W E0 F2 σ η Q ((compGo (ctake fc fe) tg one η (xs.drop i) ds ω2).bnd fun ys ω => .ok (.lst ys) ω), ⟨xs.length, by simp, Nat.zero_le _, F1, ω1, [], [], Same.refl _, g1.other z3 z1 z4, z3, upd_same, .nil, z4, PoE.weak s1 h⟩, ?_⟩
      rintro i m Hn ⟨rfl, hi, F2, ω2, acc, ds, s2, g2, d1, d2, r2, d3, q⟩
      by_cases hlt : i < xs.length
      · refine .inr ⟨wk.go i Hn (s2.trans g2.sub) hlt, fun Hx => i + 1 ≤ xs.length ∧ ∃ F2 ω2 acc ds, Same F1 F2 ∧ Gd X.K E0 F2 Hx σ η ω2 ∧ F2 dA = none ∧ Hx dA = some (.lst acc) ∧ RpL X.K F2 acc ds ∧ (∀ j, (look ω2 j).isSome = true → σ[j]? ≠ some (some (.ref dA))) ∧
          PoE (pm X cA) (R E0) W E0 F2 σ η Q ((compGo (ctake fc fe) tg one η (xs.drop (i + 1)) ds ω2).bnd fun ys ω => .ok (.lst ys) ω), fun H' n => ⟨xs.length - (i + 1), by omega, rfl, n⟩, fun v Hy y => ?_⟩
        obtain ⟨F3, n3, r3⟩ := wk.yld i F2 Hn v Hy xs[i] s2 g2.sub y (List.getElem?_eq_getElem hlt)
        obtain ⟨g3, s3, s3'⟩ := g2.new n3
        obtain ⟨d4, d5⟩ := n3.none (p := dA) (by rw [d2]; exact fun z => nomatch z) d1
        rw [d2] at d5
        have r2 := r2.mono s3
        rw [List.drop_eq_getElem_cons hlt] at q
        have q := PoE.weak s3 q
        unfold compGo at q
        by_cases hany : (tg.any fun i => (look ω2 i).isSome) = true
        · rw [if_pos hany] at q; exact q.elim
        rw [if_neg hany] at q
        have no := any_false hany
        cases eb : bindTg tg one xs[i] η with
        | none => rw [eb] at q; exact q.elim
        | some η' =>
          rw [eb] at q
          dsimp only at q
          refine bindTg_ok (η := η) (η' := η') (σ := wipe σ tg) g3.sub eb r3 (by rw [wipe_length]; exact g3.len) fun σ2 b => ?_
          have offS : ∀ j, j ∉ tg → σ2[j]? = σ[j]? := fun j hj => by rw [b.offS j hj, wipe_off hj]
          have lS : σ2.length = σ.length := by rw [b.lenS, wipe_length]
          have b' : Bnd X.K F3 tg σ σ2 η η' := ⟨lS, b.lenE, offS, b.offE, b.val⟩
          refine ⟨wipe_eq lS offS, ?_⟩
          have gb : Gd X.K E0 F3 Hy σ2 η' ω2 := g3.bind b' no
          have nob : ∀ j, (look ω2 j).isSome = true → σ2[j]? ≠ some (some (.ref dA)) := fun j hj => by
            rw [offS j (fun z => by rw [no j z] at hj; cases hj)]
            exact d3 j hj
          have gg := gb.guard d5 d4 nob
          have e0F : E0.F dA = none := by
            cases q : E0.F dA with
            | none => rfl
            | some u => have := g2.ext0 _ _ q; rw [d1] at this; cases this
          refine ⟨_, F3, η', ω2, gg, ?_⟩
          unfold ctake at q
          cases ec : fc η' ω2 with
          | st => rw [ec] at q; exact q.elim
          | ex c p ω4 => rw [ec] at q; exact q.elim
          | ok bb ω4 =>
            rw [ec] at q
            dsimp only [Out.bnd_ok] at q
            intro bv F4 H4 s4 g4 e4
            subst e4
            have d6 : E0.H dA = none := z1
            -- back from the guard
            have back : ∀ {F5 H5 : Hp} {ω5 : Om}, Same F3 F5 → Gd X.K (E0.with dA (.lst acc)) F5 H5 σ2 η' ω5 → (∀ j ∈ tg, look ω5 j = none) → Gd X.K E0 F5 H5 σ η ω5 ∧ H5 dA = some (.lst acc) ∧ F5 dA = none ∧ ∀ j, (look ω5 j).isSome = true → σ[j]? ≠ some (some (.ref dA)) := fun {F5 H5 ω5} s5 g5 no5 => by
              rcases g5.unguard d6 z2 with ⟨u1, u2, u3⟩ | u
              · refine ⟨u1.unbind g3 s5 offS no5, u2, u3, fun j hj => ?_⟩
                have := g5.guard_own z2 j hj
                rwa [offS j (fun z => by rw [no5 j z] at hj; cases hj)] at this
              · exact absurd e0F u
            -- what is still to come says that the names are free
            have free : ∀ {ds' : List D} {ω5 : Om} {F5 : Hp}, PoE (pm X cA) (R E0) W E0 F5 σ η Q ((compGo (ctake fc fe) tg one η (xs.drop (i + 1)) ds' ω5).bnd fun ys ω => .ok (.lst ys) ω) → ∀ j ∈ tg, look ω5 j = none := fun {ds' ω5 F5} q5 => by
              refine any_false fun hany5 => ?_
              cases er : xs.drop (i + 1) with
              | nil => rw [er] at q5; unfold compGo at q5; rw [if_pos hany5] at q5; exact q5
              | cons _ _ => rw [er] at q5; unfold compGo at q5; rw [if_pos hany5] at q5; exact q5
            cases bv with
            | false =>
              rw [if_neg Bool.false_ne_true]
              dsimp only at q
              obtain ⟨g5, d7, d8, d9⟩ := back s4 g4 (free q)
              exact ⟨hlt, F4, ω4, acc, ds, (s2.trans s3).trans s4, g5, d8, d7, r2.mono s4, d9, PoE.weak s4 q⟩
            | true =>
              rw [if_pos rfl]
              refine ⟨_, F4, η', ω4, g4, ?_⟩
              cases ee : fe η' ω4 with
              | st => simp only [ee, Out.bnd_st] at q; exact q.elim
              | ex c p ω6 => simp only [ee, Out.bnd_ex] at q; exact q.elim
              | ok d ω6 =>
                simp only [ee, Out.bnd_ok] at q
                intro v6 F6 H6 s6 g6 r6
                split at q
                · rename_i hlen
                  obtain ⟨g7, d7, d8, d9⟩ := back (s4.trans s6) g6 (free q)
                  refine ⟨acc, d7, by rw [r2.length]; exact hlen, hlt, F6, ω6, acc ++ [v6], ds ++ [d], ((s2.trans s3).trans s4).trans s6, g7.other d8 z1 d9, d8, upd_same, ((r2.mono s4).mono s6).append (.cons r6 .nil), d9, PoE.weak (s4.trans s6) q⟩
                · exact q.elim
      · have ei : i = xs.length := by omega
        subst ei
        refine .inl ⟨wk.stop Hn (s2.trans g2.sub), ?_⟩
        rw [List.drop_length] at q
        unfold compGo at q
        by_cases hany : (tg.any fun i => (look ω2 i).isSome) = true
        · rw [if_pos hany] at q; exact q.elim
        rw [if_neg hany] at q
        obtain ⟨F3, s3, g3, r3⟩ := hend E0 F2 Hn η ω2 acc ds dA g2 d1 d2 r2 z1 z2 d3
        exact asPoE q _ _ Hn s3 g3 r3
end
end Mp

/-! Mp: fresh lists, statements. -/
namespace Mp
open PySem PySem.Spec PyProof.Rows L2

/-- a value of its own: no list, or a fresh one -/
def RvF (K : PySem.W.Frag) (E0 : Ent) (σ : Sg) : Om → Hp → Hp → V → D → Prop := fun ω' F' H' v d =>
  (Rp K F' v d ∧ isLst d = none) ∨ ∃ p vs xs, v = .ref p ∧ d = .lst xs ∧ F' p = none ∧ H' p = some (.lst vs) ∧ RpL K F' vs xs ∧ E0.H p = none ∧ E0.a ≠ some p ∧ ∀ i, (look ω' i).isSome = true → σ[i]? ≠ some (some (.ref p))
def tF (P : Pm) (W : WX) (f : Eta → M D) : TE := fun σ H Q => ∃ E0 F η ω, Gd P.K E0 F H σ η ω ∧ PoE P (RvF P.K E0 σ) W E0 F σ η Q (f η ω)
section
variable {X : Cx} {cA : Nat → Addr} {W : WX} {E0 : Ent}
variable {a b c d e : Expr} {es : List Expr} {fa fb fc fe fi : Eta → M D} {fes : Eta → M (List D)} {oa ob oe : Option Nat} {pos : Pos}
theorem finG_of {F' H' : Hp} {σ : Sg} {η : Eta} {ω' : Om} {z : D} {Q : VK} (g' : Gd X.K E0 F' H' σ η ω') (q : ∀ v F'' H'', Same F' F'' → Gd X.K E0 F'' H'' σ η ω' → RvF X.K E0 σ ω' F'' H'' v z → Q v H'') : FinG X.K F' H' z Q := by
  cases z with
  | lst xs =>
    intro p vs hp r
    obtain ⟨z1, z2, z3, z4⟩ := g'.fresh hp
    exact q _ F' _ (Same.refl _) (g'.other z3 z1 z4) (.inr ⟨p, vs, xs, rfl, rfl, z3, upd_same, r, z1, z2, z4⟩)
  | _ => exact fun v r => q v F' H' (Same.refl _) g' (.inl ⟨r, rfl⟩)
theorem f_bin (o : Op2) (ho : o = .add ∨ o = .mul) (ha : PE X a (tL (pm X cA) W oa fa)) (hb : PE X b (tL (pm X cA) W ob fb)) :
    PE X (.BinOp a (opOf o) b pos) (tF (pm X cA) W fun η ω => (opd2 oa ob fa fb η ω).bnd fun p ω => Out.of ω (op2D o p.1 p.2)) := by
  have r : OpR X (binaryOp (opOf o)) (rG2 X.K (op2D o)) := by
    rcases ho with rfl | rfl
    · exact g_add
    · exact g_mul
  refine (pe_op r ha hb).imp fun σ H Q ⟨E0, F, η, ω, g, h⟩ => ?_
  refine two_run g h fun x y ω' v u F' H' s g' rx ry q => ?_
  obtain ⟨z, e, q⟩ := PoE.of q
  exact ⟨F', x, y, z, g'.sub, rx, ry, e, finG_of g' q⟩
theorem f_lst (h : PA X es (tA (pm X cA) W fes)) : PE X (.List es pos) (tF (pm X cA) W fun η ω => (fes η ω).bnd fun xs ω => if xs.length ≤ sizeLine then .ok (.lst xs) ω else .st) := (pe_lst h).imp fun σ H Q ⟨E0, F, η, ω, g, h⟩ => by
  refine ⟨E0, F, η, ω, g, PoE.bnd h fun xs ω1 vs F1 H1 e1 s1 g1 rx q => ?_⟩
  obtain ⟨hl, q⟩ := iteO_ok q
  exact ⟨by rw [rx.length]; exact hl, fun p hp => finG_of (z := .lst xs) g1 q p vs hp rx⟩
def rSf (K : PySem.W.Frag) : V → Option Int → Option Int → Hp → VK → Prop := fun x lo hi H Q => ∃ F d z, Same F H ∧ Rq K F H x d ∧ slcO d lo hi = some z ∧ FinG K F H z Q
theorem g_slc : SlR X (rSf X.K) := by
  intro pins s σ H x v vl vu lo hi sl Q I rx hs pl pu h
  obtain ⟨F, d, z, s0, h1, h3, q⟩ := h
  unfold slcO at h3
  split at h3
  · obtain ⟨p, vs, rfl, e1, r1⟩ := h1.lst s0
    cases h3
    exact sl_list pins s σ H _ v vl vu lo hi sl Q I rx hs pl pu ⟨_, _, rfl, SqL.of e1, fun p hp => q p _ hp (r1.cut lo hi)⟩
  · obtain ⟨p, rfl, e1⟩ := h1.scr s0
    cases h3
    exact sl_list pins s σ H _ v vl vu lo hi sl Q I rx hs pl pu ⟨_, _, rfl, e1, fun p hp => by
      rw [cutV_map]
      exact q p _ hp (rpL_ints _)⟩
  · split at h3
    · rename_i hl
      have a1 := h1.str; subst a1
      exact sl_str pins s σ H _ v vl vu lo hi sl Q I rx hs pl pu ⟨_, rfl, hl, fing_str q (Option.some.inj h3)⟩
    · cases h3
  · cases h3
theorem f_slc {lo hi : Option Expr} {p2 : Pos} {bl bh : Bool} {fl fh : Eta → M D} (ha : PE X a (tL (pm X cA) W oa fa)) (hl : PO X lo (tO (pm X cA) W (part bl fl))) (hh : PO X hi (tO (pm X cA) W (part bh fh))) :
    PE X (.Subscript a (.Slice lo hi none p2) pos) (tF (pm X cA) W fun η ω => (opd oa fa η ω).bnd fun x ω => (part bl fl η ω).bnd fun l ω => (part bh fh η ω).bnd fun h ω => Out.of ω ((snap ω oa x).bind fun x => slcD x l h)) :=
  (pe_slice g_slc ha hl hh).imp fun σ H Q ⟨E0, F, η, ω, g, h⟩ => by
  refine opd_run g h fun x0 ω1 v F1 H1 _ s1 g1 o1 q => ?_
  refine ⟨E0, F1, η, ω1, g1, PoE.bnd q fun l ω2 lo' F2 H2 e2 s2 g2 rl q => ?_⟩
  refine ⟨E0, F2, η, ω2, g2, PoE.bnd q fun h ω3 hi' F3 H3 e3 s3 g3 rh q => ?_⟩
  obtain ⟨z, e4, q⟩ := PoE.of q
  obtain ⟨x, e5, e6⟩ := Option.bind_eq_some_iff.mp e4
  unfold slcD at e6
  rw [rl, rh] at e6
  exact ⟨F3, x, z, g3.sub, ((o1.mono s2).mono s3).snap g3 e5, e6, finG_of g3 q⟩
theorem f_rev {k : Nat} {p1 p2 p3 : Pos} (ha : PE X a (tL (pm X cA) W oa fa)) : PE X (.Subscript a (.Slice none none (some (.UnaryOp .USub (.Constant (.int 1) k p1) p2)) p3) pos) (tF (pm X cA) W fun η ω => (opd oa fa η ω).bnd fun x ω => Out.of ω ((snap ω oa x).bind revD)) :=
  (pe_revL ha).imp fun σ H Q ⟨E0, F, η, ω, g, h⟩ => by
  refine opd_run g h fun x0 ω1 v F1 H1 _ s1 g1 o1 q => ?_
  obtain ⟨z, e4, q⟩ := PoE.of q
  obtain ⟨x, e5, e6⟩ := Option.bind_eq_some_iff.mp e4
  cases x with
  | lst xs =>
    obtain ⟨p, vs, rfl, e1, r1⟩ := (o1.snap g1 e5).lst g1.sub
    cases e6
    exact ⟨_, _, rfl, SqL.of e1, fun p hp => finG_of (z := .lst xs.reverse) g1 q p _ hp r1.rev⟩
  | _ => cases e6
theorem f_listT {x : Str} {p : Pos} (hx : x = "list") (hg : Gl X x) (hm : X.mg x = none) (ha : PA X (e :: es) (tAq (pm X cA) W fes)) 
    (he : starEach (e :: es) X.env = (false, eval e X.env) :: starEach es X.env) (hpl : (backTo pos (starEach es X.env)).any (·.1) = false) : PE X (.Call (.Name x p) (e :: es) [] pos) (tF (pm X cA) W fun η ω => (fes η ω).bnd fun xs ω => Out.of ω (listD xs)) := by
  subst hx
  refine (pe_callTy gc_list hg hm (by decide +kernel) ha (by decide) (by decide) he hpl).imp fun σ H Q ⟨E0, F, η, ω, gd, h⟩ => ?_
  refine ⟨E0, F, η, ω, gd, PoE.bnd h fun xs ω1 vs F1 H1 e1 s1 g1 rx q => ?_⟩
  obtain ⟨z, e4, q⟩ := PoE.of q
  exact ⟨F1, xs, z, g1.sub, rx, e4, finG_of g1 q⟩
theorem f_ife (hc : PT X c (tB (pm X cA) W (asB fc))) (ha : PE X a (tF (pm X cA) W fa)) (hb : PE X b (tF (pm X cA) W fb)) : PE X (.IfExp c a b pos) (tF (pm X cA) W fun η ω => (fc η ω).bnd fun x ω => onB x (fa η ω) (fb η ω)) := (pe_ifExp hc ha hb).imp fun σ H Q ⟨E0, F, η, ω, g, h⟩ => by
  have h' : PoE (pm X cA) (RvF X.K E0 σ) W E0 F σ η Q ((asB fc η ω).bnd fun c ω => if c then fa η ω else fb η ω) := by
    unfold asB
    rw [Out.bnd_assoc]
    have : (fun a ω => (Out.of ω (tru a)).bnd fun c ω => if c = true then fa η ω else fb η ω) = fun x ω => onB x (fa η ω) (fb η ω) := by
      funext x ω
      cases x with
      | bl b => cases b <;> rfl
      | _ => rfl
    rw [this]
    exact h
  refine ⟨E0, F, η, ω, g, PoE.bnd h' fun c ω' v F' H' e s g' r q => ?_⟩
  subst r
  cases v
  · exact ⟨E0, F', η, ω', g', q⟩
  · exact ⟨E0, F', η, ω', g', q⟩
/-- what is never a list -/
theorem f_of (h : PE X e (tE (pm X cA) W fe)) (no : ∀ η ω d ω', fe η ω = .ok d ω' → isLst d = none) : PE X e (tF (pm X cA) W fe) := h.imp fun σ H Q ⟨E0, F, η, ω, g, h⟩ => by
  refine ⟨E0, F, η, ω, g, ?_⟩
  cases q : fe η ω with
  | st => rw [q] at h; exact h
  | ex c p ω' => rw [q] at h; exact h
  | ok d ω' =>
    rw [q] at h
    exact fun v F' H' s g' r => h v F' H' s g' (.inl ⟨r, no _ _ _ _ q⟩)
section
variable {T : List Fn} {KW : List (Nat × List Nat × List Str)} {k i : Nat} {f : Fn}
theorem f_call {x : Str} {p : Pos} (hT : T[i]? = some f) (ho : f.own = false) (hf : f.fresh = true) (hx : x = f.name) (G : FnX X cA T KW k i f) (hr : Room k X.A) (tk : Takes X W) (hg : Gl X x) (ha : PA X (e :: es) (tA (pm X cA) W fes)) (hdb : (x == ("__debug__" : Str)) = false)
    (he : starEach (e :: es) X.env = (false, eval e X.env) :: starEach es X.env) (hpl : (backTo pos (starEach es X.env)).any (·.1) = false) :
    PE X (.Call (.Name x p) (e :: es) [] pos) (tF (pm X cA) W fun η ω => (fes η ω).bnd fun xs ω => fin (Fs T k i xs []) (fun d _ => .ok d ω) fun c p _ => .ex c p ω) := by
  obtain ⟨ad, fd, F, hm, hk, hb, _⟩ := G.ex
  subst hx
  refine (pe_callS F hr hg hm hk hb (fun σ => passAt tk σ) ha hdb he hpl).imp fun σ H Q ⟨E0, Fz, η, ω, g, h⟩ => ?_
  refine ⟨E0, Fz, η, ω, g, PoE.bnd h fun xs ω1 vs F1 H1 e1 s1 g1 rx q => ?_⟩
  refine ⟨f, F1, xs, [], none, hT, ?_, g1.sub, .inl ⟨ho, rx, rfl, rfl⟩, ?_⟩
  · refine fs_len (k := k) (o := []) hT fun z => ?_
    rw [z] at q; exact q
  · cases ex : Fs T k i xs [] with
    | st => rw [ex] at q; exact q
    | ex c p o' => rw [ex] at q; exact fun F' H' r => q F' H' r.ext (g1.retN r)
    | ok d o' =>
      rw [ex] at q
      intro v F' H' r rv
      refine q v F' H' r.ext (g1.retN r) ?_
      rcases rv with ⟨rv, hn⟩ | ⟨_, p, ws, ys, h1, h2, h3, h4, h5, h6⟩
      · exact .inl ⟨rv, hn hf⟩
      · obtain ⟨z1, z2, _, z4⟩ := g1.fresh h3
        exact .inr ⟨p, ws, ys, h1, h2, h4, h5, h6, z1, z2, z4⟩
end

/-! ### statements -/
def PoS (P : Pm) (W : WX) (E0 : Ent) (fr : Bool) (F : Hp) (Dn : Ends) : OutS → Prop
  | .st => False
  | .nx η' ω' => ∀ σ' F' H', Same F F' → Gd P.K E0 F' H' σ' η' ω' → Dn.nx σ' H'
  | .bk η' ω' => ∀ σ' F' H', Same F F' → Gd P.K E0 F' H' σ' η' ω' → Dn.bk σ' H'
  | .rt d η' ω' => ∀ v σ' F' H', Same F F' → Gd P.K E0 F' H' σ' η' ω' → RetV P.K fr F' H' E0.H v d → Dn.rt v H'
  | .ex c p ω' => ∀ σ' η' F' H', Same F F' → Gd P.K E0 F' H' σ' η' ω' → Exw P.K P.cA c p F' H' fun cl dd h => W cl dd σ' h
def tSt (P : Pm) (W : WX) (fr : Bool) (f : SM) : TS := fun Dn σ H => ∃ E0 F η ω, Gd P.K E0 F H σ η ω ∧ PoS P W E0 fr F Dn (f η ω)
variable {fr : Bool} {f t : SM} {st : Stmt} {rest : List Stmt}
theorem isS {α : Type} {o : Option α} (h : ¬ o.isSome = false) : o.isSome = true := by cases o <;> simp_all
theorem PoS.weak {F F1 : Hp} {Dn : Ends} {o : OutS} (s : Same F F1) (h : PoS (pm X cA) W E0 fr F Dn o) : PoS (pm X cA) W E0 fr F1 Dn o := by
  cases o with
  | st => exact h
  | nx η ω => exact fun σ' F' H' s' g => h σ' F' H' (s.trans s') g
  | bk η ω => exact fun σ' F' H' s' g => h σ' F' H' (s.trans s') g
  | rt d η ω => exact fun v σ' F' H' s' g r => h v σ' F' H' (s.trans s') g r
  | ex c p ω => exact fun σ' η' F' H' s' g => h σ' η' F' H' (s.trans s') g
/-- an expression, then the rest -/
theorem PoS.on {α β : Type} {R : Om → Hp → Hp → β → α → Prop} {F : Hp} {σ : Sg} {η : Eta} {o : Out α} {k : α → Om → OutS} {Dn : Ends} {Q1 : β → Hp → Prop} (h : PoS (pm X cA) W E0 fr F Dn (o.on k))
    (kk : ∀ d ω' v F' H', o = .ok d ω' → Same F F' → Gd X.K E0 F' H' σ η ω' → R ω' F' H' v d → PoS (pm X cA) W E0 fr F' Dn (k d ω') → Q1 v H') : PoE (pm X cA) R W E0 F σ η Q1 o := by
  cases o with
  | st => exact h
  | ok d ω' => exact fun v F' H' s g r => kk d ω' v F' H' rfl s g r (PoS.weak s h)
  | ex c p ω' => exact fun F' H' s g => h σ η F' H' s g
theorem onS_ok {α : Type} {x : Option α} {k : α → OutS} {F : Hp} {Dn : Ends} (h : PoS (pm X cA) W E0 fr F Dn (onS x k)) : ∃ a, x = some a ∧ PoS (pm X cA) W E0 fr F Dn (k a) := by
  cases x with
  | none => exact h.elim
  | some a => exact ⟨a, rfl, h⟩
theorem ifS_ok {x : D} {k l : OutS} {F : Hp} {Dn : Ends} (h : PoS (pm X cA) W E0 fr F Dn (ifS x k l)) : ∃ b, x = .bl b ∧ PoS (pm X cA) W E0 fr F Dn (if b then k else l) := by
  cases x with
  | bl b => cases b <;> exact ⟨_, rfl, h⟩
  | _ => exact h.elim
theorem s_nil : PSs X [] (tSt (pm X cA) W fr fun η ω => .nx η ω) := pss_nil.imp fun Dn σ H ⟨E0, F, η, ω, g, h⟩ => h σ F H (Same.refl _) g
theorem s_pass : PS X (.Pass pos) (tSt (pm X cA) W fr fun η ω => .nx η ω) := ps_pass.imp fun Dn σ H ⟨E0, F, η, ω, g, h⟩ => h σ F H (Same.refl _) g
theorem s_cons (h1 : PS X st (tSt (pm X cA) W fr f)) (h2 : PSs X rest (tSt (pm X cA) W fr t)) : PSs X (st :: rest) (tSt (pm X cA) W fr fun η ω => (f η ω).andThen t) := (pss_cons h1 h2).imp fun Dn σ H ⟨E0, F, η, ω, g, h⟩ => by
  refine ⟨E0, F, η, ω, g, ?_⟩
  dsimp only at h
  cases e : f η ω with
  | st => rw [e] at h; exact h
  | nx η' ω' =>
    rw [e] at h
    exact fun σ' F' H' s g' => ⟨E0, F', η', ω', g', PoS.weak s h⟩
  | bk η' ω' => rw [e] at h; exact h
  | rt d η' ω' => rw [e] at h; exact h
  | ex c p ω' => rw [e] at h; exact h
theorem s_never : PS X st (tSt (pm X cA) W fr fun _ _ => .st) := ps_never.imp fun Dn σ H ⟨E0, F, η, ω, g, h⟩ => h
theorem ss_never {sts : List Stmt} : PSs X sts (tSt (pm X cA) W fr fun _ _ => .st) := pss_never.imp fun Dn σ H ⟨E0, F, η, ω, g, h⟩ => h
theorem s_expr (he : PE X e (tE (pm X cA) W fe)) (hs : swapsWith e none pos.line X.env = pure false) : PS X (.Expr e pos) (tSt (pm X cA) W fr fun η ω => (fe η ω).on fun _ ω => .nx η ω) := (ps_expr he hs).imp fun Dn σ H ⟨E0, F, η, ω, g, h⟩ =>
  ⟨E0, F, η, ω, g, PoS.on (R := RE X.K) h fun d ω' v F' H' e s g' r q => q σ F' H' (Same.refl _) g'⟩
theorem ite_notS {cc : Prop} [Decidable cc] {k : OutS} {F : Hp} {Dn : Ends} (h : PoS (pm X cA) W E0 fr F Dn (if cc then .st else k)) : ¬ cc ∧ PoS (pm X cA) W E0 fr F Dn k := by
  by_cases hc : cc
  · rw [if_pos hc] at h; exact h.elim
  · rw [if_neg hc] at h; exact ⟨hc, h⟩
theorem ite_S {cc : Prop} [Decidable cc] {k : OutS} {F : Hp} {Dn : Ends} (h : PoS (pm X cA) W E0 fr F Dn (if cc then k else .st)) : cc ∧ PoS (pm X cA) W E0 fr F Dn k := by
  by_cases hc : cc
  · rw [if_pos hc] at h; exact ⟨hc, h⟩
  · rw [if_neg hc] at h; exact h.elim
/-- names are free of own lists in the whole of an expression's run -/
theorem bind_one {F H : Hp} {σ : Sg} {η : Eta} {ω : Om} {i : Nat} {v : V} {d : D} (g : Gd X.K E0 F H σ η ω) (r : Rp X.K F v d) (no : look ω i = none) : Gd X.K E0 F H (σ.set i (some v)) (η.set i (some d)) ω := by
  have : gTg X.K [i] true v σ H fun σ2 _ => Gd X.K E0 F H σ2 (η.set i (some d)) ω :=
    bindTg_ok (η := η) (η' := η.set i (some d)) (σ := σ) (tg := [i]) (one := true) (d := d) (Q := fun σ2 _ => Gd X.K E0 F H σ2 (η.set i (some d)) ω) g.sub rfl r g.len fun σ2 b => g.bind b fun j hj => by
      have : j = i := by simpa using hj
      rw [this]; exact no
  exact this
theorem s_asg {i : Nat} {t : TE} (h : PS X st (tAsg t (gName i))) (imp : ∀ σ H Q, tE (pm X cA) W fe σ H Q → t σ H Q) : PS X st (tSt (pm X cA) W fr fun η ω => (fe η ω).on fun d ω => if (look ω i).isSome then .st else .nx (η.set i (some d)) ω) := h.imp fun Dn σ H ⟨E0, F, η, ω, g, h⟩ => by
  refine imp σ H _ ⟨E0, F, η, ω, g, PoS.on (R := RE X.K) h fun d ω' v F' H' e s g' r q => ?_⟩
  obtain ⟨no, q⟩ := ite_notS q
  have no' : look ω' i = none := by
    cases q : look ω' i with
    | none => rfl
    | some z => exact absurd (by rw [q]; rfl) no
  exact q _ F' H' (Same.refl _) (bind_one g' r no')
theorem Gd.setOwn {F H : Hp} {σ : Sg} {η : Eta} {ω : Om} {i : Nat} {p : Addr} {vs : List V} {xs : List D} (g : Gd X.K E0 F H σ η ω) (h0 : 0 < i) (hl : i < η.length) (fp : F p = none) (hp : H p = some (.lst vs)) (r : RpL X.K F vs xs) (e0 : E0.H p = none)
    (no : ∀ i, (look ω i).isSome = true → σ[i]? ≠ some (some (.ref p))) : Gd X.K E0 F H (σ.set i (some (.ref p))) (η.set i none) (put ω i xs) := by
  have hl2 : i < σ.length := Nat.lt_of_lt_of_le hl g.len
  have at_i : (σ.set i (some (.ref p)))[i]? = some (some (V.ref p)) := List.getElem?_set_self hl2
  have at_ne : ∀ j, j ≠ i → (σ.set i (some (.ref p)))[j]? = σ[j]? := fun j hj => List.getElem?_set_ne (Ne.symm hj)
  have lk : ∀ j, j ≠ i → look (put ω i xs) j = look ω j := fun j hj => by rw [look_put, if_neg hj]
  refine ⟨g.sub, by rw [List.length_set, List.length_set]; exact g.len, fun j d e => ?_, fun j ys e => ?_, fun j l a h1 h2 e1 e2 => ?_, g.ext0, g.frm0, g.new0, fun j a h e => ?_, fun a e => ?_⟩
  · by_cases hj : j = i
    · subst hj; rw [List.getElem?_set_self hl] at e; cases e
    · rw [List.getElem?_set_ne (Ne.symm hj)] at e
      rw [at_ne j hj]
      exact g.val j d e
  · by_cases hj : j = i
    · subst hj
      rw [look_put, if_pos rfl] at e
      cases e
      exact ⟨p, vs, at_i, hp, r, fp⟩
    · rw [lk j hj] at e
      rw [at_ne j hj]
      exact g.own j ys e
  · by_cases hj : j = i
    · by_cases hk : l = i
      · rw [hj, hk]
      · exfalso
        rw [hj, at_i] at e1
        cases e1
        rw [at_ne l hk] at e2
        rw [lk l hk] at h2
        exact no l h2 e2
    · by_cases hk : l = i
      · exfalso
        rw [hk, at_i] at e2
        cases e2
        rw [at_ne j hj] at e1
        rw [lk j hj] at h1
        exact no j h1 e1
      · rw [at_ne j hj] at e1
        rw [at_ne l hk] at e2
        rw [lk j hj] at h1
        rw [lk l hk] at h2
        exact g.dis j l a h1 h2 e1 e2
  · by_cases hj : j = i
    · subst hj
      rw [at_i] at e
      cases e
      exact .inr e0
    · rw [at_ne j hj] at e
      rw [lk j hj] at h
      exact g.own0 j a h e
  · obtain ⟨x1, x2⟩ := g.par a e
    exact ⟨by rw [at_ne 0 (by omega)]; exact x1, by rw [lk 0 (by omega)]; exact x2⟩
theorem s_asgO {i : Nat} {t : TE} (h : PS X st (tAsg t (gName i))) (imp : ∀ σ H Q, tF (pm X cA) W fe σ H Q → t σ H Q) : PS X st (tSt (pm X cA) W fr fun η ω => if 0 < i ∧ i < η.length then (fe η ω).on fun d ω => onS (isLst d) fun xs => .nx (η.set i none) (put ω i xs) else .st) := h.imp fun Dn σ H ⟨E0, F, η, ω, g, h⟩ => by
  obtain ⟨hi, h⟩ := ite_S h
  refine imp σ H _ ⟨E0, F, η, ω, g, PoS.on (R := RvF X.K E0 σ) h fun d ω' v F' H' e s g' r q => ?_⟩
  obtain ⟨xs, e1, q⟩ := onS_ok q
  rcases r with ⟨_, hn⟩ | ⟨p, vs, ys, rfl, rfl, h1, h2, h3, h4, h5, h6⟩
  · rw [hn] at e1; cases e1
  · cases e1
    exact q _ F' H' (Same.refl _) (g'.setOwn hi.1 hi.2 h1 h2 h3 h4 h6)

theorem s_unp {is : List Nat} {tge : Expr} (hg : PG X tge (gTg X.K is false)) (he : PE X e (tE (pm X cA) W fe)) (hs : swapsWithSole [tge] e pos.line X.env = pure false) (hw : swappedStores [tge] e X.env = pure none)
    (h1 : (assignEach [tge] X.env).map (·.2) = [assign tge X.env]) : PS X (.Assign [tge] e pos) (tSt (pm X cA) W fr fun η ω => (fe η ω).on fun d ω => if is.any fun i => (look ω i).isSome then .st else onS (bindTg is false d η) fun η' => .nx η' ω) :=
  (ps_asg he hg hs hw h1).imp fun Dn σ H ⟨E0, F, η, ω, g, h⟩ => by
  refine ⟨E0, F, η, ω, g, PoS.on (R := RE X.K) h fun d ω' v F' H' e s g' r q => ?_⟩
  obtain ⟨no, q⟩ := ite_notS q
  obtain ⟨η', e1, q⟩ := onS_ok q
  exact bindTg_ok g'.sub e1 r g'.len fun σ2 b => q σ2 F' H' (Same.refl _) (g'.bind b (any_false no))
/-- names from a written tuple, stored at once -/
theorem s_par {is : List Nat} {t : TA} {sst : Stmt} (h : PS X sst (fun Dn σ H => t σ H fun vs H1 => gTgs is vs σ H1 Dn.nx)) (imp : ∀ σ H Q, tA (pm X cA) W fes σ H Q → t σ H Q) :
    PS X sst (tSt (pm X cA) W fr fun η ω => ((fes η ω).bnd fun xs ω => if xs.length ≤ sizeLine then (Out.ok (D.tup xs) ω) else .st).on fun d ω => if is.any fun i => (look ω i).isSome then .st else onS (bindTg is false d η) fun η' => .nx η' ω) := h.imp fun Dn σ H ⟨E0, F, η, ω, g, h⟩ => by
  have h' : PoS (pm X cA) W E0 fr F Dn ((fes η ω).on fun xs ω => if xs.length ≤ sizeLine then (if is.any fun i => (look ω i).isSome then .st else onS (bindTg is false (.tup xs) η) fun η' => .nx η' ω) else .st) := by
    dsimp only at h
    cases e : fes η ω with
    | st => rw [e] at h; exact h
    | ex c p ω' => rw [e] at h; exact h
    | ok xs ω' =>
      rw [e] at h
      simp only [Out.bnd_ok] at h
      simp only [Out.on_ok]
      split
      · rename_i hl
        rw [if_pos hl] at h
        exact h
      · rename_i hl
        rw [if_neg hl] at h
        exact h
  refine imp σ H _ ⟨E0, F, η, ω, g, PoS.on (R := fun _ F _ => RpL X.K F) h' fun xs ω' vs F' H' e s g' r q => ?_⟩
  obtain ⟨_, q⟩ := ite_S q
  obtain ⟨no, q⟩ := ite_notS q
  obtain ⟨η', e1, q⟩ := onS_ok q
  exact bindMany_ok e1 r g'.len fun σ2 b => q σ2 F' H' (Same.refl _) (g'.bind b (any_false no))
/-! #### x op= e -/
theorem ip_aug (o : Op2) (ho : o = .add ∨ o = .sub ∨ o = .mul) : PIp X (opOf o) (fun x y H Q => ∃ F d e z, Rp X.K F x d ∧ Rp X.K F y e ∧ augD o d e = some z ∧ ∀ v, Rp X.K F v z → Q v H) := by
  intro pins s σ H x y v u Q I rx ry h
  obtain ⟨F, d, e, z, h1, h2, h3, q⟩ := h
  unfold augD at h3
  split at h3
  · cases h1; cases h2
    exact ip_add pins s σ H _ _ v u Q I rx ry ⟨_, _, rfl, rfl, q _ (by cases h3; exact .int _)⟩
  · cases h1; cases h2
    exact ip_sub pins s σ H _ _ v u Q I rx ry ⟨_, _, rfl, rfl, q _ (by cases h3; exact .int _)⟩
  · split at h3
    · rename_i hl
      unfold isMul at hl
      have hc := of_decide_eq_true hl
      cases h1; cases h2
      obtain ⟨t, rfl⟩ := rx
      obtain ⟨t', rfl⟩ := ry
      exact PyProof.Rows.imul_int ⟨.int _, H, I.tok _, ⟨_, rfl⟩, q _ (by cases h3; exact .int _)⟩ (CMulW.ok hc)
    · cases h3
  · cases h3
theorem s_aug {i : Nat} {x : Str} {p' : Pos} (o : Op2) (ho : o = .add ∨ o = .sub ∨ o = .mul) (hN : X.N.Nodup) (hi : X.N[i]? = some x) (hx : Loc X.env.scope x) (he : PE X e (tE (pm X cA) W fe)) (hf : X.fn x = true ∨ X.env.scope.names.lookup x = some .local) :
    PS X (.AugAssign (.Name x p') (opOf o) e pos) (tSt (pm X cA) W fr fun η ω => onS ((η[i]?).getD none) fun x => (fe η ω).on fun y ω => onS (augD o x y) fun z => if (look ω i).isSome then .st else .nx (η.set i (some z)) ω) :=
  (ps_aug hN hi hx he (ip_aug o ho) hf).imp fun Dn σ H ⟨E0, F, η, ω, g, h⟩ => by
  obtain ⟨d, e1, h⟩ := onS_ok h
  cases e2 : η[i]? with
  | none => rw [e2] at e1; cases e1
  | some od =>
    rw [e2] at e1
    have e1' : od = some d := e1
    subst e1'
    obtain ⟨v, h1, h2⟩ := g.val i d e2
    refine ⟨v, h1, E0, F, η, ω, g, PoS.on (R := RE X.K) h fun y ω' u F' H' e s g' r q => ?_⟩
    obtain ⟨z, e3, q⟩ := onS_ok q
    obtain ⟨no, q⟩ := ite_notS q
    refine ⟨F', d, y, z, h2.mono s, r, e3, fun w rw' => ?_⟩
    have no' : look ω' i = none := by
      cases q : look ω' i with
      | none => rfl
      | some z => exact absurd (by rw [q]; rfl) no
    exact q _ F' H' (Same.refl _) (bind_one g' rw' no')
/-! #### own lists -/
theorem Gd.write {F H : Hp} {σ : Sg} {η : Eta} {ω : Om} {i : Nat} {a : Addr} {ws : List V} {ys : List D} (g : Gd X.K E0 F H σ η ω) (hi : (look ω i).isSome = true) (ha : σ[i]? = some (some (.ref a))) (r : RpL X.K F ws ys) : Gd X.K E0 F (upd H a (.lst ws)) σ η (put ω i ys) := by
  obtain ⟨a', vs, xs, _, e0, e1, e2, e3⟩ := g.at hi
  rw [ha] at e0
  cases e0
  have lk : ∀ j, (look (put ω i ys) j).isSome = true → (look ω j).isSome = true := fun j h => by
    rw [look_put] at h
    split at h
    · rename_i e; rw [e]; exact hi
    · exact h
  refine ⟨fun b u e => by rw [upd_ne (ne_of_none e e3)]; exact g.sub b u e, g.len, g.val, fun j zs e => ?_, fun j l b h1 h2 => g.dis j l b (lk _ h1) (lk _ h2), g.ext0, fun b u e n => ?_, g.new0, fun j b h => g.own0 j b (lk _ h), fun b e => ?_⟩
  · rw [look_put] at e
    split at e
    · rename_i ej
      cases e
      exact ⟨a, ws, by rw [ej]; exact ha, upd_same, r, e3⟩
    · rename_i ej
      obtain ⟨b, us, h1, h2, h3, h4⟩ := g.own j zs e
      have ne : b ≠ a := fun z => ej (g.dis j i b (by rw [e]; rfl) hi h1 (z ▸ ha))
      exact ⟨b, us, h1, by rw [upd_ne ne]; exact h2, h3, h4⟩
  · have ne : b ≠ a := fun z => by
      rcases g.own0 i a hi ha with q | q
      · exact n (by rw [q, z])
      · rw [z, q] at e; cases e
    rw [upd_ne ne]
    exact g.frm0 b u e n
  · obtain ⟨x1, x2⟩ := g.par b e
    refine ⟨x1, ?_⟩
    rw [look_put]
    split
    · rfl
    · exact x2
theorem own_at {F H : Hp} {σ : Sg} {η : Eta} {ω : Om} {i : Nat} {a : Addr} {xs : List D} (g : Gd X.K E0 F H σ η ω) (e : look ω i = some xs) (ha : σ[i]? = some (some (.ref a))) : ∃ vs, H a = some (.lst vs) ∧ RpL X.K F vs xs := by
  obtain ⟨b, vs, h1, h2, h3, _⟩ := g.own i xs e
  rw [ha] at h1
  cases h1
  exact ⟨vs, h2, h3⟩
theorem ixN_lt {n : Nat} {k : Int} {j : Nat} (h : ixN n k = some j) : j < n := by
  unfold ixN at h
  split at h
  · split at h
    · cases h; omega
    · cases h
  · split at h
    · cases h; omega
    · cases h
theorem s_setO {i : Nat} {x : Str} {px p' : Pos} {ki : Expr} {fk : Eta → M D} (hN : X.N[i]? = some x) (hv : Vis X.env.scope x) (hd : (x == ("__debug__" : Str)) = false) (hcd : (x == ("__classdict__" : Str)) = false) (hk : PE X ki (tE (pm X cA) W fk)) (he : PE X e (tE (pm X cA) W fe))
    (hs : swapsWithSole [.Subscript (.Name x px) ki p'] e pos.line X.env = pure false) (hw : swappedStores [.Subscript (.Name x px) ki p'] e X.env = pure none)
    (h1 : (assignEach [.Subscript (.Name x px) ki p'] X.env).map (·.2) = [assign (.Subscript (.Name x px) ki p') X.env])
    (ha : ∀ v, assign (.Subscript (.Name x px) ki p') X.env v = (do
      let ov ← holding [v] (eval (.Name x px) X.env)
      let iv ← holding [v, ov] (eval ki X.env)
      standAt p'
      holding [v, ov, iv] (setItem ov iv v)
      release [v, ov, iv] [])) :
    PS X (.Assign [.Subscript (.Name x px) ki p'] e pos) (tSt (pm X cA) W fr fun η ω => (fe η ω).on fun d ω => if (look ω i).isSome = false then .st else (fk η ω).on fun x ω => onS (isInt x) fun n => popS ω i fun xs => onS (ixN xs.length n) fun j => .nx η (put ω i (xs.set j d))) :=
  (ps_asg he (pg_sub (pe_var hN hv hd hcd) hk set_list ha) hs hw h1).imp fun Dn σ H ⟨E0, F, η, ω, g, h⟩ => by
  refine ⟨E0, F, η, ω, g, PoS.on (R := RE X.K) h fun d ω1 v F1 H1 e s1 g1 r1 q => ?_⟩
  obtain ⟨hi, q⟩ := ite_notS q
  obtain ⟨a, _, _, _, e0, _⟩ := g1.at (i := i) (isS hi)
  refine ⟨.ref a, e0, E0, F1, η, ω1, g1, PoS.on (R := RE X.K) q fun y ω2 u F2 H2 e s2 g2 r2 q => ?_⟩
  obtain ⟨n, e1, q1⟩ := onS_ok q
  obtain ⟨xs, e2, q2⟩ := onS_ok q1
  obtain ⟨j, e3, q3⟩ := onS_ok q2
  cases y with
  | int m =>
    cases e1
    cases r2
    obtain ⟨vs, h3, h4⟩ := own_at g2 e2 e0
    exact ⟨a, vs, n, j, rfl, rfl, h3, by rw [h4.length]; exact e3, q3 σ F2 _ (Same.refl _) (g2.write (by rw [e2]; rfl) e0 (h4.set j (r1.mono s2)))⟩
  | _ => cases e1
theorem pget_list : PGet X (fun o i H Q => ∃ a xs n v, o = .ref a ∧ i = .int n ∧ H a = some (.lst xs) ∧ 0 ≤ n ∧ n < 10000000 ∧ xs[n.toNat]? = some v ∧ Q v H) := by
  intro pins s σ H o i ov iv Q I ro ri h
  obtain ⟨a, xs, n, v, rfl, rfl, e1, h0, h1, e2, q⟩ := h
  cases ro
  obtain ⟨t, rfl⟩ := ri
  obtain ⟨its, rv, p, hz⟩ := I.list (SqL.of e1)
  obtain ⟨u, hu, ru⟩ := rv.get e2
  exact wpAny_getItem_list p.isList h0 (by omega) (by simpa using hu) ⟨v, H, I, ru, q⟩
theorem s_augO {i : Nat} {x : Str} {px p' : Pos} {ki : Expr} {fk : Eta → M D} (o : Op2) (ho : o = .add ∨ o = .sub ∨ o = .mul) (hN : X.N[i]? = some x) (hv : Vis X.env.scope x) (hd : (x == ("__debug__" : Str)) = false) (hcd : (x == ("__classdict__" : Str)) = false) (hk : PE X ki (tE (pm X cA) W fk)) (he : PE X e (tE (pm X cA) W fe))
    (ha : ∀ ov iv new, augStore ki ov iv new = (do holding [new, ov, iv] (setItem ov iv new); release [new, ov, iv] []; pure .next)) :
    PS X (.AugAssign (.Subscript (.Name x px) ki p') (opOf o) e pos) (tSt (pm X cA) W fr fun η ω => if (look ω i).isSome = false then .st else (fk η ω).on fun x ω => onS (isInt x) fun n => popS ω i fun xs => onS (if 0 ≤ n ∧ n < 10000000 then xs[n.toNat]? else none) fun old =>
      (fe η ω).on fun y ω => onS (augD o old y) fun z => popS ω i fun xs => onS (ixN xs.length n) fun j => .nx η (put ω i (xs.set j z))) :=
  (ps_augS (pe_var hN hv hd hcd) hk pget_list he (ip_aug o ho) set_list ha).imp fun Dn σ H ⟨E0, F, η, ω, g, h⟩ => by
  obtain ⟨hi, h⟩ := ite_notS h
  obtain ⟨a, _, _, _, e0, _⟩ := g.at (i := i) (isS hi)
  refine ⟨.ref a, e0, E0, F, η, ω, g, PoS.on (R := RE X.K) h fun y ω1 u F1 H1 e s1 g1 r1 q => ?_⟩
  obtain ⟨n, e1, q1⟩ := onS_ok q
  obtain ⟨xs, e2, q2⟩ := onS_ok q1
  obtain ⟨old, e3, q3⟩ := onS_ok q2
  cases y with
  | int m =>
    cases e1
    cases r1
    split at e3
    · rename_i hm
      obtain ⟨vs, h3, h4⟩ := own_at g1 e2 e0
      obtain ⟨w, h5, h6⟩ := h4.get e3
      refine ⟨a, vs, n, w, rfl, rfl, h3, hm.1, hm.2, h5, E0, F1, η, ω1, g1, PoS.on (R := RE X.K) q3 fun y ω2 u F2 H2 e s2 g2 r2 q => ?_⟩
      obtain ⟨z, e4, q⟩ := onS_ok q
      obtain ⟨xs2, e5, q⟩ := onS_ok q
      obtain ⟨j, e6, q⟩ := onS_ok q
      refine ⟨F2, old, y, z, h6.mono s2, r2, e4, fun zv rz => ?_⟩
      obtain ⟨vs2, h7, h8⟩ := own_at g2 e5 e0
      exact ⟨a, vs2, n, j, rfl, rfl, h7, by rw [h8.length]; exact e6, q σ F2 _ (Same.refl _) (g2.write (by rw [e5]; rfl) e0 (h8.set j rz))⟩
    · cases e3
  | _ => cases e1
theorem s_app {i : Nat} {x : Str} {px apos p' : Pos} (hN : X.N[i]? = some x) (hv : Vis X.env.scope x) (hd : (x == ("__debug__" : Str)) = false) (hcd : (x == ("__classdict__" : Str)) = false) (he : PE X e (tE (pm X cA) W fe))
    (hbase : attributeBase (.Name x px) "append" X.env (eval (.Name x px) X.env) = eval (.Name x px) X.env)
    (hfew : ((backTo p' (starEach [e] X.env)).all (fun x => !x.1) && (backToKw p' (keywordEach [] X.env)).all (fun x => x.1.isSome)
      && decide ([e].length + ([] : List Keyword).length + (if ([] : List Keyword).isEmpty then 0 else 1) < 30)) = true)
    (hline : (apos.endLine == p'.line) = true) (hs : starEach [e] X.env = (false, eval e X.env) :: starEach [] X.env) (hplain : (backTo p' (starEach [] X.env)).any (·.1) = false)
    (hsw : swapsWith (.Call (.Attribute (.Name x px) "append" apos) [e] [] p') none pos.line X.env = pure false) :
    PS X (.Expr (.Call (.Attribute (.Name x px) "append" apos) [e] [] p') pos) (tSt (pm X cA) W fr fun η ω => if (look ω i).isSome = false then .st else (fe η ω).on fun d ω => popS ω i fun xs => if xs.length < sizeLine then .nx η (put ω i (xs ++ [d])) else .st) :=
  (ps_expr (pe_bm PySem.F.plainAttrs_list PySem.F.slot_list_append PySem.F.type_list_append mt_append (pe_var hN hv hd hcd) (pa_cons he pa_nil hs) hbase hfew hline hs hplain) hsw).imp fun Dn σ H ⟨E0, F, η, ω, g, h⟩ => by
  obtain ⟨hi, h⟩ := ite_notS h
  obtain ⟨a, ws, _, _, e0, e9, _⟩ := g.at (i := i) (isS hi)
  refine ⟨.ref a, e0, .inl ⟨rfl, _, SqL.of e9⟩, E0, F, η, ω, g, PoS.on (R := RE X.K) h fun y ω1 u F1 H1 e s1 g1 r1 q => ?_⟩
  obtain ⟨xs, e2, q⟩ := onS_ok q
  obtain ⟨hl, q⟩ := ite_S q
  obtain ⟨vs, h3, h4⟩ := own_at g1 e2 e0
  exact ⟨a, vs, u, rfl, rfl, h3, by rw [h4.length]; exact hl, q σ F1 _ (Same.refl _) (g1.write (by rw [e2]; rfl) e0 (h4.append (.cons r1 .nil)))⟩
theorem s_ext {i : Nat} {x : Str} {px apos p' : Pos} (hN : X.N[i]? = some x) (hv : Vis X.env.scope x) (hd : (x == ("__debug__" : Str)) = false) (hcd : (x == ("__classdict__" : Str)) = false) (he : PE X e (tE (pm X cA) W fe))
    (hbase : attributeBase (.Name x px) "extend" X.env (eval (.Name x px) X.env) = eval (.Name x px) X.env)
    (hfew : ((backTo p' (starEach [e] X.env)).all (fun x => !x.1) && (backToKw p' (keywordEach [] X.env)).all (fun x => x.1.isSome)
      && decide ([e].length + ([] : List Keyword).length + (if ([] : List Keyword).isEmpty then 0 else 1) < 30)) = true)
    (hline : (apos.endLine == p'.line) = true) (hs : starEach [e] X.env = (false, eval e X.env) :: starEach [] X.env) (hplain : (backTo p' (starEach [] X.env)).any (·.1) = false)
    (hsw : swapsWith (.Call (.Attribute (.Name x px) "extend" apos) [e] [] p') none pos.line X.env = pure false) :
    PS X (.Expr (.Call (.Attribute (.Name x px) "extend" apos) [e] [] p') pos) (tSt (pm X cA) W fr fun η ω => if (look ω i).isSome = false then .st else (fe η ω).on fun d ω => onS (isLst d) fun ys => popS ω i fun xs => if xs.length + ys.length ≤ sizeLine then .nx η (put ω i (xs ++ ys)) else .st) :=
  (ps_expr (pe_bm PySem.F.plainAttrs_list PySem.F.slot_list_extend PySem.F.type_list_extend mt_extend (pe_var hN hv hd hcd) (pa_cons he pa_nil hs) hbase hfew hline hs hplain) hsw).imp fun Dn σ H ⟨E0, F, η, ω, g, h⟩ => by
  obtain ⟨hi, h⟩ := ite_notS h
  obtain ⟨a, ws, _, _, e0, e9, _⟩ := g.at (i := i) (isS hi)
  refine ⟨.ref a, e0, .inl ⟨rfl, _, SqL.of e9⟩, E0, F, η, ω, g, PoS.on (R := RE X.K) h fun y ω1 u F1 H1 e s1 g1 r1 q => ?_⟩
  obtain ⟨ys, e1, q1⟩ := onS_ok q
  obtain ⟨xs, e2, q2⟩ := onS_ok q1
  obtain ⟨hl, q3⟩ := ite_S q2
  obtain ⟨vs, h3, h4⟩ := own_at g1 e2 e0
  cases y with
  | lst zs =>
    cases e1
    cases r1 with
    | lst h5 h6 =>
      exact ⟨a, _, vs, _, rfl, rfl, h3, g1.sub _ _ h5, by rw [h4.length, h6.length]; exact hl, q3 σ F1 _ (Same.refl _) (g1.write (by rw [e2]; rfl) e0 (h4.append h6))⟩
  | _ => cases e1
/-! #### branches, loops -/
theorem s_ifs {sa sb : List Stmt} {ta tb : SM} (hc : PT X c (tB (pm X cA) W (asB fc))) (ha : PSs X sa (tSt (pm X cA) W fr ta)) (hb : PSs X sb (tSt (pm X cA) W fr tb)) : PS X (.If c sa sb pos) (tSt (pm X cA) W fr fun η ω => (fc η ω).on fun x ω => ifS x (ta η ω) (tb η ω)) := (ps_if hc ha hb).imp fun Dn σ H ⟨E0, F, η, ω, g, h⟩ => by
  have h' : PoS (pm X cA) W E0 fr F Dn ((asB fc η ω).on fun b ω => if b then ta η ω else tb η ω) := by
    unfold asB
    dsimp only at h
    cases e : fc η ω with
    | st => rw [e] at h; exact h
    | ex c p ω' => rw [e] at h; exact h
    | ok x ω' =>
      rw [e] at h
      simp only [Out.on_ok, Out.bnd_ok] at h ⊢
      obtain ⟨b, rfl, q⟩ := ifS_ok h
      exact q
  refine ⟨E0, F, η, ω, g, PoS.on (R := fun _ _ _ b d => b = d) h' fun b ω' v F' H' e s g' r q => ?_⟩
  subst r
  cases v
  · exact ⟨E0, F', η, ω', g', q⟩
  · exact ⟨E0, F', η, ω', g', q⟩
theorem s_whl {sb : List Stmt} {tb : SM} (hp : PassesOwn (model X.prog X.w) X.A X.env X.xe) (hc : PT X c (tB (pm X cA) W (asB fc))) (hb : PSs X sb (tSt (pm X cA) W fr tb)) : PS X (.While c sb [] pos) (tSt (pm X cA) W fr fun η ω => whlGo fc tb LOOPS η ω) := (ps_while hp hc hb).imp fun Dn σ H ⟨E0, F, η, ω, g, h⟩ => by
  refine ⟨fun n σ1 H1 => ∃ F1 η1 ω1, Same F F1 ∧ Gd X.K E0 F1 H1 σ1 η1 ω1 ∧ PoS (pm X cA) W E0 fr F1 Dn (whlGo fc tb n η1 ω1), ⟨LOOPS, F, η, ω, Same.refl _, g, h⟩, ?_⟩
  rintro n σ1 H1 ⟨F1, η1, ω1, s1, g1, q⟩
  cases n with
  | zero => exact q.elim
  | succ n =>
    unfold whlGo at q
    have q' : PoS (pm X cA) W E0 fr F1 Dn ((asB fc η1 ω1).on fun b ω => if b then (match tb η1 ω with
      | .nx η' ω' => whlGo fc tb n η' ω'
      | .bk η' ω' => .nx η' ω'
      | o => o) else .nx η1 ω) := by
      unfold asB
      cases e : fc η1 ω1 with
      | st => rw [e] at q; exact q
      | ex c p ω' => rw [e] at q; exact q
      | ok x ω' =>
        rw [e] at q
        simp only [Out.on_ok, Out.bnd_ok] at q ⊢
        obtain ⟨b, rfl, qq⟩ := ifS_ok q
        exact qq
    refine ⟨E0, F1, η1, ω1, g1, PoS.on (R := fun _ _ _ b d => b = d) q' fun b ω' v F' H' e s g' r q => ?_⟩
    subst r
    cases v with
    | false => exact q σ1 F' H' (Same.refl _) g'
    | true =>
      rw [if_pos rfl]
      rw [if_pos rfl] at q
      refine ⟨fun σ2 H2 => ∃ F2 η2 ω2, Same F F2 ∧ Gd X.K E0 F2 H2 σ2 η2 ω2 ∧ PoS (pm X cA) W E0 fr F2 Dn (whlGo fc tb n η2 ω2), fun σ2 H2 z => ⟨n, Nat.lt_succ_self n, z⟩, E0, F', η1, ω', g', ?_⟩
      cases e2 : tb η1 ω' with
      | st => rw [e2] at q; exact q
      | nx η3 ω3 =>
        rw [e2] at q
        exact fun σ3 F3 H3 s3 g3 => ⟨F3, η3, ω3, (s1.trans s).trans s3, g3, PoS.weak s3 q⟩
      | bk η3 ω3 => rw [e2] at q; exact q
      | rt d η3 ω3 => rw [e2] at q; exact q
      | ex c p ω3 => rw [e2] at q; exact q
theorem s_for {tge iter : Expr} {sb : List Stmt} {tb : SM} {tg : List Nat} {one : Bool} (hp : PassesOwn (model X.prog X.w) X.A X.env X.xe) (hc : X.calm = true) (hi : PI X tge iter (tI (pm X cA) W fi)) (hg : PG X tge (gTg X.K tg one)) (hb : PSs X sb (tSt (pm X cA) W fr tb)) (hs : ∀ x, foldedSetIterable iter X.env x = pure x) :
    PS X (.For tge iter sb [] pos) (tSt (pm X cA) W fr fun η ω => (fi η ω).on fun x ω => onS (itemsD x) fun xs => forGo tb tg one xs η ω) := (ps_for hp hc hi hg hb hs).imp fun Dn σ H ⟨E0, F, η, ω, g, h⟩ => by
  refine ⟨E0, F, η, ω, g, ?_⟩
  dsimp only at h
  cases e : fi η ω with
  | st => rw [e] at h; exact h
  | ex c p ω' =>
    rw [e] at h
    exact fun F' H' s g' => h σ η F' H' s g'
  | ok x ω1 =>
    rw [e] at h
    simp only [Out.on_ok] at h
    obtain ⟨xs, e2, h⟩ := onS_ok h
    refine ⟨xs, e2, fun F1 H1 J s1 g1 wk => ?_⟩
    refine ⟨fun i m σn Hn => m = xs.length - i ∧ i ≤ xs.length ∧ ∃ F2 η2 ω2, Same F1 F2 ∧ Gd X.K E0 F2 Hn σn η2 ω2 ∧ PoS (pm X cA) W E0 fr F2 Dn (forGo tb tg one (xs.drop i) η2 ω2), ⟨xs.length, by simp, Nat.zero_le _, F1, η, ω1, Same.refl _, g1, PoS.weak s1 h⟩, ?_⟩
    rintro i m σn Hn ⟨rfl, hi', F2, η2, ω2, s2, g2, q⟩
    by_cases hlt : i < xs.length
    · refine .inr ⟨wk.go i Hn (s2.trans g2.sub) hlt, fun σx Hx => i + 1 ≤ xs.length ∧ ∃ F2 η2 ω2, Same F1 F2 ∧ Gd X.K E0 F2 Hx σx η2 ω2 ∧ PoS (pm X cA) W E0 fr F2 Dn (forGo tb tg one (xs.drop (i + 1)) η2 ω2), fun σ' H' n => ⟨xs.length - (i + 1), by omega, rfl, n⟩, fun v Hy y => ?_⟩
      obtain ⟨F3, n3, r3⟩ := wk.yld i F2 Hn v Hy xs[i] s2 g2.sub y (List.getElem?_eq_getElem hlt)
      obtain ⟨g3, s3, s3'⟩ := g2.new n3
      rw [List.drop_eq_getElem_cons hlt] at q
      have q := PoS.weak s3 q
      unfold forGo at q
      obtain ⟨no, q⟩ := ite_notS q
      obtain ⟨η', e3, q⟩ := onS_ok q
      refine bindTg_ok g3.sub e3 r3 g3.len fun σ2 b => ?_
      refine ⟨E0, F3, η', ω2, g3.bind b (any_false no), ?_⟩
      cases e4 : tb η' ω2 with
      | st => rw [e4] at q; exact q
      | nx η4 ω4 =>
        rw [e4] at q
        exact fun σ4 F4 H4 s4 g4 => ⟨hlt, F4, η4, ω4, (s2.trans s3).trans s4, g4, PoS.weak s4 q⟩
      | bk η4 ω4 => rw [e4] at q; exact q
      | rt d η4 ω4 => rw [e4] at q; exact q
      | ex c p ω4 => rw [e4] at q; exact q
    · have ei : i = xs.length := by omega
      subst ei
      rw [List.drop_length] at q
      exact .inl ⟨wk.stop Hn (s2.trans g2.sub), q σn F2 Hn (Same.refl _) g2⟩
/-! #### ends -/
theorem s_ret (he : PE X e (tE (pm X cA) W fe)) : PS X (.Return (some e) pos) (tSt (pm X cA) W false fun η ω => (fe η ω).on fun d ω => .rt d η ω) := (ps_ret he).imp fun Dn σ H ⟨E0, F, η, ω, g, h⟩ =>
  ⟨E0, F, η, ω, g, PoS.on (R := RE X.K) h fun d ω' v F' H' e s g' r q => q v σ F' H' (Same.refl _) g' (.inl ⟨r, fun z => nomatch z⟩)⟩
theorem s_retF (he : PE X e (tF (pm X cA) W fe)) : PS X (.Return (some e) pos) (tSt (pm X cA) W true fun η ω => (fe η ω).on fun d ω => .rt d η ω) := (ps_ret he).imp fun Dn σ H ⟨E0, F, η, ω, g, h⟩ => by
  refine ⟨E0, F, η, ω, g, PoS.on (R := RvF X.K E0 σ) h fun d ω' v F' H' e s g' r q => q v σ F' H' (Same.refl _) g' ?_⟩
  rcases r with ⟨r, hn⟩ | ⟨p, vs, xs, h1, h2, h3, h4, h5, h6, _⟩
  · exact .inl ⟨r, fun _ => hn⟩
  · exact .inr ⟨rfl, p, vs, xs, h1, h2, h6, h3, h4, h5⟩
/-- an own list joins the frozen part -/
theorem Gd.frz {F H : Hp} {σ : Sg} {η : Eta} {ω : Om} {i : Nat} {xs : List D} (g : Gd X.K E0 F H σ η ω) (h0 : 0 < i) (e : look ω i = some xs) :
    ∃ a vs, σ[i]? = some (some (.ref a)) ∧ RpL X.K F vs xs ∧ F a = none ∧ H a = some (.lst vs) ∧ E0.H a = none ∧ Same F (upd F a (.lst vs)) ∧ Gd X.K E0 (upd F a (.lst vs)) H σ η (drp ω i) ∧ Gd X.K E0 F H σ η (drp ω i) := by
  obtain ⟨a, vs, h1, h2, h3, h4⟩ := g.own i xs e
  have hs : (look ω i).isSome = true := by rw [e]; rfl
  have e0 : E0.H a = none := by
    rcases g.own0 i a hs h1 with z | z
    · obtain ⟨x1, x2⟩ := g.par a z
      have := g.dis 0 i a x2 hs x1 h1
      omega
    · exact z
  have sF : Same F (upd F a (.lst vs)) := fun b u e => by rw [upd_ne (ne_of_none e h4)]; exact e
  have lk : ∀ j, (look (drp ω i) j).isSome = true → j ≠ i ∧ (look ω j).isSome = true := fun j h => by
    rw [look_drp] at h
    split at h
    · cases h
    · rename_i hj; exact ⟨hj, h⟩
  refine ⟨a, vs, h1, h3, h4, h2, e0, sF, ⟨fun b u e => ?_, g.len, fun j d e => ?_, fun j ys e => ?_, fun j l b h1 h2 => g.dis j l b (lk _ h1).2 (lk _ h2).2, g.ext0.trans sF, g.frm0, fun b u e n => ?_, fun j b h => g.own0 j b (lk _ h).2, fun b e => ?_⟩,
    ⟨g.sub, g.len, g.val, fun j ys e => ?_, fun j l b h1 h2 => g.dis j l b (lk _ h1).2 (lk _ h2).2, g.ext0, g.frm0, g.new0, fun j b h => g.own0 j b (lk _ h).2, fun b e => ?_⟩⟩
  · by_cases hb : b = a
    · subst hb; rw [upd_same] at e; rw [h2]; exact e
    · rw [upd_ne hb] at e; exact g.sub b u e
  · obtain ⟨v, y1, y2⟩ := g.val j d e
    exact ⟨v, y1, y2.mono sF⟩
  · rw [look_drp] at e
    split at e
    · cases e
    · rename_i hj
      obtain ⟨b, us, y1, y2, y3, y4⟩ := g.own j ys e
      have ne : b ≠ a := fun z => hj (g.dis j i b (by rw [e]; rfl) hs y1 (z ▸ h1))
      exact ⟨b, us, y1, y2, y3.mono sF, by rw [upd_ne ne]; exact y4⟩
  · by_cases hb : b = a
    · subst hb; exact e0
    · rw [upd_ne hb] at e; exact g.new0 b u e n
  · obtain ⟨x1, x2⟩ := g.par b e
    refine ⟨x1, ?_⟩
    rw [look_drp, if_neg (by omega)]
    exact x2
  · rw [look_drp] at e
    split at e
    · cases e
    · exact g.own j ys e
  · obtain ⟨x1, x2⟩ := g.par b e
    refine ⟨x1, ?_⟩
    rw [look_drp, if_neg (by omega)]
    exact x2
/-- an own list is handed back -/
theorem s_retO {i : Nat} {x : Str} {p : Pos} (hN : X.N[i]? = some x) (hv : Vis X.env.scope x) (hd : (x == ("__debug__" : Str)) = false) (hcd : (x == ("__classdict__" : Str)) = false) : PS X (.Return (some (.Name x p)) pos) (tSt (pm X cA) W fr fun η ω => if 0 < i then popS ω i fun xs => .rt (.lst xs) η (drp ω i) else .st) := (ps_ret (pe_var hN hv hd hcd)).imp fun Dn σ H ⟨E0, F, η, ω, g, h⟩ => by
  obtain ⟨h0, h⟩ := ite_S h
  obtain ⟨xs, e, h⟩ := onS_ok h
  obtain ⟨a, vs, h1, h3, h4, h2, e0, sF, g2, g3⟩ := g.frz h0 e
  refine ⟨.ref a, h1, ?_⟩
  cases fr with
  | true => exact h _ σ F H (Same.refl _) g3 (.inr ⟨rfl, a, vs, xs, rfl, rfl, e0, h4, h2, h3⟩)
  | false => exact h _ σ _ H sF g2 (.inl ⟨.lst upd_same (h3.mono sF), fun z => nomatch z⟩)
theorem ss_frz {i : Nat} {sts : List Stmt} (hl : 0 = 0) (h : PSs X sts (tSt (pm X cA) W fr t)) : PSs X sts (tSt (pm X cA) W fr fun η ω => (if 0 < i then popS ω i fun xs => .nx (η.set i (some (.lst xs))) (drp ω i) else .st : OutS).andThen t) := h.imp fun Dn σ H ⟨E0, F, η, ω, g, h⟩ => by
  by_cases h0 : 0 < i
  · dsimp only at h
    rw [if_pos h0] at h
    cases e : look ω i with
    | none => unfold popS at h; rw [e] at h; exact h.elim
    | some xs =>
      unfold popS at h
      rw [e] at h
      obtain ⟨a, vs, h1, h3, h4, h2, e0, sF, g2, g3⟩ := g.frz h0 e
      refine ⟨E0, _, η.set i (some (.lst xs)), drp ω i, ?_, PoS.weak sF h⟩
      refine ⟨g2.sub, by rw [List.length_set]; exact g2.len, fun j d e => ?_, g2.own, g2.dis, g2.ext0, g2.frm0, g2.new0, g2.own0, g2.par⟩
      by_cases hj : j = i
      · subst hj
        rw [List.getElem?_set] at e
        simp only [if_true] at e
        split at e
        · cases e
          exact ⟨_, h1, .lst upd_same (h3.mono sF)⟩
        · cases e
      · rw [List.getElem?_set_ne (Ne.symm hj)] at e
        exact g2.val j d e
  · dsimp only at h
    rw [if_neg h0] at h
    exact h.elim
theorem s_retN : PS X (.Return none pos) (tSt (pm X cA) W fr fun η ω => .rt .non η ω) := ps_retN.imp fun Dn σ H ⟨E0, F, η, ω, g, h⟩ => h .non σ F H (Same.refl _) g (.inl ⟨.non, fun _ => rfl⟩)
theorem s_brk : PS X (.Break pos) (tSt (pm X cA) W fr fun η ω => .bk η ω) := ps_break.imp fun Dn σ H ⟨E0, F, η, ω, g, h⟩ => h σ F H (Same.refl _) g
/-- raise X('..'), X without an own __init__ -/
theorem s_rais {x m : Str} {ci j : Nat} {C : Addr} {bmB : List Value} {B newId initId : String} {p p2 p3 : Pos} (hc : X.calm = true) (tk : Takes X W) (Fb : ExcBaseFacts B newId initId bmB) (q : PySem.W.excIn X.K C bmB newId = true) (gC : X.mg x = some (.ref C)) (kC : PySem.W.keepIn X.K (.ref C) = true) (r : Raises X (.ref C)) (hg : Gl X x) (hdb : (x == ("__debug__" : Str)) = false) (hC : C = cA ci) :
    PS X (.Raise (some (.Call (.Name x p) [.Constant (.str m) j p2] [] p3)) none pos) (tSt (pm X cA) W fr fun η ω => (Out.ok ([] : List D) ω).on fun ds ω => .ex ci ds ω) := (ps_raise hc tk (pmk_own Fb q gC kC r hg hdb)).imp fun Dn σ H ⟨E0, F, η, ω, g, h⟩ => by
  have := h σ η F H (Same.refl _) g
  subst hC
  exact this
end
end Mp

/-! Mp: chained comparisons as tests; comprehensions that are lists of their own. -/
namespace Mp
open PySem PySem.Spec PyProof.Rows L2
section
variable {X : Cx} {cA : Nat → Addr} {W : WX} {E0 : Ent}
variable {a b c d e : Expr} {fa fb fc fd fe : Eta → M D} {pos : Pos}
theorem tB_val {f : Eta → M D} {σ : Sg} {H : Hp} {Q : Bool → Hp → Prop} (h : tB (pm X cA) W (asB f) σ H Q) : tE (pm X cA) W f σ H fun x H1 => ∃ k, x = .bl k ∧ Q k H1 := by
  obtain ⟨E0, F, η, ω, g, h⟩ := h
  refine ⟨E0, F, η, ω, g, PoE.bnd h fun x ω' v F' H' e s g' r q => ?_⟩
  obtain ⟨b, e, q⟩ := PoE.of q
  cases x with
  | bl k =>
    cases r
    cases e
    exact ⟨_, rfl, q _ F' H' (Same.refl _) g' rfl⟩
  | _ => cases e
theorem ch2_imp (o p : Cm) {σ : Sg} {H : Hp} {Q : VK} (h : tE (pm X cA) W (fun η ω => (fa η ω).bnd fun x ω => (fb η ω).bnd fun y ω => onO (cmpD o x y) ((fc η ω).bnd fun z ω => Out.of ω ((cmpD p y z).map .bl)) (.ok (.bl false) ω)) σ H Q) :
    tChain (rCm X.K o) (rCm X.K p) (tE (pm X cA) W fa) (tE (pm X cA) W fb) (tE (pm X cA) W fc) σ H Q := by
  obtain ⟨E0, F, η, ω, g, h⟩ := h
  refine ⟨E0, F, η, ω, g, PoE.bnd h fun x ω1 v F1 H1 e1 s1 g1 rx q => ?_⟩
  refine ⟨E0, F1, η, ω1, g1, PoE.bnd q fun y ω2 u F2 H2 e2 s2 g2 ry q => ?_⟩
  obtain ⟨k, e3, q⟩ := onO_ok q
  refine ⟨F2, x, y, .bl k, g2.sub, .inl (rx.mono s2), .inl ry, by dsimp only; rw [e3]; rfl, ?_⟩
  refine finV_of g2 fun w F3 H3 s3 g3 r3 => ?_
  cases r3
  refine ⟨k, rfl, ?_⟩
  have q := PoE.weak s3 q
  cases k
  · exact q _ F3 H3 (Same.refl _) g3 (.bl _)
  · refine ⟨E0, F3, η, ω2, g3, PoE.bnd q fun z ω4 t F4 H4 e4 s4 g4 rz q => ?_⟩
    obtain ⟨z', e5, q⟩ := PoE.of q
    exact ⟨F4, y, z, z', g4.sub, .inl ((ry.mono s3).mono s4), .inl rz, e5, finV_of g4 q⟩
theorem t_ch2 (o p : Cm) (hu : X.A.units + 65 < cLine) (ha : PE X a (tE (pm X cA) W fa)) (hb : PE X b (tE (pm X cA) W fb)) (hc : PE X c (tE (pm X cA) W fc)) (hm : lastMarks [cmOf o, cmOf p] [b, c] = false) :
    PT X (.Compare a [cmOf o, cmOf p] [b, c] pos) (tB (pm X cA) W (asB fun η ω => (fa η ω).bnd fun x ω => (fb η ω).bnd fun y ω => onO (cmpD o x y) ((fc η ω).bnd fun z ω => Out.of ω ((cmpD p y z).map .bl)) (.ok (.bl false) ω))) :=
  (pt_chain (r_cm o hu) (r_cm p hu) ha hb hc hm).imp fun σ H Q h => ch2_imp o p (tB_val h)
theorem ch3_imp (o p q : Cm) {σ : Sg} {H : Hp} {Q : VK} (h : tE (pm X cA) W (fun η ω => (fa η ω).bnd fun x ω => (fb η ω).bnd fun y ω => onO (cmpD o x y) ((fc η ω).bnd fun z ω => onO (cmpD p y z) ((fd η ω).bnd fun w ω => Out.of ω ((cmpD q z w).map .bl)) (.ok (.bl false) ω)) (.ok (.bl false) ω)) σ H Q) :
    tE (pm X cA) W fa σ H fun v H1 => tE (pm X cA) W fb σ H1 fun u H2 => rCm X.K o v u H2 fun z H3 => ∃ k, z = .bl k ∧ if k = true then (tE (pm X cA) W fc σ H3 fun t H4 => rCm X.K p u t H4 fun z H5 => ∃ k, z = .bl k ∧ if k = true then (tE (pm X cA) W fd σ H5 fun w H6 => rCm X.K q t w H6 Q) else Q (.bl false) H5) else Q (.bl false) H3 := by
  obtain ⟨E0, F, η, ω, g, h⟩ := h
  refine ⟨E0, F, η, ω, g, PoE.bnd h fun x ω1 v F1 H1 e1 s1 g1 rx q => ?_⟩
  refine ⟨E0, F1, η, ω1, g1, PoE.bnd q fun y ω2 u F2 H2 e2 s2 g2 ry q => ?_⟩
  obtain ⟨k, e3, q⟩ := onO_ok q
  refine ⟨F2, x, y, .bl k, g2.sub, .inl (rx.mono s2), .inl ry, by dsimp only; rw [e3]; rfl, ?_⟩
  refine finV_of g2 fun w F3 H3 s3 g3 r3 => ?_
  cases r3
  refine ⟨k, rfl, ?_⟩
  have q := PoE.weak s3 q
  cases k
  · exact q _ F3 H3 (Same.refl _) g3 (.bl _)
  · refine ⟨E0, F3, η, ω2, g3, PoE.bnd q fun z ω4 t F4 H4 e4 s4 g4 rz q => ?_⟩
    obtain ⟨k, e5, q⟩ := onO_ok q
    refine ⟨F4, y, z, .bl k, g4.sub, .inl ((ry.mono s3).mono s4), .inl rz, by dsimp only; rw [e5]; rfl, ?_⟩
    refine finV_of g4 fun w F5 H5 s5 g5 r5 => ?_
    cases r5
    refine ⟨k, rfl, ?_⟩
    have q := PoE.weak s5 q
    cases k
    · exact q _ F5 H5 (Same.refl _) g5 (.bl _)
    · refine ⟨E0, F5, η, ω4, g5, PoE.bnd q fun w ω6 t' F6 H6 e6 s6 g6 rw' q => ?_⟩
      obtain ⟨z', e7, q⟩ := PoE.of q
      exact ⟨F6, z, w, z', g6.sub, .inl ((rz.mono s5).mono s6), .inl rw', e7, finV_of g6 q⟩
theorem t_ch3 (o p q : Cm) (hu : X.A.units + 65 < cLine) (ha : PE X a (tE (pm X cA) W fa)) (hb : PE X b (tE (pm X cA) W fb)) (hc : PE X c (tE (pm X cA) W fc)) (hd : PE X d (tE (pm X cA) W fd)) (hm : lastMarks [cmOf o, cmOf p, cmOf q] [b, c, d] = false) :
    PT X (.Compare a [cmOf o, cmOf p, cmOf q] [b, c, d] pos) (tB (pm X cA) W (asB fun η ω => (fa η ω).bnd fun x ω => (fb η ω).bnd fun y ω => onO (cmpD o x y) ((fc η ω).bnd fun z ω => onO (cmpD p y z) ((fd η ω).bnd fun w ω => Out.of ω ((cmpD q z w).map .bl)) (.ok (.bl false) ω)) (.ok (.bl false) ω))) := by
  refine ⟨fun pins s σ H Q I hh => ?_⟩
  have h1 := ch3_imp o p q (tB_val hh)
  refine isTrue_chain (thn (ha.run pins s σ H _ I h1) fun v s1 ⟨x, H1, I1, r1, q1⟩ => test_link (thn (hb.run pins s1 σ H1 _ I1 q1) fun u s2 ⟨y, H2, I2, r2, q2⟩ =>
    thn (r_cm o hu pins s2 σ H2 x y v u _ I2 r1 r2 q2) fun d s3 ⟨z, H3, I3, r3, k, e, q3⟩ => ?_)) hm
  subst e
  cases r3
  refine wpAny_truthy_bool ?_
  cases k with
  | false =>
    obtain ⟨k', e', q'⟩ := q3
    cases e'
    exact ite_ff ⟨H3, I3, q'⟩
  | true =>
    refine ite_tt (test_link (thn (hc.run pins s3 σ H3 _ I3 q3) fun u' s4 ⟨y', H4, I4, r4, q4⟩ => thn (r_cm p hu pins s4 σ H4 y y' u u' _ I4 r2 r4 q4) fun d' s5 ⟨z, H5, I5, r5, k, e, q5⟩ => ?_))
    subst e
    cases r5
    refine wpAny_truthy_bool ?_
    cases k with
    | false =>
      obtain ⟨k', e', q'⟩ := q5
      cases e'
      exact ite_ff ⟨H5, I5, q'⟩
    | true =>
      refine ite_tt (test_last (thn (hd.run pins s5 σ H5 _ I5 q5) fun w' s6 ⟨z', H6, I6, r6, q6⟩ => thn (r_cm q hu pins s6 σ H6 y' z' u' w' _ I6 r4 r6 q6) fun d' s7 ⟨z2, H7, I7, r7, k2, e2, q7⟩ => ?_))
      subst e2
      cases r7
      exact wpAny_truthy_bool ⟨H7, I7, q7⟩
theorem isN_imp {σ : Sg} {H : Hp} {Q : Bool → Hp → Prop} (h : tB (pm X cA) W (asB fun η ω => (fa η ω).bnd fun x ω => .ok (.bl (isNon x)) ω) σ H Q) : tE (pm X cA) W fa σ H fun x H1 => ∃ c, V.bl (decide (x = V.non)) = .bl c ∧ Q c H1 := by
  obtain ⟨E0, F, η, ω, g, h⟩ := tB_val h
  refine ⟨E0, F, η, ω, g, PoE.bnd h fun x ω' v F' H' e s g' r q => ?_⟩
  have : decide (v = V.non) = isNon x := by cases r <;> rfl
  rw [this]
  exact q _ F' H' (Same.refl _) g' (.bl _)
theorem notN_imp {σ : Sg} {H : Hp} {Q : Bool → Hp → Prop} (h : tB (pm X cA) W (asB fun η ω => (fa η ω).bnd fun x ω => .ok (.bl (!isNon x)) ω) σ H Q) : tE (pm X cA) W fa σ H fun x H1 => ∃ c, V.bl (!decide (x = V.non)) = .bl c ∧ Q c H1 := by
  obtain ⟨E0, F, η, ω, g, h⟩ := tB_val h
  refine ⟨E0, F, η, ω, g, PoE.bnd h fun x ω' v F' H' e s g' r q => ?_⟩
  have : decide (v = V.non) = isNon x := by cases r <;> rfl
  rw [this]
  exact q _ F' H' (Same.refl _) g' (.bl _)
theorem t_isN {j p'} (ha : PE X a (tE (pm X cA) W fa)) : PT X (.Compare a [.Is] [.Constant .none j p'] pos) (tB (pm X cA) W (asB fun η ω => (fa η ω).bnd fun x ω => .ok (.bl (isNon x)) ω)) := (pt_cmp (pc_isN ha) rfl).imp fun σ H Q h => isN_imp h
theorem t_notN {j p'} (ha : PE X a (tE (pm X cA) W fa)) : PT X (.Compare a [.IsNot] [.Constant .none j p'] pos) (tB (pm X cA) W (asB fun η ω => (fa η ω).bnd fun x ω => .ok (.bl (!isNon x)) ω)) := (pt_cmp (pc_notN ha) rfl).imp fun σ H Q h => notN_imp h
/-! ### comprehensions read -/
variable {fi : Eta → M D} {fcc : Eta → M Bool} {tg : List Nat} {one : Bool}
def compM (fi : Eta → M D) (fcc : Eta → M Bool) (fe : Eta → M D) (tg : List Nat) (one : Bool) : Eta → M D := fun η ω => (fi η ω).bnd fun x ω => match itemsD x with
  | none => .st
  | some xs => (compGo (ctake fcc fe) tg one η xs [] ω).bnd fun ys ω => .ok (.lst ys) ω
abbrev tLcM (X : Cx) (cA : Nat → Addr) (W : WX) (fi : Eta → M D) (fcc : Eta → M Bool) (fe : Eta → M D) (tg : List Nat) (one : Bool) : TE := tLc (tI (pm X cA) W fi) (gTg X.K tg one) (tB (pm X cA) W0 fcc) (tE (pm X cA) W0 fe) tg
theorem lcE {σ : Sg} {H : Hp} {Q : VK} (h : tE (pm X cA) W (compM fi fcc fe tg one) σ H Q) : tLcM X cA W fi fcc fe tg one σ H Q :=
  lc_read (R := fun _ => RE X.K) (fun E0 F2 Hn η ω2 acc ds p g e1 e2 r e3 e4 no => by
    obtain ⟨g2, s2⟩ := g.adopt e2 e1 e3 no
    exact ⟨_, s2, g2, .lst upd_same (r.mono s2)⟩) h
theorem lcF {σ : Sg} {H : Hp} {Q : VK} (h : tF (pm X cA) W (compM fi fcc fe tg one) σ H Q) : tLcM X cA W fi fcc fe tg one σ H Q :=
  lc_read (R := fun E0 => RvF X.K E0 σ) (fun E0 F2 Hn η ω2 acc ds p g e1 e2 r e3 e4 no => ⟨_, Same.refl _, g, .inr ⟨p, acc, ds, rfl, rfl, e1, e2, r, e3, e4, no⟩⟩) h
end
end Mp

/-! Mp: a star in front; lists that are made, changed and dropped. -/
namespace Mp
open PySem PySem.Spec PyProof.Rows L2
def nmOk' (x : Str) : Bool := !(x == ("__debug__" : Str)) && !(x == ("__classdict__" : Str))
section
variable {X : Cx} {cA : Nat → Addr} {W : WX} {E0 : Ent}
variable {a b c d e : Expr} {es : List Expr} {fa fb fc fe : Eta → M D} {fes : Eta → M (List D)} {pos p : Pos}
def splM (fa : Eta → M D) (fes : Eta → M (List D)) : Eta → M (List D) := fun η ω => (fa η ω).bnd fun x ω => match splD x with
  | some ys => (fes η ω).bnd fun xs ω => .ok (ys ++ xs) ω
  | none => .st
theorem a_splat (ha : PE X a (tE (pm X cA) W fa)) (hr : PA X es (tA (pm X cA) W fes)) : PA X (.Starred a p :: es) (tA (pm X cA) W (splM fa fes)) := (StX.pa_star ha hr rfl).imp fun σ H Q ⟨E0, F, η, ω, g, h⟩ => by
  refine ⟨E0, F, η, ω, g, PoE.bnd h fun x ω1 v F1 H1 e1 s1 g1 rx q => ?_⟩
  have go : ∀ (ys : List D) (vs : List V) (p : Addr), splD x = some ys → v = .ref p → (SqT X.K H1 p vs ∨ SqL X.K H1 p vs) → RpL X.K F1 vs ys → ∃ p xs, v = V.ref p ∧ (SqT X.K H1 p xs ∨ SqL X.K H1 p xs) ∧ tA (pm X cA) W fes σ H1 fun ys H2 => Q (xs ++ ys) H2 := fun ys vs p hs hv hq r => by
    rw [hs] at q
    refine ⟨p, vs, hv, hq, E0, F1, η, ω1, g1, PoE.bnd q fun zs ω2 ws F2 H2 e2 s2 g2 rz q => ?_⟩
    exact q _ F2 H2 (Same.refl _) g2 ((r.mono s2).append rz)
  cases x with
  | lst ys =>
    cases rx with
    | lst h1 h2 => exact go ys _ _ rfl rfl (.inr (SqL.of (g1.sub _ _ h1))) h2
  | tup ys =>
    cases rx with
    | tup h1 h2 => exact go ys _ _ rfl rfl (.inl (SqT.of (g1.sub _ _ h1))) h2
  | _ => exact q.elim
/-! ### lists of their own, several -/
inductive FshL (K : PySem.W.Frag) (E0 : Ent) (σ : Sg) (ω : Om) (F H : Hp) : List V → List D → Prop
  | nil : FshL K E0 σ ω F H [] []
  | cons {p : Addr} {ws vr : List V} {xs dr : List D} (h1 : F p = none) (h2 : H p = some (.lst ws)) (h3 : ws.length = xs.length) (h4 : E0.H p = none) (h5 : E0.a ≠ some p) (h6 : ∀ i, (look ω i).isSome = true → σ[i]? ≠ some (some (.ref p))) (r : FshL K E0 σ ω F H vr dr) : FshL K E0 σ ω F H (.ref p :: vr) (.lst xs :: dr)
def tAF (P : Pm) (W : WX) (f : Eta → M (List D)) : TA := fun σ H Q => ∃ E0 F η ω, Gd P.K E0 F H σ η ω ∧ PoE P (FshL P.K E0 σ) W E0 F σ η Q (f η ω)
def fconsM (fe : Eta → M D) (fes : Eta → M (List D)) : Eta → M (List D) := fun η ω => (fe η ω).bnd fun x ω => match isLst x with
  | some _ => (fes η ω).bnd fun xs ω => .ok (x :: xs) ω
  | none => .st
theorem FshL.unw {K : PySem.W.Frag} {σ : Sg} {ω : Om} {F H : Hp} {q : Addr} {o : HO} {vs : List V} {ds : List D} (h0 : E0.H q = none) (h : FshL K (E0.with q o) σ ω F H vs ds) : FshL K E0 σ ω F H vs ds := by
  induction h with
  | nil => exact .nil
  | cons h1 h2 h3 h4 h5 h6 r ih =>
    refine .cons h1 h2 h3 ?_ h5 h6 ih
    have z : (if _ = q then some o else E0.H _) = none := h4
    split at z
    · cases z
    · exact z
theorem af_nil : PA X [] (tAF (pm X cA) W fun _ ω => .ok [] ω) := pa_nil.imp fun σ H Q ⟨E0, F, η, ω, g, h⟩ => h _ F H (Same.refl F) g .nil
theorem af_cons (he : PE X e (tF (pm X cA) W fe)) (hr : PA X es (tAF (pm X cA) W fes)) (hs : starEach (e :: es) X.env = (false, eval e X.env) :: starEach es X.env) : PA X (e :: es) (tAF (pm X cA) W (fconsM fe fes)) := (pa_cons he hr hs).imp fun σ H Q ⟨E0, F, η, ω, g, h⟩ => by
  refine ⟨E0, F, η, ω, g, PoE.bnd (R := RvF X.K E0 σ) h fun x ω1 v F1 H1 e1 s1 g1 rx q => ?_⟩
  cases x with
  | lst ys =>
    rcases rx with ⟨_, z⟩ | ⟨p, vs, xs, rfl, ex, h1, h2, h3, h4, h5, h6⟩
    · cases z
    · cases ex
      have e0F : E0.F p = none := by
        cases z : E0.F p with
        | none => rfl
        | some u => have := g1.ext0 _ _ z; rw [h1] at this; cases this
      have q' : PoE (pm X cA) (FshL X.K E0 σ) W E0 F1 σ η Q ((fes η ω1).bnd fun xs ω => .ok (.lst ys :: xs) ω) := q
      refine ⟨E0.with p (.lst vs), F1, η, ω1, g1.guard h2 h1 h6, ?_⟩
      cases e2 : fes η ω1 with
      | st => rw [e2] at q'; exact q'
      | ex c pp ω2 =>
        rw [e2] at q'
        intro F' H' s g'
        rcases g'.unguard h4 h5 with ⟨u, _, _⟩ | u
        · exact q' F' H' s u
        · exact absurd e0F u
      | ok ds ω2 =>
        rw [e2] at q'
        intro ws F2 H2 s2 g2 r2
        rcases g2.unguard h4 h5 with ⟨u1, u2, u3⟩ | u
        · exact q' (.ref p :: ws) F2 H2 s2 u1 (.cons u3 u2 h3.length h4 h5 (g2.guard_own h5) (r2.unw h4))
        · exact absurd e0F u
  | _ => exact q.elim
/-- what stands at the places -/
def Lsts (H : Hp) (n : Nat) (vs : List V) : Prop := ∀ v ∈ vs, ∃ (p : Addr) (ws : List V), v = .ref p ∧ H p = some (.lst ws) ∧ ws.length + n < sizeLine
/-- other objects may stand there; what the frames know stays -/
structure Off (E0 : Ent) (F : Hp) (σ : Sg) (ω : Om) (p : Addr) : Prop where
  f : F p = none
  h : E0.H p = none
  a : E0.a ≠ some p
  o : ∀ i, (look ω i).isSome = true → σ[i]? ≠ some (some (.ref p))
theorem FshL.spl {K : PySem.W.Frag} {σ : Sg} {ω : Om} {F H : Hp} {vs : List V} {ds : List D} (h : FshL K E0 σ ω F H vs ds) (hl : ds.all (fun d => match d with
  | .lst ys => decide (ys.length + 1000 < sizeLine)
  | _ => false) = true) : (∀ v ∈ vs, ∃ (p : Addr) (ws : List V), v = .ref p ∧ H p = some (.lst ws) ∧ ws.length + 1000 < sizeLine ∧ Off E0 F σ ω p) ∧ vs.length = ds.length := by
  induction h with
  | nil => exact ⟨fun v hv => (by cases hv), rfl⟩
  | cons h1 h2 h3 h4 h5 h6 r ih =>
    simp only [List.all_cons, Bool.and_eq_true, decide_eq_true_eq] at hl
    obtain ⟨i1, i2⟩ := ih hl.2
    refine ⟨fun v hv => ?_, by simp only [List.length_cons, i2]⟩
    rcases List.mem_cons.mp hv with e | e
    · exact ⟨_, _, e, h2, by rw [h3]; exact hl.1, h1, h4, h5, h6⟩
    · exact i1 v e
theorem Gd.free2 {F H : Hp} {σ : Sg} {η : Eta} {ω : Om} {i : Nat} (g : Gd X.K E0 F H σ η ω) (hi : look ω i = none) (v : V) : Gd X.K E0 F H (σ.set i (some v)) (η.set i none) ω := by
  have ne : ∀ j, (look ω j).isSome = true → j ≠ i := fun j h e => by rw [e, hi] at h; cases h
  refine ⟨g.sub, by rw [List.length_set, List.length_set]; exact g.len, fun j d e => ?_, fun j ys e => ?_, fun j l a h1 h2 e1 e2 => ?_, g.ext0, g.frm0, g.new0, fun j a h e => ?_, fun a e => ?_⟩
  · by_cases hj : j = i
    · subst hj
      rw [List.getElem?_set] at e
      simp only [if_true] at e
      split at e <;> cases e
    · rw [List.getElem?_set_ne (Ne.symm hj)] at e
      rw [List.getElem?_set_ne (Ne.symm hj)]
      exact g.val j d e
  · have := ne j (by rw [e]; rfl)
    rw [List.getElem?_set_ne (Ne.symm this)]
    exact g.own j ys e
  · rw [List.getElem?_set_ne (Ne.symm (ne j h1))] at e1
    rw [List.getElem?_set_ne (Ne.symm (ne l h2))] at e2
    exact g.dis j l a h1 h2 e1 e2
  · rw [List.getElem?_set_ne (Ne.symm (ne j h))] at e
    exact g.own0 j a h e
  · obtain ⟨x1, x2⟩ := g.par a e
    exact ⟨by rw [List.getElem?_set_ne (Ne.symm (ne 0 x2))]; exact x1, x2⟩
theorem Gd.forget {F H : Hp} {σ : Sg} {η : Eta} {ω : Om} (g : Gd X.K E0 F H σ η ω) (j : Nat) : Gd X.K E0 F H σ (η.set j none) ω := by
  refine ⟨g.sub, by rw [List.length_set]; exact g.len, fun l d e => ?_, g.own, g.dis, g.ext0, g.frm0, g.new0, g.own0, g.par⟩
  by_cases hj : l = j
  · subst hj
    rw [List.getElem?_set] at e
    simp only [if_true] at e
    split at e <;> cases e
  · rw [List.getElem?_set_ne (Ne.symm hj)] at e
    exact g.val l d e
variable {fr : Bool} {t : SM} {rest : List Stmt}
theorem ss_spoil {i j : Nat} {x y : Str} {px px2 py py2 pl pos1 pos2 pos3 ap p4 p5 : Pos} {n : Int} {kk : Nat} (hp : PassesOwn (model X.prog X.w) X.A X.env X.xe) (hc : X.calm = true) (hN : X.N.Nodup) (hij : i ≠ j) (hi : X.N[i]? = some x) (hj : X.N[j]? = some y) (hx : L2.Loc X.env.scope x) (hy : L2.Loc X.env.scope y) (hfn : ∀ z, X.fn z = true)
    (hxd : nmOk' x = true) (hyd : nmOk' y = true) (hA : PA X es (tA (pm X cA) W fes)) (hline : (ap.endLine == p5.line) = true)
    (hr : PSs X rest (tSt (pm X cA) W fr t)) :
    PSs X (.Assign [.Name x px] (.List es pl) pos1 :: .For (.Name y py) (.Name x px2) [.Expr (.Call (.Attribute (.Name y py2) "append" ap) [.Constant (.int n) kk p4] [] p5) pos3] [] pos2 :: rest)
      (tSt (pm X cA) W fr fun η ω => (if (look ω i).isSome || (look ω j).isSome || !(decide (i < η.length)) || !(decide (j < η.length)) then .st else match fes (List.replicate η.length none) [] with
        | .ok xs _ => if spOk xs then .nx ((η.set i none).set j none) ω else .st
        | _ => .st : OutS).andThen t) := by
  have dx : (x == ("__debug__" : Str)) = false ∧ (x == ("__classdict__" : Str)) = false := by unfold nmOk' at hxd; simpa using hxd
  have dy : (y == ("__debug__" : Str)) = false ∧ (y == ("__classdict__" : Str)) = false := by unfold nmOk' at hyd; simpa using hyd
  have vx : Vis X.env.scope x := by rcases hx with z | z <;> simp [Vis, z]
  have vy : Vis X.env.scope y := by rcases hy with z | z <;> simp [Vis, z]
  have S1 := ps_set (pos := pos1) (pos' := px) hN hi hx (pe_lst (pos := pl) hA) rfl (.inl (hfn _))
  have B := ps_expr (pos := pos3) (pe_bm (cpos := p5) PySem.F.plainAttrs_list PySem.F.slot_list_append PySem.F.type_list_append mt_append (pe_var (pos := py2) hj vy dy.1 dy.2) (pa_cons (pe_int (i := n) (j := kk) (pos := p4)) pa_nil rfl) rfl rfl hline rfl rfl) rfl
  have S2 := ps_for (pos := pos2) hp hc (pi_list (tg := .Name y py) (pe_var (pos := px2) hi vx dx.1 dx.2)) (pg_name hN hj hy (.inl (hfn _))) (pss_one B) (fun _ => rfl)
  refine (pss_cons S1 (pss_cons S2 hr)).imp fun Dn σ H ⟨E0, F, η, ω, g, h⟩ => ?_
  dsimp only at h
  split at h
  · exact h.elim
  rename_i hz
  have li : i < η.length := by simp_all
  have lj : j < η.length := by simp_all
  have hno' : look ω i = none ∧ look ω j = none := by
    cases q1 : look ω i <;> cases q2 : look ω j <;> simp_all
  cases e1 : fes (List.replicate η.length none) [] with
  | st => rw [e1] at h; exact h.elim
  | ex c p ω' => rw [e1] at h; exact h.elim
  | ok ds ω2 =>
  rw [e1] at h
  dsimp only at h
  split at h
  rotate_left
  · exact h.elim
  rename_i hok
  have q : PoS (pm X cA) W E0 fr F Dn (t ((η.set i none).set j none) ω) := h
  obtain ⟨hsz, hall⟩ : decide (ds.length ≤ 1000) = true ∧ ds.all _ = true := by
    have : (decide (ds.length ≤ 1000) && ds.all _) = true := hok
    simpa using this
  have hsz := of_decide_eq_true hsz
  have gz : Gd X.K ⟨fun _ => none, H, none⟩ (fun _ => none) H σ (List.replicate η.length none) [] := by
    refine ⟨fun b o e => (by cases e), by rw [List.length_replicate]; exact g.len, fun l d e => ?_, fun l xs e => (by cases e), fun l m a e => (by cases e), Same.refl _, fun b o e _ => e, fun b o e => (by cases e), fun l a e => (by cases e), fun a e => (by cases e)⟩
    rw [List.getElem?_replicate] at e
    split at e <;> cases e
  refine ⟨⟨fun _ => none, H, none⟩, fun _ => none, List.replicate η.length none, [], gz, ?_⟩
  rw [e1]
  intro vs F' H1 _ g' r1
  have keep : ∀ b o, H b = some o → H1 b = some o := fun b o e => g'.frm0 b o e (fun z => by cases z)
  have g1 : Gd X.K E0 F H1 σ η ω := by
    refine ⟨fun b u e => keep _ _ (g.sub b u e), g.len, g.val, fun l xs e => ?_, g.dis, g.ext0, fun b u e n => keep _ _ (g.frm0 b u e n), g.new0, g.own0, g.par⟩
    obtain ⟨a, ws, x1, x2, x3, x4⟩ := g.own l xs e
    exact ⟨a, ws, x1, keep _ _ x2, x3, x4⟩
  have hls : ∀ v ∈ vs, ∃ (p : Addr) (ws : List V), v = .ref p ∧ H1 p = some (.lst ws) ∧ ws.length + 1000 < sizeLine ∧ Off E0 F σ ω p := by
    intro v hv
    obtain ⟨n, hn⟩ := List.mem_iff_getElem?.mp hv
    obtain ⟨d, hd, rd⟩ := r1.getV hn
    have hd2 := List.all_eq_true.mp hall d (List.mem_of_getElem? hd)
    cases d with
    | lst ys =>
      have hy := of_decide_eq_true (show decide (ys.length + 1000 < sizeLine) = true from hd2)
      cases rd with
      | lst h1 h2 =>
        have hp := g'.new0 _ _ h1 rfl
        obtain ⟨y1, y2, y3, y4⟩ := g.fresh hp
        exact ⟨_, _, rfl, g'.sub _ _ h1, by rw [h2.length]; exact hy, y3, y1, y2, y4⟩
    | _ => cases hd2
  have hlen := r1.length
  have Fs1 : Same F F := Same.refl _
  refine ⟨by rw [hlen]; exact Nat.le_trans hsz (by decide), fun D hD => ?_⟩
  obtain ⟨z1, z2, z3, z4⟩ := g1.fresh hD
  -- the list stands at D
  have gD : Gd X.K E0 F (upd H1 D (.lst vs)) σ η ω := g1.other z3 z1 z4
  have nD : ∀ p ws, H1 p = some (.lst ws) → p ≠ D := fun p ws e z => by rw [z, hD] at e; cases e
  have li' : i < σ.length := Nat.lt_of_lt_of_le li g.len
  have lj' : j < σ.length := Nat.lt_of_lt_of_le lj g.len
  have at_i : (σ.set i (some (V.ref D)))[i]? = some (some (V.ref D)) := List.getElem?_set_self li'
  have key : tFor (iList X.K (tVar i)) (gName j) (tDrop (tBM X.K "list" rAppend (tVar j) (tCons (tC (V.int n)) tNil))) { Dn with nx := tSt (pm X cA) W fr t Dn } (σ.set i (some (.ref D))) (upd H1 D (.lst vs)) := by
    refine ⟨.ref D, at_i, D, rfl, ⟨vs, SqL.of upd_same⟩, fun k m σn Hn => m = vs.length - k ∧ k ≤ vs.length ∧ (σn = σ.set i (some (.ref D)) ∨ ∃ u, σn = (σ.set i (some (.ref D))).set j (some u)) ∧ Gd X.K E0 F Hn σ η ω ∧ Hn D = some (.lst vs) ∧
      (∀ v ∈ vs, ∃ (p : Addr) (ws : List V), v = .ref p ∧ Hn p = some (.lst ws) ∧ ws.length + (1000 - k) < sizeLine ∧ Off E0 F σ ω p ∧ p ≠ D), ⟨vs.length, by simp, Nat.zero_le _, .inl rfl, gD, upd_same, fun v hv => ?_⟩, ?_⟩
    · obtain ⟨p, ws, e1, e2, e3, e4⟩ := hls v hv
      exact ⟨p, ws, e1, by rw [upd_ne (nD p ws e2)]; exact e2, e3, e4, nD p ws e2⟩
    rintro k m σn Hn ⟨rfl, hk, hσ, gn, hDn, hvs⟩
    by_cases hlt : k < vs.length
    · refine .inr ⟨⟨vs, vs[k], SqL.of hDn, List.getElem?_eq_getElem hlt⟩, fun σx Hx => k + 1 ≤ vs.length ∧ (σx = σ.set i (some (.ref D)) ∨ ∃ u, σx = (σ.set i (some (.ref D))).set j (some u)) ∧ Gd X.K E0 F Hx σ η ω ∧ Hx D = some (.lst vs) ∧
        (∀ v ∈ vs, ∃ (p : Addr) (ws : List V), v = .ref p ∧ Hx p = some (.lst ws) ∧ ws.length + (1000 - (k + 1)) < sizeLine ∧ Off E0 F σ ω p ∧ p ≠ D), fun σ' H' n => ⟨vs.length - (k + 1), by omega, rfl, n⟩, fun v Hy y => ?_⟩
      obtain ⟨rfl, y⟩ := y
      have hv := y vs (SqL.of hDn)
      obtain ⟨p, ws, e1, e2, e3, e4, e5⟩ := hvs v (List.mem_of_getElem? hv)
      subst e1
      have hs2 : ∃ u, σn.set j (some (V.ref p)) = (σ.set i (some (.ref D))).set j (some u) := by
        rcases hσ with e | ⟨u, e⟩
        · exact ⟨_, by rw [e]⟩
        · exact ⟨V.ref p, by rw [e, List.set_set]⟩
      obtain ⟨u, hu⟩ := hs2
      have lj2 : j < σn.length := by
        rcases hσ with e | ⟨u, e⟩ <;> rw [e] <;> simpa using lj'
      refine ⟨.ref p, List.getElem?_set_self lj2, .inl ⟨rfl, ws, SqL.of e2⟩, p, ws, .int n, rfl, rfl, e2, by omega, ?_⟩
      refine ⟨hlt, .inr ⟨u, hu⟩, gn.other e4.f e4.h e4.o, by rw [upd_ne (fun z => e5 z.symm)]; exact hDn, fun v2 hv2 => ?_⟩
      obtain ⟨p2, ws2, f1, f2, f3, f4, f5⟩ := hvs v2 hv2
      by_cases hp : p2 = p
      · subst hp
        rw [e2] at f2
        cases f2
        exact ⟨p2, _, f1, upd_same, by simp only [List.length_append, List.length_cons, List.length_nil]; omega, f4, f5⟩
      · exact ⟨p2, ws2, f1, by rw [upd_ne hp]; exact f2, by omega, f4, f5⟩
    · have ek : k = vs.length := by omega
      subst ek
      refine .inl ⟨⟨vs, SqL.of hDn, Nat.le_refl _⟩, ?_⟩
      refine ⟨E0, F, (η.set i none).set j none, ω, ?_, q⟩
      rcases hσ with e | ⟨u, e⟩
      · rw [e]
        exact (gn.free2 hno'.1 _).forget j
      · rw [e]
        exact (gn.free2 hno'.1 _).free2 hno'.2 _
  exact key
end
end Mp

/-! Mp: is this written text that expression, that statement? The checks and their meaning. -/
namespace Mp
open PySem PySem.Spec PyProof.Rows L2

structure Cfg where
  N : List Str
  T : List Fn
  G : List (Str × D)
  RX : List (Str × Bool)
  KW : List (Nat × List Nat × List Str)
  fr : Bool

def nmOk (x : Str) : Bool := !(x == ("__debug__" : Str)) && !(x == ("__classdict__" : Str))
def visB (sc : Scope) (x : Str) : Bool := match sc.names.lookup x with
  | some .local => true
  | some .cell => true
  | some .free => true
  | _ => false
def locB (sc : Scope) (x : Str) : Bool := match sc.names.lookup x with
  | some .local => true
  | some .cell => true
  | _ => false
def lclB (sc : Scope) (x : Str) : Bool := match sc.names.lookup x with
  | some .local => true
  | _ => false
def glB (sc : Scope) (x : Str) : Bool := match sc.names.lookup x with
  | some .globalImplicit => true
  | _ => false
def nsB : Expr → Bool
  | .Starred .. => false
  | _ => true
def nameI (C : Cfg) (sc : Scope) (i : Nat) : Expr → Bool
  | .Name x _ => decide (C.N[i]? = some x) && visB sc x && nmOk x
  | _ => false
def nameT (C : Cfg) (sc : Scope) (fs : Str → Bool) (i : Nat) : Expr → Bool
  | .Name x _ => decide (C.N[i]? = some x) && locB sc x && (fs x || lclB sc x)
  | _ => false
def tgsB (C : Cfg) (sc : Scope) (fs : Str → Bool) : List Nat → List Expr → Bool
  | [], [] => true
  | i :: is, e :: es => nameT C sc fs i e && tgsB C sc fs is es
  | _, _ => false
def tgB (C : Cfg) (sc : Scope) (fs : Str → Bool) (tg : List Nat) (one : Bool) (e : Expr) : Bool := match one with
  | true => (match tg with
    | [i] => nameT C sc fs i e
    | _ => false)
  | false => (match e with
    | .Tuple es _ _ => tgsB C sc fs tg es
    | _ => false)
/-- no comprehension -/
def ncB : Expr → Bool
  | .ListComp .. => false
  | .SetComp .. => false
  | .DictComp .. => false
  | _ => true
def ntB : Expr → Bool
  | .Tuple .. => false
  | _ => true
def nsetB : Expr → Bool
  | .Set .. => false
  | _ => true
def nslB : Expr → Bool
  | .Slice .. => false
  | _ => true
def atB : Expr → Bool
  | .Call .. => false
  | _ => true
/-- a test that is judged by its value -/
def dflB : Expr → Bool
  | .UnaryOp .. => false
  | .BoolOp .. => false
  | .IfExp .. => false
  | .Compare .. => false
  | _ => true
def isTupB : Expr → Bool
  | .Tuple .. => true
  | _ => false
def bName : Bn → Str
  | .abs => "abs" | .int => "int" | .len => "len" | .sum => "sum" | .max => "max" | .min => "min" | .all => "all" | .any => "any"
  | .list => "list" | .tuple => "tuple" | .sorted => "sorted" | .str => "str" | .divmod => "divmod" | .lrange => "list"
def bDone : Bn → Bool
  | .sorted => false
  | .lrange => false
  | _ => true
def mName : Mt → Str
  | .bitlen => "bit_length" | .index => "index" | .count => "count" | .join => "join" | .split => "split" | .startswith => "startswith"
def bins : List Str := ["abs", "int", "len", "sum", "max", "min", "all", "any", "list", "tuple", "sorted", "str", "divmod", "range", "enumerate", "zip", "isinstance", "bool", "dict"]
def tyE (sc : Scope) (n : String) : Expr → Bool
  | .Name x _ => decide (x = Str.ofString n) && glB sc x && tyNames.contains n
  | _ => false
def tysE (sc : Scope) : List Ty → List Expr → Bool
  | [], [] => true
  | .b n :: r, e :: es => tyE sc n e && tysE sc r es
  | _, _ => false
def isOne {α : Type} : List α → Bool
  | [_] => true
  | _ => false
/-- a comprehension's block -/
def blkB (C : Cfg) (sc scope : Scope) (tg : List Nat) : Bool :=
  decide (scope.kind = .function) && scope.names.all (fun y => decide (scope.names.lookup y.1 = some y.2)) && tg.all (fun i => (C.N[i]?).isSome)
  && scope.names.all (fun y => match y.2 with
    | .free => decide (sc.names.lookup y.1 = some .cell) || decide (sc.names.lookup y.1 = some .free)
    | .local => tg.any (fun i => decide (C.N[i]? = some y.1)) || !(C.N.any fun z => decide (z = y.1))
    | .cell => tg.any (fun i => decide (C.N[i]? = some y.1)) || !(C.N.any fun z => decide (z = y.1))
    | _ => true)

def litEq : D → D → Bool
  | .non, .non => true
  | .bl a, .bl b => a == b
  | .int a, .int b => decide (a = b)
  | .str a, .str b => decide (a = b)
  | _, _ => false
theorem litEq_ok {a b : D} (h : litEq a b = true) : a = b := by
  unfold litEq at h
  split at h <;> simp_all
def isNil : E → Bool
  | .nil => true
  | _ => false
structure Chk where
  e : Scope → Expr → Bool
  t : Scope → Expr → Bool
  w : Scope → Expr → Bool
  a : Scope → List Expr → Bool
  q : Scope → List Expr → Bool
  i : Scope → Expr → Expr → Bool
  f : Scope → Expr → Bool
  g : Scope → List Expr → Bool
  k : Scope → List Keyword → Bool
def noK : Scope → List Keyword → Bool := fun _ _ => false
def no1 : Scope → Expr → Bool := fun _ _ => false
def noA : Scope → List Expr → Bool := fun _ _ => false
def Chk.ofE (f g : Scope → Expr → Bool) : Chk := ⟨f, fun sc ex => dflB ex && f sc ex, no1, noA, noA, fun sc _ ex => f sc ex, g, noA, noK⟩
def Chk.ofI (f : Scope → Expr → Expr → Bool) : Chk := ⟨no1, no1, no1, noA, noA, f, no1, noA, noK⟩
def lC (C : Cfg) (o : Option Nat) (A : Chk) (sc : Scope) (ex : Expr) : Bool := match o with
  | some i => nameI C sc i ex
  | none => A.e sc ex
def opB (o : Op2) (p : Operator) : Bool := decide (p = opOf o)
def cmB (o : Cm) (p : CmpOp) : Bool := decide (p = cmOf o)
def oC (b : Bool) (A : Chk) (sc : Scope) : Option Expr → Bool
  | none => b
  | some e => !b && A.e sc e
def condB (b : Bool) (A : Chk) (sc : Scope) : List Expr → Bool
  | [] => b
  | [c] => !b && A.t sc c
  | _ => false

def chkX (C : Cfg) : E → Chk
  | .cst d => .ofE (fun _ ex => match ex with
      | .Constant .none _ _ => (match d with
        | .non => true
        | _ => false)
      | .Constant (.bool b) _ _ => (match d with
        | .bl c => b == c
        | _ => false)
      | .Constant (.int i) _ _ => (match d with
        | .int j => decide (i = j)
        | _ => false)
      | .Constant (.str i) _ _ => (match d with
        | .str j => decide (i = j)
        | _ => false)
      | _ => false) fun _ ex => match ex with
      | .Constant .none _ _ => (match d with
        | .non => true
        | _ => false)
      | .Constant (.bool b) _ _ => (match d with
        | .bl c => b == c
        | _ => false)
      | .Constant (.int i) _ _ => (match d with
        | .int j => decide (i = j)
        | _ => false)
      | .Constant (.str i) _ _ => (match d with
        | .str j => decide (i = j)
        | _ => false)
      | _ => false
  | .glo n d => .ofE (fun sc ex => match ex with
      | .Name x _ => decide (x = n) && glB sc x && nmOk x && C.G.any fun p => decide (p.1 = x) && litEq p.2 d
      | _ => false) no1
  | .var i => .ofE (fun sc ex => nameI C sc i ex) no1
  | .own _ => .ofE no1 no1
  | .neg a => let A := chkX C a; .ofE (fun sc ex => match ex with
      | .UnaryOp .USub x _ => A.e sc x
      | _ => false) no1
  | .bin o a b => let A := chkX C a; let B := chkX C b; .ofE (fun sc ex => match ex with
      | .BinOp x p y _ => opB o p && lC C (late a) A sc x && lC C (late b) B sc y
      | _ => false) fun sc ex => match ex with
      | .BinOp x p y _ => (decide (o = .add) || decide (o = .mul)) && opB o p && lC C (late a) A sc x && lC C (late b) B sc y
      | _ => false
  | .cmp o a b => let A := chkX C a; let B := chkX C b
    let f := fun sc ex => match ex with
      | .Compare x [p] [y] _ => cmB o p && lC C (late a) A sc x && lC C (late b) B sc y && nsetB y
      | _ => false
    ⟨f, f, no1, noA, noA, fun sc _ ex => f sc ex, no1, noA, noK⟩
  | .ch2 o p a b c => let A := chkX C a; let B := chkX C b; let D := chkX C c
    let f := fun sc ex => match ex with
      | .Compare x [o', p'] [y, z] _ => cmB o o' && cmB p p' && A.e sc x && B.e sc y && D.e sc z && nsetB z
      | _ => false
    ⟨f, f, no1, noA, noA, fun sc _ ex => f sc ex, no1, noA, noK⟩
  | .ch3 o p q a b c d => let A := chkX C a; let B := chkX C b; let D := chkX C c; let F := chkX C d
    let f := fun sc ex => match ex with
      | .Compare x [o', p', q'] [y, z, u] _ => cmB o o' && cmB p p' && cmB q q' && A.e sc x && B.e sc y && D.e sc z && F.e sc u && nsetB u
      | _ => false
    ⟨f, f, no1, noA, noA, fun sc _ ex => f sc ex, no1, noA, noK⟩
  | .isN a => let A := chkX C a
    let f := fun sc ex => match ex with
      | .Compare x [.Is] [.Constant .none _ _] _ => A.e sc x
      | _ => false
    ⟨f, f, no1, noA, noA, fun sc _ ex => f sc ex, no1, noA, noK⟩
  | .notN a => let A := chkX C a
    let f := fun sc ex => match ex with
      | .Compare x [.IsNot] [.Constant .none _ _] _ => A.e sc x
      | _ => false
    ⟨f, f, no1, noA, noA, fun sc _ ex => f sc ex, no1, noA, noK⟩
  | .and a b => let A := chkX C a; let B := chkX C b
    let f := fun sc ex => match ex with
      | .BoolOp .And (x :: y :: rest) pos => A.e sc x && (match rest with
        | [] => B.e sc y
        | z :: r => B.e sc (.BoolOp .And (y :: z :: r) pos))
      | _ => false
    let g := fun sc ex => match ex with
      | .BoolOp .And (x :: y :: rest) pos => A.t sc x && (match rest with
        | [] => B.t sc y
        | z :: r => B.w sc (.BoolOp .And (y :: z :: r) pos))
      | _ => false
    ⟨f, g, g, noA, noA, fun sc _ ex => f sc ex, no1, noA, noK⟩
  | .or a b => let A := chkX C a; let B := chkX C b
    let f := fun sc ex => match ex with
      | .BoolOp .Or (x :: y :: rest) pos => A.e sc x && (match rest with
        | [] => B.e sc y
        | z :: r => B.e sc (.BoolOp .Or (y :: z :: r) pos))
      | _ => false
    let g := fun sc ex => match ex with
      | .BoolOp .Or (x :: y :: rest) pos => A.t sc x && (match rest with
        | [] => B.t sc y
        | z :: r => B.w sc (.BoolOp .Or (y :: z :: r) pos))
      | _ => false
    ⟨f, g, g, noA, noA, fun sc _ ex => f sc ex, no1, noA, noK⟩
  | .not a => let A := chkX C a
    let f := fun sc ex => match ex with
      | .UnaryOp .Not x _ => A.e sc x
      | _ => false
    ⟨f, (fun sc ex => match ex with
      | .UnaryOp .Not x _ => A.t sc x
      | _ => false), no1, noA, noA, fun sc _ ex => f sc ex, no1, noA, noK⟩
  | .ife c a b => let K := chkX C c; let A := chkX C a; let B := chkX C b
    .ofE (fun sc ex => match ex with
      | .IfExp x y z _ => K.t sc x && A.e sc y && B.e sc z
      | _ => false) fun sc ex => match ex with
      | .IfExp x y z _ => K.t sc x && A.f sc y && B.f sc z
      | _ => false
  | .lst es => let A := chkX C es; .ofE (fun sc ex => match ex with
      | .List xs _ => A.a sc xs
      | _ => false) fun sc ex => match ex with
      | .List xs _ => A.a sc xs
      | _ => false
  | .tup es => let A := chkX C es; .ofE (fun sc ex => match ex with
      | .Tuple xs _ _ => A.a sc xs
      | _ => false) no1
  | .idx a b => let A := chkX C a; let B := chkX C b; .ofE (fun sc ex => match ex with
      | .Subscript x y _ => lC C (late a) A sc x && lC C (late b) B sc y && nslB y
      | _ => false) no1
  | .slc a lo hi => let A := chkX C a; let L := chkX C lo; let H := chkX C hi
    let f := fun sc ex => match ex with
      | .Subscript x (.Slice l h none _) _ => lC C (late a) A sc x && oC (isNoe lo) L sc l && oC (isNoe hi) H sc h
      | _ => false
    .ofE f f
  | .rev a => let A := chkX C a
    let f := fun sc ex => match ex with
      | .Subscript x (.Slice none none (some (.UnaryOp .USub (.Constant (.int i) _ _) _)) _) _ => decide (i = 1) && lC C (late a) A sc x
      | _ => false
    .ofE f f
  | .noe => .ofE no1 no1
  | .call f es => let A := chkX C es; .ofE (fun sc ex => match ex with
      | .Call (.Name x _) (y :: ys) [] _ => (match C.T[f]? with
        | some fn => !fn.own && decide (x = fn.name) && nmOk x && glB sc x && A.a sc (y :: ys) && nsB y && ys.all nsB
        | none => false)
      | _ => false) fun sc ex => match ex with
      | .Call (.Name x _) (y :: ys) [] _ => (match C.T[f]? with
        | some fn => !fn.own && fn.fresh && decide (x = fn.name) && nmOk x && glB sc x && A.a sc (y :: ys) && nsB y && ys.all nsB
        | none => false)
      | _ => false
  | .callO f i es => let A := chkX C es; .ofE (fun sc ex => match ex with
      | .Call (.Name x _) (y :: ys) [] _ => (match C.T[f]? with
        | some fn => fn.own && decide (x = fn.name) && nmOk x && glB sc x && nameI C sc i y && A.a sc ys && ys.all nsB
        | none => false)
      | _ => false) no1
  | .blt b es => let A := chkX C es; .ofE (fun sc ex => match ex with
      | .Call (.Name x _) (y :: ys) [] _ => bDone b && decide (x = bName b) && glB sc x && A.q sc (y :: ys) && nsB y && ys.all nsB
      | _ => false) fun sc ex => match ex with
      | .Call (.Name x _) (y :: ys) [] _ => (match b with
        | .list => true
        | _ => false) && decide (x = "list") && glB sc x && A.q sc (y :: ys) && nsB y && ys.all nsB
      | _ => false
  | .isi a ts => let A := chkX C a; .ofE (fun sc ex => match ex with
      | .Call (.Name x _) [y, .Tuple es _ _] [] _ => decide (x = "isinstance") && glB sc x && lC C (late a) A sc y && tysE sc ts es && nsB y && decide (ts.length ≤ 100) && es.all nsB
      | .Call (.Name x _) [y, .Name z p] [] _ => decide (x = "isinstance") && glB sc x && lC C (late a) A sc y && isOne ts && tysE sc ts [.Name z p] && nsB y
      | _ => false) no1
  | .mth m o es => let O := chkX C o; let A := chkX C es; .ofE (fun sc ex => match ex with
      | .Call (.Attribute x nm apos) ys [] pos => decide (nm = mName m) && atB x && (apos.endLine == pos.line) && (match ys with
        | [] => (match m with
          | .bitlen => (late o).isNone && isNil es && O.e sc x
          | _ => false)
        | y :: yr => (match m with
          | .bitlen => false
          | _ => lC C (late o) O sc x && A.q sc (y :: yr) && nsB y && yr.all nsB && decide (yr.length < 28)))
      | _ => false) no1
  | .comp elt tg one it cond => let L := chkX C elt; let I := chkX C it; let K := chkX C cond
    let f := fun sc ex => match ex with
      | .ListComp el [g] scope _ => decide (g.is_async = 0) && I.i sc g.target g.iter && blkB C sc scope tg && tgB C (relS scope sc) (fun x => decide (scope.names.lookup x = some .cell)) tg one g.target
        && condB (isNoe cond) K (relS scope sc) g.ifs && L.e (relS scope sc) el && nsetB g.iter
      | _ => false
    .ofE f f
  | .nil => ⟨no1, no1, no1, (fun _ xs => xs.isEmpty), (fun _ xs => xs.isEmpty), fun _ _ _ => false, no1, (fun _ xs => xs.isEmpty), fun _ xs => xs.isEmpty⟩
  | .cons e es => let A := chkX C e; let B := chkX C es
    let f : Scope → List Expr → Bool := fun sc xs => match xs with
      | x :: r => (match late e with
        | none => A.e sc x && nsB x && B.a sc r
        | some _ => false)
      | [] => false
    ⟨no1, no1, no1, f, (fun sc xs => match es, xs with
      | .nil, [x] => lC C (late e) A sc x && nsB x
      | _, _ => f sc xs), fun _ _ _ => false, no1, noA, fun sc xs => match xs with
      | ⟨_, x, _⟩ :: r => (late e).isNone && A.e sc x && B.k sc r
      | [] => false⟩
  | .splat a es => let A := chkX C a; let B := chkX C es
    let f : Scope → List Expr → Bool := fun sc xs => match xs with
      | .Starred x _ :: r => A.e sc x && B.a sc r
      | _ => false
    ⟨no1, no1, no1, f, f, fun _ _ _ => false, no1, noA, noK⟩
  | .fcons e es => let A := chkX C e; let B := chkX C es
    ⟨no1, no1, no1, noA, noA, fun _ _ _ => false, no1, (fun sc xs => match xs with
      | x :: r => A.f sc x && nsB x && B.g sc r
      | [] => false), noK⟩
  | .callK f es js => let A := chkX C es; .ofE (fun sc ex => match ex with
      | .Call (.Name x _) [] kws _ => (match C.T[f]? with
        | some fn => !fn.own && decide (x = fn.name) && nmOk x && glB sc x && A.k sc kws && C.KW.any (fun z => decide (z.1 = f) && decide (z.2.1 = js) && decide (kws.map (fun z => match z with | ⟨n, _, _⟩ => n) = z.2.2.map some))
        | none => false)
      | _ => false) no1
  | .rng1 a => let A := chkX C a; .ofI fun sc _ ex => match ex with
      | .Call (.Name x _) [y] [] _ => decide (x = "range") && glB sc x && A.e sc y && nsB y
      | _ => false
  | .rng2 a b => let A := chkX C a; let B := chkX C b; .ofI fun sc _ ex => match ex with
      | .Call (.Name x _) [y, z] [] _ => decide (x = "range") && glB sc x && A.e sc y && nsB y && B.e sc z && nsB z
      | _ => false
  | .rng3 a b c => let A := chkX C a; let B := chkX C b; let K := chkX C c; .ofI fun sc _ ex => match ex with
      | .Call (.Name x _) [y, z, u] [] _ => decide (x = "range") && glB sc x && A.e sc y && nsB y && B.e sc z && nsB z && K.e sc u && nsB u
      | _ => false
  | .enm a => let A := chkX C a; .ofI fun sc tg ex => match ex with
      | .Call (.Name x _) [y] [] _ => decide (x = "enumerate") && glB sc x && A.e sc y && nsB y && isTupB tg
      | _ => false
  | .zip a b => let A := chkX C a; let B := chkX C b; .ofI fun sc tg ex => match ex with
      | .Call (.Name x _) [y, z] [] _ => decide (x = "zip") && glB sc x && (late a).isNone && (late b).isNone && A.e sc y && nsB y && B.e sc z && nsB z && isTupB tg
      | _ => false
end Mp

/-! Mp: what the checks of expressions mean. -/
namespace Mp
open PySem PySem.Spec PyProof.Rows L2

structure Hy (C : Cfg) (X : Cx) (cA : Nat → Addr) (W : WX) (k : Nat) (sc : Scope) : Prop where
  N : X.N = C.N
  nd : C.N.Nodup
  sc : X.env.scope = sc
  calm : X.calm = true
  room : Room k X.A
  tk : Takes X W
  fn : ∀ i f, C.T[i]? = some f → FnX X cA C.T C.KW k i f
  gl : ∀ x d, (x, d) ∈ C.G → ∃ v u, X.mg x = some u ∧ RelV v u ∧ ∀ F, Rp X.K F v d
  bi : ∀ x ∈ bins, X.mg x = none
section
variable {C : Cfg} {X : Cx} {cA : Nat → Addr} {W : WX} {k : Nat} {sc : Scope} {E0 : Ent}
variable {a b c d e : Expr} {es : List Expr} {pos : Pos}
theorem Hy.hu (h : Hy C X cA W k sc) : X.A.units + 65 < cLine := by have := h.room.un; omega
theorem and3 {a b : Bool} (h : (a && b) = true) : a = true ∧ b = true := by simpa using h
theorem nmOk_dbg {x : Str} (h : nmOk x = true) : (x == ("__debug__" : Str)) = false ∧ (x == ("__classdict__" : Str)) = false := by
  unfold nmOk at h
  simpa using h
theorem visB_ok {sc : Scope} {x : Str} (h : visB sc x = true) : Vis sc x := by
  unfold visB at h
  unfold Vis
  split at h <;> simp_all
theorem locB_ok {sc : Scope} {x : Str} (h : locB sc x = true) : L2.Loc sc x := by
  unfold locB at h
  unfold L2.Loc
  split at h <;> simp_all
theorem lclB_ok {sc : Scope} {x : Str} (h : lclB sc x = true) : sc.names.lookup x = some .local := by
  unfold lclB at h
  split at h <;> simp_all
theorem glB_ok {x : Str} (hs : X.env.scope = sc) (h : glB sc x = true) : Gl X x := by
  unfold glB at h
  unfold Gl Env.kindOf
  rw [hs]
  split at h <;> simp_all
theorem nsB_star {e : Expr} {es : List Expr} {env : Env} (h : nsB e = true) : starEach (e :: es) env = (false, eval e env) :: starEach es env := by
  cases e <;> first | rfl | cases h
theorem nsB_all {es : List Expr} {env : Env} (h : es.all nsB = true) : starEach es env = es.map fun e => (false, eval e env) := by
  induction es with
  | nil => rfl
  | cons e es ih =>
    obtain ⟨h1, h2⟩ := and3 (by simpa using h : (nsB e && es.all nsB) = true)
    rw [nsB_star h1, ih h2]; rfl
theorem nsB_pl {es : List Expr} {env : Env} {pos : Pos} (h : es.all nsB = true) : (backTo pos (starEach es env)).any (·.1) = false := by
  rw [nsB_all h]
  unfold backTo
  rw [List.map_map, List.any_map]
  exact List.any_eq_false.mpr fun x _ => by simp
theorem nsB_few {es : List Expr} {env : Env} {pos : Pos} (h : es.all nsB = true) (hl : es.length < 30) : ((backTo pos (starEach es env)).all (fun x => !x.1) && (backToKw pos (keywordEach [] env)).all (fun x => x.1.isSome)
      && decide (es.length + ([] : List Keyword).length + (if ([] : List Keyword).isEmpty then 0 else 1) < 30)) = true := by
  have h1 : (backTo pos (starEach es env)).all (fun x => !x.1) = true := by
    rw [nsB_all h]
    unfold backTo
    rw [List.map_map, List.all_map]
    exact List.all_eq_true.mpr fun x _ => by simp
  have h2 : (backToKw pos (keywordEach [] env)).all (fun x => x.1.isSome) = true := rfl
  rw [h1, h2]
  simpa using hl
theorem atB_ok {o : Expr} {nm : Str} {env : Env} {whole : PySem.Sem Value} (h : atB o = true) : attributeBase o nm env whole = whole := by
  cases o <;> first | rfl | cases h
theorem nslB_ok {b : Expr} (h : nslB b = true) : PlainIx b := by
  intro o i
  cases b <;> first | rfl | cases h
theorem nsetB_ok {op : CmpOp} {b : Expr} (h : nsetB b = true) : behindInMarks op b = false := by
  cases b <;> first | rfl | cases h
theorem nset_fold {e : Expr} {env : Env} (h : nsetB e = true) : ∀ x, foldedSetIterable e env x = pure x := by
  intro x
  cases e <;> first | rfl | cases h
theorem dflB_ok {e : Expr} {env : Env} (h : dflB e = true) : ∀ whole, isTrue e env whole = (do let v ← whole; standAt e.pos; holding [v] (truthy v)) := by
  intro whole
  cases e <;> first | rfl | cases h
theorem nameI_ok (hy : Hy C X cA W k sc) {i : Nat} {e : Expr} (h : nameI C sc i e = true) : ∃ x p, e = .Name x p ∧ X.N[i]? = some x ∧ Vis X.env.scope x ∧ (x == ("__debug__" : Str)) = false ∧ (x == ("__classdict__" : Str)) = false := by
  cases e with
  | Name x p =>
    obtain ⟨h1, h2⟩ := and3 h
    obtain ⟨h3, h4⟩ := and3 h1
    exact ⟨x, p, rfl, by rw [hy.N]; exact of_decide_eq_true h3, by rw [hy.sc]; exact visB_ok h4, (nmOk_dbg h2).1, (nmOk_dbg h2).2⟩
  | _ => cases h
theorem opB_ok {o : Op2} {p : Operator} (h : opB o p = true) : p = opOf o := of_decide_eq_true h
theorem cmB_ok {o : Cm} {p : CmpOp} (h : cmB o p = true) : p = cmOf o := of_decide_eq_true h
theorem bins_mem {x : Str} (h : (bins.any fun z => decide (z = x)) = true) : x ∈ bins := by
  obtain ⟨z, h1, h2⟩ := List.any_eq_true.mp h
  have := of_decide_eq_true h2
  rwa [← this]

/-- what a check says -/
structure Sn (C : Cfg) (X : Cx) (cA : Nat → Addr) (W : WX) (k : Nat) (sc : Scope) (z : E) : Prop where
  e : ∀ ex, (chkX C z).e sc ex = true → PE X ex (tE (pm X cA) W (ev (Fs C.T k) z))
  t : ∀ ex, (chkX C z).t sc ex = true → PT X ex (tB (pm X cA) W (asB (ev (Fs C.T k) z)))
  w : ∀ ex, (chkX C z).w sc ex = true → PW X ex (tB (pm X cA) W (asB (ev (Fs C.T k) z)))
  a : ∀ es, (chkX C z).a sc es = true → PA X es (tA (pm X cA) W (evs (Fs C.T k) z))
  q : ∀ es, (chkX C z).q sc es = true → PA X es (tAq (pm X cA) W (evs (Fs C.T k) z))
  i : ∀ tg ex, (chkX C z).i sc tg ex = true → PI X tg ex (tI (pm X cA) W (ev (Fs C.T k) z))
  f : ∀ ex, (chkX C z).f sc ex = true → PE X ex (tF (pm X cA) W (ev (Fs C.T k) z))
  g : ∀ es, (chkX C z).g sc es = true → PA X es (tAF (pm X cA) W (evs (Fs C.T k) z))
  k : ∀ es, (chkX C z).k sc es = true → PK X es (tA (pm X cA) W (evs (Fs C.T k) z))
theorem Sn.ofE {e : E} {f g : Scope → Expr → Bool} (hc : chkX C e = Chk.ofE f g) (he : ∀ ex, f sc ex = true → PE X ex (tE (pm X cA) W (ev (Fs C.T k) e))) (hf : ∀ ex, g sc ex = true → PE X ex (tF (pm X cA) W (ev (Fs C.T k) e))) : Sn C X cA W k sc e where
  e := fun ex h => by rw [hc] at h; exact he ex h
  t := fun ex h => by
    rw [hc] at h
    obtain ⟨h1, h2⟩ := and3 h
    exact t_val (he ex h2) (dflB_ok h1)
  w := fun ex h => by rw [hc] at h; cases h
  a := fun ex h => by rw [hc] at h; cases h
  q := fun ex h => by rw [hc] at h; cases h
  i := fun tg ex h => by rw [hc] at h; exact i_seq (he ex h)
  f := fun ex h => by rw [hc] at h; exact hf ex h
  g := fun ex h => by rw [hc] at h; cases h
  k := fun ex h => by rw [hc] at h; cases h
theorem Sn.of1 {e : E} {f : Scope → Expr → Bool} (hc : chkX C e = Chk.ofE f no1) (he : ∀ ex, f sc ex = true → PE X ex (tE (pm X cA) W (ev (Fs C.T k) e))) : Sn C X cA W k sc e := Sn.ofE hc he fun ex h => by cases h
theorem Sn.ofT {e : E} {f g : Scope → Expr → Bool} (hc : chkX C e = ⟨f, g, no1, noA, noA, fun sc _ ex => f sc ex, no1, noA, noK⟩) (he : ∀ ex, f sc ex = true → PE X ex (tE (pm X cA) W (ev (Fs C.T k) e))) (ht : ∀ ex, g sc ex = true → PT X ex (tB (pm X cA) W (asB (ev (Fs C.T k) e)))) : Sn C X cA W k sc e where
  e := fun ex h => by rw [hc] at h; exact he ex h
  t := fun ex h => by rw [hc] at h; exact ht ex h
  w := fun ex h => by rw [hc] at h; cases h
  a := fun ex h => by rw [hc] at h; cases h
  q := fun ex h => by rw [hc] at h; cases h
  i := fun tg ex h => by rw [hc] at h; exact i_seq (he ex h)
  f := fun ex h => by rw [hc] at h; cases h
  g := fun ex h => by rw [hc] at h; cases h
  k := fun ex h => by rw [hc] at h; cases h
theorem Sn.ofW {e : E} {f g : Scope → Expr → Bool} (hc : chkX C e = ⟨f, g, g, noA, noA, fun sc _ ex => f sc ex, no1, noA, noK⟩) (he : ∀ ex, f sc ex = true → PE X ex (tE (pm X cA) W (ev (Fs C.T k) e))) (ht : ∀ ex, g sc ex = true → PW X ex (tB (pm X cA) W (asB (ev (Fs C.T k) e)))) : Sn C X cA W k sc e where
  e := fun ex h => by rw [hc] at h; exact he ex h
  t := fun ex h => by rw [hc] at h; exact (ht ex h).pt
  w := fun ex h => by rw [hc] at h; exact ht ex h
  a := fun ex h => by rw [hc] at h; cases h
  q := fun ex h => by rw [hc] at h; cases h
  i := fun tg ex h => by rw [hc] at h; exact i_seq (he ex h)
  f := fun ex h => by rw [hc] at h; cases h
  g := fun ex h => by rw [hc] at h; cases h
  k := fun ex h => by rw [hc] at h; cases h
theorem Sn.ofI {e : E} {f : Scope → Expr → Expr → Bool} (hc : chkX C e = Chk.ofI f) (hi : ∀ tg ex, f sc tg ex = true → PI X tg ex (tI (pm X cA) W (ev (Fs C.T k) e))) : Sn C X cA W k sc e where
  e := fun ex h => by rw [hc] at h; cases h
  t := fun ex h => by rw [hc] at h; cases h
  w := fun ex h => by rw [hc] at h; cases h
  a := fun ex h => by rw [hc] at h; cases h
  q := fun ex h => by rw [hc] at h; cases h
  i := fun tg ex h => by rw [hc] at h; exact hi tg ex h
  f := fun ex h => by rw [hc] at h; cases h
  g := fun ex h => by rw [hc] at h; cases h
  k := fun ex h => by rw [hc] at h; cases h
/-- an operand -/
theorem Sn.l (hy : Hy C X cA W k sc) {e : E} (h : Sn C X cA W k sc e) {ex : Expr} (hl : lC C (late e) (chkX C e) sc ex = true) : PE X ex (tL (pm X cA) W (late e) (ev (Fs C.T k) e)) := by
  unfold lC at hl
  cases q : late e with
  | none =>
    rw [q] at hl
    exact e_l (h.e ex hl)
  | some i =>
    rw [q] at hl
    obtain ⟨x, p, rfl, h1, h2, h3, h4⟩ := nameI_ok hy hl
    exact e_own h1 h2 h3 h4
theorem Sn.o {e : E} (h : Sn C X cA W k sc e) {o : Option Expr} (hl : oC (isNoe e) (chkX C e) sc o = true) : PO X o (tO (pm X cA) W (part (isNoe e) (ev (Fs C.T k) e))) := by
  cases o with
  | none =>
    have hl : isNoe e = true := hl
    rw [hl]
    exact o_none
  | some x =>
    obtain ⟨h1, h2⟩ := and3 hl
    have h1 : isNoe e = false := by simpa using h1
    rw [h1]
    exact o_some (h.e x h2)
theorem lp1 {op : BoolOp} {x : Expr} {t : TE} (h : PE X x t) : PE X (.BoolOp op [x] pos) t := ⟨fun pins s σ H Q I q => h.run pins s σ H Q I q⟩
theorem lastM2 {o p : CmpOp} {y z : Expr} (h : nsetB z = true) : lastMarks [o, p] [y, z] = false := nsetB_ok h
theorem lastM3 {o p q : CmpOp} {y z u : Expr} (h : nsetB u = true) : lastMarks [o, p, q] [y, z, u] = false := nsetB_ok h
theorem tgsB_ok {fs : Str → Bool} (hN : X.N = C.N) (nd : C.N.Nodup) (hs : X.env.scope = sc) (hf : ∀ x, fs x = true → X.fn x = true) : ∀ {is : List Nat} {es : List Expr}, tgsB C sc fs is es = true → PGs X es (gTgs is) ∧ (assignEach es X.env).length = is.length ∧ (assignEach es X.env).findIdx? (·.1) = none
  | [], [], _ => ⟨pgs_nil, rfl, rfl⟩
  | i :: is, e :: es, h => by
    obtain ⟨h1, h2⟩ := and3 h
    obtain ⟨g1, g2, g3⟩ := tgsB_ok hN nd hs hf h2
    cases e with
    | Name x p =>
      obtain ⟨h3, h4⟩ := and3 h1
      obtain ⟨h5, h6⟩ := and3 h3
      refine ⟨pgs_cons (pg_name (by rw [hN]; exact nd) (by rw [hN]; exact of_decide_eq_true h5) (by rw [hs]; exact locB_ok h6) ?_) g1 rfl, ?_, ?_⟩
      · rcases Bool.or_eq_true_iff.mp h4 with z | z
        · exact .inl (hf x z)
        · exact .inr (by rw [hs]; exact lclB_ok z)
      · show (assignEach es X.env).length + 1 = is.length + 1
        rw [g2]
      · show List.findIdx? _ ((false, _) :: assignEach es X.env) = none
        rw [List.findIdx?_cons]
        simp [g3]
    | _ => cases h1
  | [], _ :: _, h => by cases h
  | _ :: _, [], h => by cases h
theorem tgB_ok {fs : Str → Bool} (hN : X.N = C.N) (nd : C.N.Nodup) (hs : X.env.scope = sc) (hf : ∀ x, fs x = true → X.fn x = true) (hc : X.calm = true) {tg : List Nat} {one : Bool} {e : Expr} (h : tgB C sc fs tg one e = true) : PG X e (gTg X.K tg one) := by
  cases one with
  | true =>
    cases tg with
    | nil => cases h
    | cons i r =>
      cases r with
      | cons _ _ => cases h
      | nil =>
        cases e with
        | Name x p =>
          obtain ⟨h3, h4⟩ := and3 (show (decide (C.N[i]? = some x) && locB sc x && (fs x || lclB sc x)) = true from h)
          obtain ⟨h5, h6⟩ := and3 h3
          refine pg_name (by rw [hN]; exact nd) (by rw [hN]; exact of_decide_eq_true h5) (by rw [hs]; exact locB_ok h6) ?_
          rcases Bool.or_eq_true_iff.mp h4 with z | z
          · exact .inl (hf x z)
          · exact .inr (by rw [hs]; exact lclB_ok z)
        | _ => cases h
  | false =>
    cases e with
    | Tuple es kk p =>
      obtain ⟨g1, g2, g3⟩ := tgsB_ok hN nd hs hf (show tgsB C sc fs tg es = true from h)
      exact pg_tup hc g1 g2 g3
    | _ => cases h
theorem blkB_ok (hN : X.N = C.N) (hs : X.env.scope = sc) {scope : Scope} {tg : List Nat} (h : blkB C sc scope tg = true) : ∃ own : List (Str × Nat), own.map (·.2) = tg ∧ BlkOk X.N X.env.scope scope own := by
  unfold blkB at h
  obtain ⟨h1, h4⟩ := and3 h
  obtain ⟨h1, h3⟩ := and3 h1
  obtain ⟨h1, h2⟩ := and3 h1
  refine ⟨tg.map fun i => ((C.N[i]?).getD "", i), by rw [List.map_map]; exact List.map_id _, of_decide_eq_true h1, fun y hy => of_decide_eq_true (List.all_eq_true.mp h2 y hy), fun p hp => ?_, fun y hy e => ?_, fun y hy e => ?_⟩
  · obtain ⟨i, hi, rfl⟩ := List.mem_map.mp hp
    have := List.all_eq_true.mp h3 i hi
    rw [hN]
    cases q : C.N[i]? with
    | none => rw [q] at this; cases this
    | some x => rfl
  · have := List.all_eq_true.mp h4 y hy
    rw [e] at this
    rw [hs]
    rcases Bool.or_eq_true_iff.mp this with z | z
    · exact .inl (of_decide_eq_true z)
    · exact .inr (of_decide_eq_true z)
  · have := List.all_eq_true.mp h4 y hy
    have key : (tg.any (fun i => decide (C.N[i]? = some y.1)) || !(C.N.any fun z => decide (z = y.1))) = true := by
      rcases e with e | e <;> · rw [e] at this; exact this
    rcases Bool.or_eq_true_iff.mp key with z | z
    · obtain ⟨i, hi, hz⟩ := List.any_eq_true.mp z
      refine .inl ?_
      rw [List.map_map]
      refine List.mem_map.mpr ⟨i, hi, ?_⟩
      show (C.N[i]?).getD "" = y.1
      rw [of_decide_eq_true hz]; rfl
    · refine .inr fun m => ?_
      rw [hN] at m
      have : (C.N.any fun z => decide (z = y.1)) = true := List.any_eq_true.mpr ⟨y.1, m, by simp⟩
      rw [this] at z
      cases z
theorem Hy.blk (h : Hy C X cA W k sc) (s : Shared) (H : Hp) (scope : Scope) (cl : List (Str × Addr)) (A : Addr) (fp : List Addr) : Hy C (X.blk s H scope (compEnvC scope cl A X.env) fp) cA W0 k (relS scope sc) where
  N := h.N
  nd := h.nd
  sc := by rw [← h.sc]; rfl
  calm := h.calm
  room := h.room
  tk := fun u s' ⟨_, _, _, _, _, _, _, _, _, _, _, _, _, _, _, _, w⟩ => w.elim
  fn := h.fn
  gl := h.gl
  bi := h.bi
end
end Mp

/-! Mp: the checks of expressions are right. -/
namespace Mp
open PySem PySem.Spec PyProof.Rows L2
section
variable {C : Cfg} {X : Cx} {cA : Nat → Addr} {W : WX} {k : Nat} {sc : Scope} {E0 : Ent}
variable {pos : Pos}
theorem sn_cst (d : D) : Sn C X cA W k sc (.cst d) := by
  have key : ∀ ex : Expr, (chkX C (.cst d)).e sc ex = true → PE X ex (tE (pm X cA) W (ev (Fs C.T k) (.cst d))) ∧ isLst d = none := by
    intro ex h
    cases ex with
    | Constant c j p =>
      cases c with
      | none =>
        cases d with
        | non => exact ⟨e_cst_non, rfl⟩
        | _ => cases h
      | bool b =>
        cases d with
        | bl c =>
          have : b = c := by simpa using (show (b == c) = true from h)
          subst this
          exact ⟨e_cst_bl, rfl⟩
        | _ => cases h
      | int b =>
        cases d with
        | int c =>
          have : b = c := of_decide_eq_true (show decide (b = c) = true from h)
          subst this
          exact ⟨e_cst_int, rfl⟩
        | _ => cases h
      | str b =>
        cases d with
        | str c =>
          have : b = c := of_decide_eq_true (show decide (b = c) = true from h)
          subst this
          exact ⟨e_cst_str, rfl⟩
        | _ => cases h
      | _ => cases h
    | _ => cases h
  exact Sn.ofE rfl (fun ex h => (key ex h).1) fun ex h => f_of (key ex h).1 fun η ω d' ω' e => by
    have : d' = d := by cases e; rfl
    rw [this]; exact (key ex h).2
theorem sn_glo (hy : Hy C X cA W k sc) (x : Str) (d : D) : Sn C X cA W k sc (.glo x d) := Sn.of1 rfl fun ex h => by
  cases ex with
  | Name y p =>
    obtain ⟨h1, h4⟩ := and3 h
    obtain ⟨h1, h3⟩ := and3 h1
    obtain ⟨h1, h2⟩ := and3 h1
    obtain ⟨q, hq, hz⟩ := List.any_eq_true.mp h4
    obtain ⟨z1, z2⟩ := and3 hz
    obtain ⟨q1, q2⟩ := q
    have e1 : q1 = y := of_decide_eq_true z1
    have e2 : q2 = d := litEq_ok z2
    subst e1; subst e2
    obtain ⟨v, u, g1, g2, g3⟩ := hy.gl _ _ hq
    exact e_glo (glB_ok hy.sc h2) g1 g2 g3 (nmOk_dbg h3).1
  | _ => cases h
theorem sn_var (hy : Hy C X cA W k sc) (i : Nat) : Sn C X cA W k sc (.var i) := Sn.of1 rfl fun ex h => by
  obtain ⟨x, p, rfl, h1, h2, h3, h4⟩ := nameI_ok hy h
  exact e_var h1 h2 h3 h4
theorem sn_own (i : Nat) : Sn C X cA W k sc (.own i) := Sn.of1 rfl fun ex h => by cases h
theorem sn_noe : Sn C X cA W k sc .noe := Sn.of1 rfl fun ex h => by cases h
theorem sn_neg {a : E} (A : Sn C X cA W k sc a) : Sn C X cA W k sc (.neg a) := Sn.of1 rfl fun ex h => by
  cases ex with
  | UnaryOp o x p =>
    cases o with
    | USub => exact e_neg (A.e x h)
    | _ => cases h
  | _ => cases h
theorem sn_bin (hy : Hy C X cA W k sc) (o : Op2) {a b : E} (A : Sn C X cA W k sc a) (B : Sn C X cA W k sc b) : Sn C X cA W k sc (.bin o a b) := Sn.ofE rfl (fun ex h => by
  cases ex with
  | BinOp x p y q =>
    obtain ⟨h1, h3⟩ := and3 h
    obtain ⟨h1, h2⟩ := and3 h1
    rw [opB_ok h1]
    exact e_bin o (A.l hy h2) (B.l hy h3)
  | _ => cases h) fun ex h => by
  cases ex with
  | BinOp x p y q =>
    obtain ⟨h1, h3⟩ := and3 h
    obtain ⟨h1, h2⟩ := and3 h1
    obtain ⟨h0, h1⟩ := and3 h1
    rw [opB_ok h1]
    refine f_bin o ?_ (A.l hy h2) (B.l hy h3)
    rcases Bool.or_eq_true_iff.mp h0 with z | z
    · exact .inl (of_decide_eq_true z)
    · exact .inr (of_decide_eq_true z)
  | _ => cases h
theorem sn_cmp (hy : Hy C X cA W k sc) (o : Cm) {a b : E} (A : Sn C X cA W k sc a) (B : Sn C X cA W k sc b) : Sn C X cA W k sc (.cmp o a b) := Sn.ofT rfl (fun ex h => by
  cases ex with
  | Compare x ps ys q =>
    rcases ps with _ | ⟨p, _ | ⟨_, _⟩⟩ <;> rcases ys with _ | ⟨y, _ | ⟨_, _⟩⟩ <;> try cases h
    obtain ⟨h1, h4⟩ := and3 h
    obtain ⟨h1, h3⟩ := and3 h1
    obtain ⟨h1, h2⟩ := and3 h1
    rw [cmB_ok h1]
    exact e_cmp o hy.hu (A.l hy h2) (B.l hy h3) (nsetB_ok h4)
  | _ => cases h) fun ex h => by
  cases ex with
  | Compare x ps ys q =>
    rcases ps with _ | ⟨p, _ | ⟨_, _⟩⟩ <;> rcases ys with _ | ⟨y, _ | ⟨_, _⟩⟩ <;> try cases h
    obtain ⟨h1, h4⟩ := and3 h
    obtain ⟨h1, h3⟩ := and3 h1
    obtain ⟨h1, h2⟩ := and3 h1
    rw [cmB_ok h1]
    exact t_cmp o hy.hu (A.l hy h2) (B.l hy h3) (nsetB_ok h4)
  | _ => cases h
theorem sn_ch2 (hy : Hy C X cA W k sc) (o p : Cm) {a b c : E} (A : Sn C X cA W k sc a) (B : Sn C X cA W k sc b) (D' : Sn C X cA W k sc c) : Sn C X cA W k sc (.ch2 o p a b c) := Sn.ofT rfl (fun ex h => by
  cases ex with
  | Compare x ps ys q =>
    rcases ps with _ | ⟨p1, _ | ⟨p2, _ | ⟨_, _⟩⟩⟩ <;> rcases ys with _ | ⟨y, _ | ⟨z, _ | ⟨_, _⟩⟩⟩ <;> try cases h
    obtain ⟨h1, h6⟩ := and3 h
    obtain ⟨h1, h5⟩ := and3 h1
    obtain ⟨h1, h4⟩ := and3 h1
    obtain ⟨h1, h3⟩ := and3 h1
    obtain ⟨h1, h2⟩ := and3 h1
    rw [cmB_ok h1, cmB_ok h2]
    exact e_ch2 o p hy.hu (A.e _ h3) (B.e _ h4) (D'.e _ h5) (lastM2 h6)
  | _ => cases h) fun ex h => by
  cases ex with
  | Compare x ps ys q =>
    rcases ps with _ | ⟨p1, _ | ⟨p2, _ | ⟨_, _⟩⟩⟩ <;> rcases ys with _ | ⟨y, _ | ⟨z, _ | ⟨_, _⟩⟩⟩ <;> try cases h
    obtain ⟨h1, h6⟩ := and3 h
    obtain ⟨h1, h5⟩ := and3 h1
    obtain ⟨h1, h4⟩ := and3 h1
    obtain ⟨h1, h3⟩ := and3 h1
    obtain ⟨h1, h2⟩ := and3 h1
    rw [cmB_ok h1, cmB_ok h2]
    exact t_ch2 o p hy.hu (A.e _ h3) (B.e _ h4) (D'.e _ h5) (lastM2 h6)
  | _ => cases h
theorem sn_ch3 (hy : Hy C X cA W k sc) (o p q : Cm) {a b c d : E} (A : Sn C X cA W k sc a) (B : Sn C X cA W k sc b) (D' : Sn C X cA W k sc c) (F : Sn C X cA W k sc d) : Sn C X cA W k sc (.ch3 o p q a b c d) := Sn.ofT rfl (fun ex h => by
  cases ex with
  | Compare x ps ys q' =>
    rcases ps with _ | ⟨p1, _ | ⟨p2, _ | ⟨p3, _ | ⟨_, _⟩⟩⟩⟩ <;> rcases ys with _ | ⟨y, _ | ⟨z, _ | ⟨u, _ | ⟨_, _⟩⟩⟩⟩ <;> try cases h
    obtain ⟨h1, h8⟩ := and3 h
    obtain ⟨h1, h7⟩ := and3 h1
    obtain ⟨h1, h6⟩ := and3 h1
    obtain ⟨h1, h5⟩ := and3 h1
    obtain ⟨h1, h4⟩ := and3 h1
    obtain ⟨h1, h3⟩ := and3 h1
    obtain ⟨h1, h2⟩ := and3 h1
    rw [cmB_ok h1, cmB_ok h2, cmB_ok h3]
    exact e_ch3 o p q hy.hu (A.e _ h4) (B.e _ h5) (D'.e _ h6) (F.e _ h7) (lastM3 h8)
  | _ => cases h) fun ex h => by
  cases ex with
  | Compare x ps ys q' =>
    rcases ps with _ | ⟨p1, _ | ⟨p2, _ | ⟨p3, _ | ⟨_, _⟩⟩⟩⟩ <;> rcases ys with _ | ⟨y, _ | ⟨z, _ | ⟨u, _ | ⟨_, _⟩⟩⟩⟩ <;> try cases h
    obtain ⟨h1, h8⟩ := and3 h
    obtain ⟨h1, h7⟩ := and3 h1
    obtain ⟨h1, h6⟩ := and3 h1
    obtain ⟨h1, h5⟩ := and3 h1
    obtain ⟨h1, h4⟩ := and3 h1
    obtain ⟨h1, h3⟩ := and3 h1
    obtain ⟨h1, h2⟩ := and3 h1
    rw [cmB_ok h1, cmB_ok h2, cmB_ok h3]
    exact t_ch3 o p q hy.hu (A.e _ h4) (B.e _ h5) (D'.e _ h6) (F.e _ h7) (lastM3 h8)
  | _ => cases h
theorem sn_isN {a : E} (A : Sn C X cA W k sc a) : Sn C X cA W k sc (.isN a) := by
  have he : ∀ ex : Expr, (chkX C (.isN a)).e sc ex = true → ∃ x j p q, ex = .Compare x [.Is] [.Constant .none j p] q ∧ (chkX C a).e sc x = true := by
    intro ex h
    cases ex with
    | Compare x ps ys q =>
      rcases ps with _ | ⟨p, _ | ⟨_, _⟩⟩ <;> try cases h
      · cases p <;> try cases h
        rcases ys with _ | ⟨y, _ | ⟨_, _⟩⟩
        · cases h
        · cases y <;> try cases h
          rename_i c j p
          cases c <;> try cases h
          exact ⟨_, _, _, _, rfl, h⟩
        · cases y <;> try cases h
          rename_i c j p
          cases c <;> cases h
      · cases p <;> cases h
    | _ => cases h
  refine Sn.ofT rfl (fun ex h => ?_) fun ex h => ?_
  · obtain ⟨x, j, p, q, rfl, h1⟩ := he ex h
    exact e_isN (A.e _ h1)
  · obtain ⟨x, j, p, q, rfl, h1⟩ := he ex h
    exact t_isN (A.e _ h1)
theorem sn_notN {a : E} (A : Sn C X cA W k sc a) : Sn C X cA W k sc (.notN a) := by
  have he : ∀ ex : Expr, (chkX C (.notN a)).e sc ex = true → ∃ x j p q, ex = .Compare x [.IsNot] [.Constant .none j p] q ∧ (chkX C a).e sc x = true := by
    intro ex h
    cases ex with
    | Compare x ps ys q =>
      rcases ps with _ | ⟨p, _ | ⟨_, _⟩⟩ <;> try cases h
      · cases p <;> try cases h
        rcases ys with _ | ⟨y, _ | ⟨_, _⟩⟩
        · cases h
        · cases y <;> try cases h
          rename_i c j p
          cases c <;> try cases h
          exact ⟨_, _, _, _, rfl, h⟩
        · cases y <;> try cases h
          rename_i c j p
          cases c <;> cases h
      · cases p <;> cases h
    | _ => cases h
  refine Sn.ofT rfl (fun ex h => ?_) fun ex h => ?_
  · obtain ⟨x, j, p, q, rfl, h1⟩ := he ex h
    exact e_notN (A.e _ h1)
  · obtain ⟨x, j, p, q, rfl, h1⟩ := he ex h
    exact t_notN (A.e _ h1)
theorem sn_and {a b : E} (A : Sn C X cA W k sc a) (B : Sn C X cA W k sc b) : Sn C X cA W k sc (.and a b) := Sn.ofW rfl (fun ex h => by
  cases ex with
  | BoolOp o xs pos =>
    cases o with
    | Or => cases h
    | And =>
      rcases xs with _ | ⟨x, _ | ⟨y, rest⟩⟩ <;> try cases h
      obtain ⟨h1, h2⟩ := and3 h
      refine e_and (A.e _ h1) ?_
      cases rest with
      | nil => exact lp1 (B.e _ h2)
      | cons z r => exact B.e _ h2
  | _ => cases h) fun ex h => by
  cases ex with
  | BoolOp o xs pos =>
    cases o with
    | Or => cases h
    | And =>
      rcases xs with _ | ⟨x, _ | ⟨y, rest⟩⟩ <;> try cases h
      obtain ⟨h1, h2⟩ := and3 h
      refine t_and (A.t _ h1) ?_
      cases rest with
      | nil => exact pw_and1 (B.t _ h2)
      | cons z r => exact B.w _ h2
  | _ => cases h
theorem sn_or {a b : E} (A : Sn C X cA W k sc a) (B : Sn C X cA W k sc b) : Sn C X cA W k sc (.or a b) := Sn.ofW rfl (fun ex h => by
  cases ex with
  | BoolOp o xs pos =>
    cases o with
    | And => cases h
    | Or =>
      rcases xs with _ | ⟨x, _ | ⟨y, rest⟩⟩ <;> try cases h
      obtain ⟨h1, h2⟩ := and3 h
      refine e_or (A.e _ h1) ?_
      cases rest with
      | nil => exact lp1 (B.e _ h2)
      | cons z r => exact B.e _ h2
  | _ => cases h) fun ex h => by
  cases ex with
  | BoolOp o xs pos =>
    cases o with
    | And => cases h
    | Or =>
      rcases xs with _ | ⟨x, _ | ⟨y, rest⟩⟩ <;> try cases h
      obtain ⟨h1, h2⟩ := and3 h
      refine t_or (A.t _ h1) ?_
      cases rest with
      | nil => exact pw_or1 (B.t _ h2)
      | cons z r => exact B.w _ h2
  | _ => cases h
theorem sn_not {a : E} (A : Sn C X cA W k sc a) : Sn C X cA W k sc (.not a) := Sn.ofT rfl (fun ex h => by
  cases ex with
  | UnaryOp o x p =>
    cases o with
    | Not => exact e_not (A.e x h)
    | _ => cases h
  | _ => cases h) fun ex h => by
  cases ex with
  | UnaryOp o x p =>
    cases o with
    | Not => exact t_not (A.t x h)
    | _ => cases h
  | _ => cases h
theorem sn_ife {c a b : E} (K : Sn C X cA W k sc c) (A : Sn C X cA W k sc a) (B : Sn C X cA W k sc b) : Sn C X cA W k sc (.ife c a b) := Sn.ofE rfl (fun ex h => by
  cases ex with
  | IfExp x y z p =>
    obtain ⟨h1, h3⟩ := and3 h
    obtain ⟨h1, h2⟩ := and3 h1
    exact e_ife (K.t _ h1) (A.e _ h2) (B.e _ h3)
  | _ => cases h) fun ex h => by
  cases ex with
  | IfExp x y z p =>
    obtain ⟨h1, h3⟩ := and3 h
    obtain ⟨h1, h2⟩ := and3 h1
    exact f_ife (K.t _ h1) (A.f _ h2) (B.f _ h3)
  | _ => cases h
theorem sn_lst {es : E} (A : Sn C X cA W k sc es) : Sn C X cA W k sc (.lst es) := Sn.ofE rfl (fun ex h => by
  cases ex with
  | List xs p => exact e_lst (A.a _ h)
  | _ => cases h) fun ex h => by
  cases ex with
  | List xs p => exact f_lst (A.a _ h)
  | _ => cases h
theorem sn_tup {es : E} (A : Sn C X cA W k sc es) : Sn C X cA W k sc (.tup es) := Sn.of1 rfl fun ex h => by
  cases ex with
  | Tuple xs j p => exact e_tup (A.a _ h)
  | _ => cases h
theorem sn_idx (hy : Hy C X cA W k sc) {a b : E} (A : Sn C X cA W k sc a) (B : Sn C X cA W k sc b) : Sn C X cA W k sc (.idx a b) := Sn.of1 rfl fun ex h => by
  cases ex with
  | Subscript x y p =>
    obtain ⟨h1, h3⟩ := and3 h
    obtain ⟨h1, h2⟩ := and3 h1
    exact e_idx (A.l hy h1) (B.l hy h2) (nslB_ok h3)
  | _ => cases h
theorem sn_slc (hy : Hy C X cA W k sc) {a lo hi : E} (A : Sn C X cA W k sc a) (L : Sn C X cA W k sc lo) (H : Sn C X cA W k sc hi) : Sn C X cA W k sc (.slc a lo hi) := by
  have key : ∀ ex : Expr, (chkX C (.slc a lo hi)).e sc ex = true → ∃ x l h p q, ex = .Subscript x (.Slice l h none p) q ∧ lC C (late a) (chkX C a) sc x = true ∧ oC (isNoe lo) (chkX C lo) sc l = true ∧ oC (isNoe hi) (chkX C hi) sc h = true := by
    intro ex h
    cases ex with
    | Subscript x y q =>
      cases y with
      | Slice l h' st p =>
        cases st with
        | some _ => cases h
        | none =>
          obtain ⟨h1, h3⟩ := and3 h
          obtain ⟨h1, h2⟩ := and3 h1
          exact ⟨_, _, _, _, _, rfl, h1, h2, h3⟩
      | _ => cases h
    | _ => cases h
  refine Sn.ofE rfl (fun ex h => ?_) fun ex h => ?_
  · obtain ⟨x, l, h', p, q, rfl, h1, h2, h3⟩ := key ex h
    exact e_slc (A.l hy h1) (L.o h2) (H.o h3)
  · obtain ⟨x, l, h', p, q, rfl, h1, h2, h3⟩ := key ex h
    exact f_slc (A.l hy h1) (L.o h2) (H.o h3)
theorem sn_rev (hy : Hy C X cA W k sc) {a : E} (A : Sn C X cA W k sc a) : Sn C X cA W k sc (.rev a) := by
  have key : ∀ ex : Expr, (chkX C (.rev a)).e sc ex = true → ∃ x j p1 p2 p3 q, ex = .Subscript x (.Slice none none (some (.UnaryOp .USub (.Constant (.int 1) j p1) p2)) p3) q ∧ lC C (late a) (chkX C a) sc x = true := by
    intro ex h
    cases ex with
    | Subscript x y q =>
      cases y with
      | Slice l h' st p =>
        cases l <;> cases h' <;> cases st <;> try cases h
        rename_i st
        cases st with
        | UnaryOp o z p2 =>
          cases o with
          | USub =>
            cases z with
            | Constant c j p1 =>
              cases c with
              | int i =>
                obtain ⟨h1, h2⟩ := and3 h
                have : i = 1 := of_decide_eq_true h1
                subst this
                exact ⟨_, _, _, _, _, _, rfl, h2⟩
              | _ => cases h
            | _ => cases h
          | _ => cases h
        | _ => cases h
      | _ => cases h
    | _ => cases h
  refine Sn.ofE rfl (fun ex h => ?_) fun ex h => ?_
  · obtain ⟨x, j, p1, p2, p3, q, rfl, h1⟩ := key ex h
    exact e_rev (A.l hy h1)
  · obtain ⟨x, j, p1, p2, p3, q, rfl, h1⟩ := key ex h
    exact f_rev (A.l hy h1)
theorem sn_nil : Sn C X cA W k sc .nil where
  e := fun ex h => by cases h
  t := fun ex h => by cases h
  w := fun ex h => by cases h
  a := fun es h => by
    cases es with
    | nil => exact a_nil
    | cons _ _ => cases h
  q := fun es h => by
    cases es with
    | nil => exact aq_of a_nil
    | cons _ _ => cases h
  i := fun tg ex h => by cases h
  f := fun ex h => by cases h
  g := fun es h => by
    cases es with
    | nil => exact af_nil
    | cons _ _ => cases h
  k := fun es h => by
    cases es with
    | nil => exact k_nil
    | cons _ _ => cases h
theorem late_eq {e : E} {i : Nat} (h : late e = some i) : e = .own i := by
  cases e <;> cases h
  rfl
theorem sn_cons (hy : Hy C X cA W k sc) {e es : E} (A : Sn C X cA W k sc e) (B : Sn C X cA W k sc es) : Sn C X cA W k sc (.cons e es) := by
  have ha : ∀ xs : List Expr, (chkX C (.cons e es)).a sc xs = true → PA X xs (tA (pm X cA) W (evs (Fs C.T k) (.cons e es))) := by
    intro xs h
    cases xs with
    | nil => cases h
    | cons x r =>
      have h' : (match late e with
        | none => (chkX C e).e sc x && nsB x && (chkX C es).a sc r
        | some _ => false) = true := h
      cases q : late e with
      | some i => rw [q] at h'; cases h'
      | none =>
        rw [q] at h'
        obtain ⟨h1, h3⟩ := and3 h'
        obtain ⟨h1, h2⟩ := and3 h1
        have := a_cons (A.e _ h1) (B.a _ h3) (nsB_star h2)
        refine this.imp fun σ H Q z => ?_
        have e1 : evs (Fs C.T k) (.cons e es) = fun η ω => (opd (late e) (ev (Fs C.T k) e) η ω).bnd fun x ω => (evs (Fs C.T k) es η ω).bnd fun xs ω => Out.of ω ((snap ω (late e) x).bind fun x => some (x :: xs)) := rfl
        rw [e1, q] at z
        exact z
  refine { e := fun ex h => (by cases h), t := fun ex h => (by cases h), w := fun ex h => (by cases h), a := ha, q := fun xs h => ?_, i := fun tg ex h => (by cases h), f := fun ex h => (by cases h), g := fun ex h => (by cases h), k := fun kws h => ?_ }
  rotate_left
  · cases kws with
    | nil => cases h
    | cons kw r =>
      obtain ⟨nm, x, kp⟩ := kw
      obtain ⟨h1, h3⟩ := and3 h
      obtain ⟨h1, h2⟩ := and3 h1
      have q : late e = none := Option.isNone_iff_eq_none.mp h1
      refine (k_cons (A.e _ h2) (B.k _ h3)).imp fun σ H Q z => ?_
      have e1 : evs (Fs C.T k) (.cons e es) = fun η ω => (opd (late e) (ev (Fs C.T k) e) η ω).bnd fun x ω => (evs (Fs C.T k) es η ω).bnd fun xs ω => Out.of ω ((snap ω (late e) x).bind fun x => some (x :: xs)) := rfl
      rw [e1, q] at z
      exact z
  cases es with
  | nil =>
    rcases xs with _ | ⟨x, _ | ⟨y, r⟩⟩
    · exact aq_of (ha _ h)
    · obtain ⟨h1, h2⟩ := and3 (show (lC C (late e) (chkX C e) sc x && nsB x) = true from h)
      exact aq_one (A.l hy h1) (nsB_star h2)
    · exact aq_of (ha _ h)
  | _ => exact aq_of (ha _ h)
theorem sn_splat {a es : E} (A : Sn C X cA W k sc a) (B : Sn C X cA W k sc es) : Sn C X cA W k sc (.splat a es) := by
  have key : ∀ xs : List Expr, (chkX C (.splat a es)).a sc xs = true → PA X xs (tA (pm X cA) W (evs (Fs C.T k) (.splat a es))) := fun xs h => by
    cases xs with
    | nil => cases h
    | cons x r =>
      cases x with
      | Starred x p =>
        obtain ⟨h1, h2⟩ := and3 h
        exact a_splat (A.e _ h1) (B.a _ h2)
      | _ => cases h
  exact { e := fun ex h => (by cases h), t := fun ex h => (by cases h), w := fun ex h => (by cases h), a := key, q := fun xs h => aq_of (key xs h), i := fun tg ex h => (by cases h), f := fun ex h => (by cases h), g := fun ex h => (by cases h), k := fun ex h => (by cases h) }
theorem sn_fcons {e es : E} (A : Sn C X cA W k sc e) (B : Sn C X cA W k sc es) : Sn C X cA W k sc (.fcons e es) :=
  { e := fun ex h => (by cases h), t := fun ex h => (by cases h), w := fun ex h => (by cases h), a := fun ex h => (by cases h), q := fun ex h => (by cases h), i := fun tg ex h => (by cases h), f := fun ex h => (by cases h), k := fun ex h => (by cases h),
    g := fun xs h => by
      cases xs with
      | nil => cases h
      | cons x r =>
        obtain ⟨h1, h3⟩ := and3 h
        obtain ⟨h1, h2⟩ := and3 h1
        exact af_cons (A.f _ h1) (B.g _ h3) (nsB_star h2) }
end
end Mp

/-! Mp: the checks of calls, comprehensions, walks are right; all together. -/
namespace Mp
open PySem PySem.Spec PyProof.Rows L2
section
variable {C : Cfg} {X : Cx} {cA : Nat → Addr} {W : WX} {k : Nat} {sc : Scope} {E0 : Ent}
variable {pos : Pos}
theorem call_shape {x : Expr} {P : Str → Pos → List Expr → Pos → Prop} {b : Str → List Expr → Pos → Bool}
    (h : (match x with
      | .Call (.Name x _) ys [] p => b x ys p
      | _ => false) = true) : ∃ y p ys q, x = .Call (.Name y p) ys [] q ∧ b y ys q = true := by
  cases x with
  | Call f ys kw p =>
    cases f with
    | Name y q =>
      cases kw with
      | nil => exact ⟨_, _, _, _, rfl, h⟩
      | cons _ _ => cases h
    | _ => cases h
  | _ => cases h
theorem sn_call (hy : Hy C X cA W k sc) (f : Nat) {es : E} (A : Sn C X cA W k sc es) : Sn C X cA W k sc (.call f es) := by
  refine Sn.ofE rfl (fun ex h => ?_) fun ex h => ?_
  all_goals
    cases ex with
    | Call g ys kw q =>
      cases g with
      | Name x p =>
        rcases ys with _ | ⟨y, ys⟩ <;> rcases kw with _ | ⟨_, _⟩ <;> try cases h
        cases hT : C.T[f]? with
        | none => simp only [hT] at h; cases h
        | some fn =>
          simp only [hT] at h
          obtain ⟨h1, h7⟩ := and3 h
          obtain ⟨h1, h6⟩ := and3 h1
          obtain ⟨h1, h5⟩ := and3 h1
          obtain ⟨h1, h4⟩ := and3 h1
          obtain ⟨h1, h3⟩ := and3 h1
          obtain ⟨h1, h2⟩ := and3 h1
          first
          | exact e_call hT (by simpa using h1) (of_decide_eq_true h2) (hy.fn _ _ hT) hy.room hy.tk (glB_ok hy.sc h4) (A.a _ h5) (nmOk_dbg h3).1 (nsB_star h6) (nsB_pl h7)
          | (obtain ⟨h0, h1⟩ := and3 h1
             exact f_call hT (by simpa using h0) h1 (of_decide_eq_true h2) (hy.fn _ _ hT) hy.room hy.tk (glB_ok hy.sc h4) (A.a _ h5) (nmOk_dbg h3).1 (nsB_star h6) (nsB_pl h7))
      | _ => cases h
    | _ => cases h
theorem sn_callO (hy : Hy C X cA W k sc) (f i : Nat) {es : E} (A : Sn C X cA W k sc es) : Sn C X cA W k sc (.callO f i es) := Sn.of1 rfl fun ex h => by
  cases ex with
  | Call g ys kw q =>
    cases g with
    | Name x p =>
      rcases ys with _ | ⟨y, ys⟩ <;> rcases kw with _ | ⟨_, _⟩ <;> try cases h
      cases hT : C.T[f]? with
      | none => simp only [hT] at h; cases h
      | some fn =>
        simp only [hT] at h
        obtain ⟨h1, h7⟩ := and3 h
        obtain ⟨h1, h6⟩ := and3 h1
        obtain ⟨h1, h5⟩ := and3 h1
        obtain ⟨h1, h4⟩ := and3 h1
        obtain ⟨h1, h3⟩ := and3 h1
        obtain ⟨h0, h2⟩ := and3 h1
        obtain ⟨z, p2, rfl, g1, g2, g3, g4⟩ := nameI_ok hy h5
        exact e_callO hT h0 (of_decide_eq_true h2) (hy.fn _ _ hT) hy.room hy.tk (glB_ok hy.sc h4) g1 g2 g3 g4 (A.a _ h6) (nmOk_dbg h3).1 (nsB_star rfl) (nsB_pl h7)
    | _ => cases h
  | _ => cases h
theorem sn_callK (hy : Hy C X cA W k sc) (f : Nat) (js : List Nat) {es : E} (A : Sn C X cA W k sc es) : Sn C X cA W k sc (.callK f es js) := Sn.of1 rfl fun ex h => by
  cases ex with
  | Call g ys kw q =>
    cases g with
    | Name x p =>
      rcases ys with _ | ⟨y, ys⟩
      rotate_left
      · cases h
      cases hT : C.T[f]? with
      | none => simp only [hT] at h; cases h
      | some fn =>
        simp only [hT] at h
        obtain ⟨h1, h7⟩ := and3 h
        obtain ⟨h1, h6⟩ := and3 h1
        obtain ⟨h1, h5⟩ := and3 h1
        obtain ⟨h1, h4⟩ := and3 h1
        obtain ⟨h1, h2⟩ := and3 h1
        obtain ⟨⟨z1, z2, z3⟩, hz, hq⟩ := List.any_eq_true.mp h7
        obtain ⟨q1, q3⟩ := and3 hq
        obtain ⟨q1, q2⟩ := and3 q1
        have e1 : z1 = f := of_decide_eq_true q1
        have e2 : z2 = js := of_decide_eq_true q2
        subst e1; subst e2
        exact e_callK hT (by simpa using h1) (of_decide_eq_true h2) (hy.fn _ _ hT) hz hy.room hy.tk (glB_ok hy.sc h5) (A.k _ h6) (nmOk_dbg h4).1 (of_decide_eq_true q3)
    | _ => cases h
  | _ => cases h
theorem bin_of (hy : Hy C X cA W k sc) {x : Str} (h : x ∈ bins) : X.mg x = none := hy.bi x h
theorem sn_blt (hy : Hy C X cA W k sc) (b : Bn) {es : E} (A : Sn C X cA W k sc es) : Sn C X cA W k sc (.blt b es) := by
  refine Sn.ofE rfl (fun ex h => ?_) fun ex h => ?_
  · cases ex with
    | Call g ys kw q =>
      cases g with
      | Name x p =>
        rcases ys with _ | ⟨y, ys⟩ <;> rcases kw with _ | ⟨_, _⟩ <;> try cases h
        obtain ⟨h1, h6⟩ := and3 h
        obtain ⟨h1, h5⟩ := and3 h1
        obtain ⟨h1, h4⟩ := and3 h1
        obtain ⟨h1, h3⟩ := and3 h1
        obtain ⟨h1, h2⟩ := and3 h1
        have e := of_decide_eq_true h2
        subst e
        have g := glB_ok hy.sc h3
        have a := A.q _ h4
        have s := nsB_star (es := ys) (env := X.env) h5
        have l := nsB_pl (env := X.env) (pos := q) h6
        cases b with
        | abs => exact e_blt (id := "abs") c_abs g (hy.bi _ (by decide +kernel)) (by decide +kernel) a (by decide) (by decide) s l
        | int => exact e_bltT (id := "int") c_int g (hy.bi _ (by decide +kernel)) (by decide +kernel) a (by decide) (by decide) s l
        | len => exact e_blt (id := "len") c_len g (hy.bi _ (by decide +kernel)) (by decide +kernel) a (by decide) (by decide) s l
        | sum => exact e_blt (id := "sum") (c_sum hy.calm) g (hy.bi _ (by decide +kernel)) (by decide +kernel) a (by decide) (by decide) s l
        | max => exact e_blt (id := "max") (c_max hy.calm) g (hy.bi _ (by decide +kernel)) (by decide +kernel) a (by decide) (by decide) s l
        | min => exact e_blt (id := "min") (c_min hy.calm) g (hy.bi _ (by decide +kernel)) (by decide +kernel) a (by decide) (by decide) s l
        | all => exact e_blt (id := "all") (c_all hy.calm) g (hy.bi _ (by decide +kernel)) (by decide +kernel) a (by decide) (by decide) s l
        | any => exact e_blt (id := "any") (c_any hy.calm) g (hy.bi _ (by decide +kernel)) (by decide +kernel) a (by decide) (by decide) s l
        | list => exact e_bltT (id := "list") c_list g (hy.bi _ (by decide +kernel)) (by decide +kernel) a (by decide) (by decide) s l
        | tuple => exact e_bltT (id := "tuple") c_tuple g (hy.bi _ (by decide +kernel)) (by decide +kernel) a (by decide) (by decide) s l
        | str => exact e_bltT (id := "str") c_str g (hy.bi _ (by decide +kernel)) (by decide +kernel) a (by decide) (by decide) s l
        | divmod => exact e_blt (id := "divmod") c_divmod g (hy.bi _ (by decide +kernel)) (by decide +kernel) a (by decide) (by decide) s l
        | _ => cases h1
      | _ => cases h
    | _ => cases h
  · cases ex with
    | Call g ys kw q =>
      cases g with
      | Name x p =>
        rcases ys with _ | ⟨y, ys⟩ <;> rcases kw with _ | ⟨_, _⟩ <;> try cases h
        obtain ⟨h1, h6⟩ := and3 h
        obtain ⟨h1, h5⟩ := and3 h1
        obtain ⟨h1, h4⟩ := and3 h1
        obtain ⟨h1, h3⟩ := and3 h1
        obtain ⟨h1, h2⟩ := and3 h1
        have e := of_decide_eq_true h2
        subst e
        have g := glB_ok hy.sc h3
        have a := A.q _ h4
        have s := nsB_star (es := ys) (env := X.env) h5
        have l := nsB_pl (env := X.env) (pos := q) h6
        cases b with
        | list => exact f_listT rfl g (hy.bi _ (by decide +kernel)) a s l
        | _ => cases h1
      | _ => cases h
    | _ => cases h
theorem tyNames_boot : ∀ n ∈ tyNames, (bins.any fun z => decide (z = Str.ofString n)) = true ∧ bootBuiltins (Str.ofString n) = some (.type n) ∧ Str.ofString n ≠ "__name__" ∧ (Str.ofString n == ("__debug__" : Str)) = false := by decide +kernel
theorem tyE_ok (hy : Hy C X cA W k sc) {n : String} {e : Expr} (h : tyE sc n e = true) : PE X e (tC (.ty n)) ∧ tyNames.contains n = true ∧ nsB e = true := by
  cases e with
  | Name x p =>
    obtain ⟨h1, h3⟩ := and3 h
    obtain ⟨h1, h2⟩ := and3 h1
    have e := of_decide_eq_true h1
    subst e
    obtain ⟨g1, g2, g3, g4⟩ := tyNames_boot n (by simpa using h3)
    exact ⟨pe_bltn (glB_ok hy.sc h2) (hy.bi _ (bins_mem g1)) g2 rfl g3 g4, h3, rfl⟩
  | _ => cases h
theorem tysE_ok (hy : Hy C X cA W k sc) : ∀ {ts : List Ty} {es : List Expr}, tysE sc ts es = true → ∃ ns : List String, ts = ns.map Ty.b ∧ PA X es (tTys ns)
  | [], [], _ => ⟨[], rfl, a_tys_nil⟩
  | .b n :: r, e :: es, h => by
    obtain ⟨h1, h2⟩ := and3 h
    obtain ⟨g1, g2, g3⟩ := tyE_ok hy h1
    obtain ⟨ns, rfl, g4⟩ := tysE_ok hy h2
    exact ⟨n :: ns, rfl, a_tys_cons g1 g4 (nsB_star g3)⟩
  | .c _ :: _, _ :: _, h => by cases h
  | [], _ :: _, h => by cases h
  | .b _ :: _, [], h => by cases h
  | .c _ :: _, [], h => by cases h
theorem sn_isi (hy : Hy C X cA W k sc) {a : E} (ts : List Ty) (A : Sn C X cA W k sc a) : Sn C X cA W k sc (.isi a ts) := Sn.of1 rfl fun ex h => by
  cases ex with
  | Call g ys kw q =>
    cases g with
    | Name x p =>
      rcases kw with _ | ⟨_, _⟩
      · rcases ys with _ | ⟨y, _ | ⟨z, _ | ⟨_, _⟩⟩⟩
        · cases h
        · cases h
        · cases z with
          | Tuple es j p2 =>
            obtain ⟨h1, h7⟩ := and3 h
            obtain ⟨h1, h6⟩ := and3 h1
            obtain ⟨h1, h5⟩ := and3 h1
            obtain ⟨h1, h4⟩ := and3 h1
            obtain ⟨h1, h3⟩ := and3 h1
            obtain ⟨h1, h2⟩ := and3 h1
            have e := of_decide_eq_true h1
            subst e
            obtain ⟨ns, rfl, ht⟩ := tysE_ok hy h4
            exact e_isiT (glB_ok hy.sc h2) (hy.bi _ (by decide +kernel)) (A.l hy h3) ht (by simpa using of_decide_eq_true h6) (nsB_star h5) (nsB_star rfl) (nsB_pl rfl)
          | Name z2 p2 =>
            obtain ⟨h1, h6⟩ := and3 h
            obtain ⟨h1, h5⟩ := and3 h1
            obtain ⟨h1, h4⟩ := and3 h1
            obtain ⟨h1, h3⟩ := and3 h1
            obtain ⟨h1, h2⟩ := and3 h1
            have e := of_decide_eq_true h1
            subst e
            rcases ts with _ | ⟨t, _ | ⟨_, _⟩⟩
            · cases h4
            · cases t with
              | c _ => cases h5
              | b n =>
                obtain ⟨h5, _⟩ := and3 h5
                obtain ⟨g1, g2, g3⟩ := tyE_ok hy h5
                exact e_isi1 (glB_ok hy.sc h2) (hy.bi _ (by decide +kernel)) (A.l hy h3) g1 g2 (nsB_star h6) (nsB_star rfl) (nsB_pl rfl)
            · cases h4
          | _ => cases h
        · cases z <;> cases h
      · rcases ys with _ | ⟨y, _ | ⟨z, _ | ⟨_, _⟩⟩⟩
        · cases h
        · cases h
        · cases z <;> cases h
        · cases z <;> cases h
    | _ => cases h
  | _ => cases h
theorem sn_mth (hy : Hy C X cA W k sc) (m : Mt) {o es : E} (O : Sn C X cA W k sc o) (A : Sn C X cA W k sc es) : Sn C X cA W k sc (.mth m o es) := Sn.of1 rfl fun ex h => by
  cases ex with
  | Call g ys kw q =>
    cases g with
    | Attribute x nm p =>
      rcases kw with _ | ⟨_, _⟩
      · obtain ⟨h1, h4⟩ := and3 h
        obtain ⟨h1, h3⟩ := and3 h1
        obtain ⟨h1, h2⟩ := and3 h1
        have e := of_decide_eq_true h1
        subst e
        cases ys with
        | nil =>
          cases m with
          | bitlen =>
            obtain ⟨g1, g3⟩ := and3 (show ((late o).isNone && isNil es && (chkX C o).e sc x) = true from h4)
            obtain ⟨g1, g2⟩ := and3 g1
            have e1 : late o = none := Option.isNone_iff_eq_none.mp g1
            cases es with
            | nil =>
              have := e_bits (cA := cA) (W := W) (pos := q) (O.e x g3) (atB_ok h2) h3
              refine this.imp fun σ H Q z => ?_
              have e2 : ev (Fs C.T k) (.mth .bitlen o .nil) = fun η ω => (opd (late o) (ev (Fs C.T k) o) η ω).bnd fun x ω => if mtOk .bitlen (snap ω (late o) x) then (Out.ok ([] : List D) ω).bnd fun xs ω => Out.of ω ((snap ω (late o) x).bind fun x => mtD .bitlen x xs) else .st := rfl
              rw [e2, e1] at z
              exact z
            | _ => cases g2
          | _ => cases h4
        | cons y yr =>
          have h4 : m ≠ .bitlen ∧ (lC C (late o) (chkX C o) sc x && (chkX C es).q sc (y :: yr) && nsB y && yr.all nsB && decide (yr.length < 28)) = true := by
            cases m with
            | bitlen => cases h4
            | _ => exact ⟨by simp, h4⟩
          obtain ⟨hm, h4⟩ := h4
          obtain ⟨h4, h9⟩ := and3 h4
          obtain ⟨h4, h8⟩ := and3 h4
          obtain ⟨h4, h7⟩ := and3 h4
          obtain ⟨h4, h6⟩ := and3 h4
          have hl := of_decide_eq_true h9
          have few := nsB_few (env := X.env) (pos := q) (es := y :: yr) (by simp only [List.all_cons, h7, h8, Bool.and_self]) (by simp only [List.length_cons]; omega)
          have s := nsB_star (es := yr) (env := X.env) h7
          have l := nsB_pl (env := X.env) (pos := q) h8
          have ho := O.l hy h4
          have ha := A.q _ h6
          cases m with
          | bitlen => exact absurd rfl hm
          | index => exact e_mth PySem.F.plainAttrs_list PySem.F.slot_list_index PySem.F.type_list_index (m_index hy.hu) (tv_list (.inl rfl)) ho ha (atB_ok h2) few h3 s l
          | count => exact e_mth PySem.F.plainAttrs_list PySem.F.slot_list_count PySem.F.type_list_count m_count (tv_list (.inr rfl)) ho ha (atB_ok h2) few h3 s l
          | join => exact e_mth PySem.F.plainAttrs_str PySem.F.slot_str_join PySem.F.type_str_join m_join (tv_str (.inl rfl)) ho ha (atB_ok h2) few h3 s l
          | split => exact e_mth PySem.F.plainAttrs_str PySem.F.slot_str_split PySem.F.type_str_split m_split (tv_str (.inr (.inl rfl))) ho ha (atB_ok h2) few h3 s l
          | startswith => exact e_mth PySem.F.plainAttrs_str PySem.F.slot_str_startswith PySem.F.type_str_startswith m_starts (tv_str (.inr (.inr rfl))) ho ha (atB_ok h2) few h3 s l
      · cases h
    | _ => cases h
  | _ => cases h
theorem pts_cond {X : Cx} {b : Bool} {f : Eta → M D} {ch : Expr → Bool} {ifs : List Expr} (h1 : ∀ c, ch c = true → PT X c (tB (pm X cA) W (asB f))) (h : (match ifs with
  | [] => b
  | [c] => !b && ch c
  | _ => false) = true) : PTs X ifs (tB (pm X cA) W (ctest b f)) := by
  rcases ifs with _ | ⟨c, _ | ⟨_, _⟩⟩
  · have hb : b = true := h
    subst hb
    exact ⟨fun pins s σ H Q I ⟨E0, F, η, ω, g, z⟩ => pts_nil.run pins s σ H Q I (z true F H (Same.refl _) g rfl)⟩
  · obtain ⟨h2, h3⟩ := and3 h
    have hb : b = false := by simpa using h2
    subst hb
    exact pts_one (h1 c h3)
  · cases h
/-- a comprehension: as a value, as a list of its own, stored at once -/
theorem comp_core (hy : Hy C X cA W k sc) {elt it cond : E} {tg : List Nat} {one : Bool}
    (L : ∀ {X : Cx} {W : WX} {sc : Scope}, Hy C X cA W k sc → Sn C X cA W k sc elt) (I : Sn C X cA W k sc it) (K : ∀ {X : Cx} {W : WX} {sc : Scope}, Hy C X cA W k sc → Sn C X cA W k sc cond)
    {ex : Expr} (h : (chkX C (.comp elt tg one it cond)).e sc ex = true) :
    PE X ex (tLcM X cA W (ev (Fs C.T k) it) (ctest (isNoe cond) (ev (Fs C.T k) cond)) (ev (Fs C.T k) elt) tg one) ∧
    ∀ (i : Nat) (y : Str) (py spos : Pos), X.N[i]? = some y → X.env.scope.names.lookup y = some .local → swapsWith ex (some (.Name y py)) spos.line X.env = pure true →
      PS X (.Assign [.Name y py] ex spos) (tAsg (tLcM X cA W (ev (Fs C.T k) it) (ctest (isNoe cond) (ev (Fs C.T k) cond)) (ev (Fs C.T k) elt) tg one) (gName i)) := by
  cases ex with
  | ListComp el gs scope pos =>
    rcases gs with _ | ⟨g, _ | ⟨_, _⟩⟩
    · cases h
    · obtain ⟨tge, iter, ifs, asy⟩ := g
      obtain ⟨h1, h7⟩ := and3 h
      obtain ⟨h1, h6⟩ := and3 h1
      obtain ⟨h1, h5⟩ := and3 h1
      obtain ⟨h1, h4⟩ := and3 h1
      obtain ⟨h1, h3⟩ := and3 h1
      obtain ⟨h1, h2⟩ := and3 h1
      have e : asy = 0 := of_decide_eq_true h1
      subst e
      obtain ⟨own, rfl, ok⟩ := blkB_ok hy.N hy.sc h3
      have hg : ∀ (s : Shared) (H : Hp) (A : Addr) (cl : List (Str × Addr)) (fp : List Addr), PG (X.blk s H scope (compEnvC scope cl A X.env) fp) tge (gTg X.K (own.map (·.2)) one) := fun s H A cl fp => by
        have b := hy.blk s H scope cl A fp
        exact tgB_ok b.N b.nd b.sc (fun x hx => by
          have := of_decide_eq_true hx
          show (scope.names.lookup x == some .cell) = true
          rw [this]; rfl) b.calm h4
      have ht : ∀ (s : Shared) (H : Hp) (A : Addr) (cl : List (Str × Addr)) (fp : List Addr), PTs (X.blk s H scope (compEnvC scope cl A X.env) fp) ifs (tB (pm X cA) W0 (ctest (isNoe cond) (ev (Fs C.T k) cond))) := fun s H A cl fp => by
        have b := hy.blk s H scope cl A fp
        exact pts_cond (ch := (chkX C cond).t (relS scope sc)) (fun c hc => (K b).t c hc) h5
      have he : ∀ (s : Shared) (H : Hp) (A : Addr) (cl : List (Str × Addr)) (fp : List Addr), PE (X.blk s H scope (compEnvC scope cl A X.env) fp) el (tE (pm X cA) W0 (ev (Fs C.T k) elt)) := fun s H A cl fp => (L (hy.blk s H scope cl A fp)).e _ h6
      have nd : X.N.Nodup := by rw [hy.N]; exact hy.nd
      exact ⟨e_comp hy.calm nd (I.i _ _ h2) ok hg ht he (nset_fold h7), fun i y py spos z1 z2 z3 => ps_setLc hy.calm nd z1 z2 z3 (I.i _ _ h2) ok hg ht he (nset_fold h7)⟩
    · cases h
  | _ => cases h
theorem sn_comp (hy : Hy C X cA W k sc) {elt it cond : E} {tg : List Nat} {one : Bool}
    (L : ∀ {X : Cx} {W : WX} {sc : Scope}, Hy C X cA W k sc → Sn C X cA W k sc elt) (I : Sn C X cA W k sc it) (K : ∀ {X : Cx} {W : WX} {sc : Scope}, Hy C X cA W k sc → Sn C X cA W k sc cond) : Sn C X cA W k sc (.comp elt tg one it cond) :=
  Sn.ofE rfl (fun ex h => (comp_core hy L I K h).1.imp fun σ H Q z => lcE z) fun ex h => (comp_core hy L I K h).1.imp fun σ H Q z => lcF z
theorem sn_rng1 (hy : Hy C X cA W k sc) {a : E} (A : Sn C X cA W k sc a) : Sn C X cA W k sc (.rng1 a) := Sn.ofI rfl fun tg ex h => by
  cases ex with
  | Call g ys kw q =>
    cases g with
    | Name x p =>
      rcases kw with _ | ⟨_, _⟩ <;> rcases ys with _ | ⟨y, _ | ⟨_, _⟩⟩ <;> try cases h
      obtain ⟨h1, h4⟩ := and3 h
      obtain ⟨h1, h3⟩ := and3 h1
      obtain ⟨h1, h2⟩ := and3 h1
      have e := of_decide_eq_true h1
      subst e
      exact i_rng1 (glB_ok hy.sc h2) (hy.bi _ (by decide +kernel)) (A.e _ h3) (nsB_star h4)
    | _ => cases h
  | _ => cases h
theorem sn_rng2 (hy : Hy C X cA W k sc) {a b : E} (A : Sn C X cA W k sc a) (B : Sn C X cA W k sc b) : Sn C X cA W k sc (.rng2 a b) := Sn.ofI rfl fun tg ex h => by
  cases ex with
  | Call g ys kw q =>
    cases g with
    | Name x p =>
      rcases kw with _ | ⟨_, _⟩ <;> rcases ys with _ | ⟨y, _ | ⟨z, _ | ⟨_, _⟩⟩⟩ <;> try cases h
      obtain ⟨h1, h6⟩ := and3 h
      obtain ⟨h1, h5⟩ := and3 h1
      obtain ⟨h1, h4⟩ := and3 h1
      obtain ⟨h1, h3⟩ := and3 h1
      obtain ⟨h1, h2⟩ := and3 h1
      have e := of_decide_eq_true h1
      subst e
      exact i_rng2 (glB_ok hy.sc h2) (hy.bi _ (by decide +kernel)) (A.e _ h3) (B.e _ h5) (by rw [nsB_star h4, nsB_star h6]; rfl) (nsB_star h6)
    | _ => cases h
  | _ => cases h
theorem sn_rng3 (hy : Hy C X cA W k sc) {a b c : E} (A : Sn C X cA W k sc a) (B : Sn C X cA W k sc b) (K : Sn C X cA W k sc c) : Sn C X cA W k sc (.rng3 a b c) := Sn.ofI rfl fun tg ex h => by
  cases ex with
  | Call g ys kw q =>
    cases g with
    | Name x p =>
      rcases kw with _ | ⟨_, _⟩ <;> rcases ys with _ | ⟨y, _ | ⟨z, _ | ⟨u, _ | ⟨_, _⟩⟩⟩⟩ <;> try cases h
      obtain ⟨h1, h8⟩ := and3 h
      obtain ⟨h1, h7⟩ := and3 h1
      obtain ⟨h1, h6⟩ := and3 h1
      obtain ⟨h1, h5⟩ := and3 h1
      obtain ⟨h1, h4⟩ := and3 h1
      obtain ⟨h1, h3⟩ := and3 h1
      obtain ⟨h1, h2⟩ := and3 h1
      have e := of_decide_eq_true h1
      subst e
      exact i_rng3 (glB_ok hy.sc h2) (hy.bi _ (by decide +kernel)) (A.e _ h3) (B.e _ h5) (K.e _ h7) (nsB_star h4) (nsB_star h6) (nsB_star h8) (nsB_pl (by simp only [List.all_cons, List.all_nil, h6, h8, Bool.and_self]))
    | _ => cases h
  | _ => cases h
theorem sn_enm (hy : Hy C X cA W k sc) {a : E} (A : Sn C X cA W k sc a) : Sn C X cA W k sc (.enm a) := Sn.ofI rfl fun tg ex h => by
  cases ex with
  | Call g ys kw q =>
    cases g with
    | Name x p =>
      rcases kw with _ | ⟨_, _⟩ <;> rcases ys with _ | ⟨y, _ | ⟨_, _⟩⟩ <;> try cases h
      obtain ⟨h1, h5⟩ := and3 h
      obtain ⟨h1, h4⟩ := and3 h1
      obtain ⟨h1, h3⟩ := and3 h1
      obtain ⟨h1, h2⟩ := and3 h1
      have e := of_decide_eq_true h1
      subst e
      cases tg with
      | Tuple es j p2 => exact i_enum (glB_ok hy.sc h2) (hy.bi _ (by decide +kernel)) (A.e _ h3) (nsB_star h4)
      | _ => cases h5
    | _ => cases h
  | _ => cases h
theorem sn_zip (hy : Hy C X cA W k sc) {a b : E} (A : Sn C X cA W k sc a) (B : Sn C X cA W k sc b) : Sn C X cA W k sc (.zip a b) := Sn.ofI rfl fun tg ex h => by
  cases ex with
  | Call g ys kw q =>
    cases g with
    | Name x p =>
      rcases kw with _ | ⟨_, _⟩ <;> rcases ys with _ | ⟨y, _ | ⟨z, _ | ⟨_, _⟩⟩⟩ <;> try cases h
      obtain ⟨h1, h9⟩ := and3 h
      obtain ⟨h1, h8⟩ := and3 h1
      obtain ⟨h1, h7⟩ := and3 h1
      obtain ⟨h1, h6⟩ := and3 h1
      obtain ⟨h1, h5⟩ := and3 h1
      obtain ⟨h1, h4⟩ := and3 h1
      obtain ⟨h1, h3⟩ := and3 h1
      obtain ⟨h1, h2⟩ := and3 h1
      have e := of_decide_eq_true h1
      subst e
      cases tg with
      | Tuple es j p2 =>
        have := i_zip (elts := es) (kk := j) (tpos := p2) (pos := q) (p := p) (glB_ok hy.sc h2) (hy.bi _ (by decide +kernel)) (A.e _ h5) (B.e _ h7) (nsB_star h6) (nsB_star h8) (nsB_pl (by simp only [List.all_cons, List.all_nil, h8, Bool.and_self]))
        refine this.imp fun σ H R z => ?_
        have e1 : late a = none := Option.isNone_iff_eq_none.mp h3
        have e2 : late b = none := Option.isNone_iff_eq_none.mp h4
        have e3 : ev (Fs C.T k) (.zip a b) = fun η ω => (opd2 (late a) (late b) (ev (Fs C.T k) a) (ev (Fs C.T k) b) η ω).bnd fun p ω => onL p.1 fun xs => onL p.2 fun ys => .ok (.lst (zipD xs ys)) ω := rfl
        rw [e3, e1, e2] at z
        exact z
      | _ => cases h9
    | _ => cases h
  | _ => cases h
/-- THE CHECKS OF EXPRESSIONS ARE RIGHT -/
theorem sn (e : E) : ∀ {X : Cx} {W : WX} {sc : Scope}, Hy C X cA W k sc → Sn C X cA W k sc e := by
  induction e with
  | cst d => exact fun _ => sn_cst d
  | glo x d => exact fun hy => sn_glo hy x d
  | var i => exact fun hy => sn_var hy i
  | own i => exact fun _ => sn_own i
  | neg a A => exact fun hy => sn_neg (A hy)
  | bin o a b A B => exact fun hy => sn_bin hy o (A hy) (B hy)
  | cmp o a b A B => exact fun hy => sn_cmp hy o (A hy) (B hy)
  | ch2 o p a b c A B K => exact fun hy => sn_ch2 hy o p (A hy) (B hy) (K hy)
  | ch3 o p q a b c d A B K F => exact fun hy => sn_ch3 hy o p q (A hy) (B hy) (K hy) (F hy)
  | isN a A => exact fun hy => sn_isN (A hy)
  | notN a A => exact fun hy => sn_notN (A hy)
  | and a b A B => exact fun hy => sn_and (A hy) (B hy)
  | or a b A B => exact fun hy => sn_or (A hy) (B hy)
  | not a A => exact fun hy => sn_not (A hy)
  | ife c a b K A B => exact fun hy => sn_ife (K hy) (A hy) (B hy)
  | lst es A => exact fun hy => sn_lst (A hy)
  | tup es A => exact fun hy => sn_tup (A hy)
  | idx a b A B => exact fun hy => sn_idx hy (A hy) (B hy)
  | slc a lo hi A L H => exact fun hy => sn_slc hy (A hy) (L hy) (H hy)
  | rev a A => exact fun hy => sn_rev hy (A hy)
  | noe => exact fun _ => sn_noe
  | call f es A => exact fun hy => sn_call hy f (A hy)
  | callO f i es A => exact fun hy => sn_callO hy f i (A hy)
  | blt b es A => exact fun hy => sn_blt hy b (A hy)
  | isi a ts A => exact fun hy => sn_isi hy ts (A hy)
  | mth m o es O A => exact fun hy => sn_mth hy m (O hy) (A hy)
  | comp elt tg one it cond L I K => exact fun hy => sn_comp hy L (I hy) K
  | nil => exact fun _ => sn_nil
  | splat a es A B => exact fun hy => sn_splat (A hy) (B hy)
  | fcons a es A B => exact fun hy => sn_fcons (A hy) (B hy)
  | callK f es js A => exact fun hy => sn_callK hy f js (A hy)
  | cons e es A B => exact fun hy => sn_cons hy (A hy) (B hy)
  | rng1 a A => exact fun hy => sn_rng1 hy (A hy)
  | rng2 a b A B => exact fun hy => sn_rng2 hy (A hy) (B hy)
  | rng3 a b c A B K => exact fun hy => sn_rng3 hy (A hy) (B hy) (K hy)
  | enm a A => exact fun hy => sn_enm hy (A hy)
  | zip a b A B => exact fun hy => sn_zip hy (A hy) (B hy)
end
end Mp

/-! Mp: is this written text that statement? The checks and their meaning. -/
namespace Mp
open PySem PySem.Spec PyProof.Rows L2

/-! ### stores from the right -/
/-- what `swappedStores` says, by the scope alone (none: nothing) -/
def bkF (sc : Scope) : ScopeKind := if sc.kind.isAnnotationScope then .function else sc.kind
def swpF (bk : ScopeKind) (sc : Scope) (ts vs : List Expr) : Option (Option (List Str)) :=
  if (!(ts.length == 2 || ts.length == 3) || vs.length != ts.length || bk != .function) = true then some none else
  if (vs.any fun | .Starred .. => true | _ => false) = true then some none else
  let line := (ts.head?.map (·.pos.line)).getD 0
  let names := ts.filterMap fun
    | .Name id pos => if (sc.names.lookup id == some .local && pos.line == line) = true then some id else none
    | _ => none
  if (names.length != ts.length || names.eraseDups.length != names.length) = true then some none else
  if vs.all (foldedForSure 8) = true then some none else
  if vs.all (constantsAlone 8) = true then none else some (some names)
theorem swpF_ok {env : Env} {ts vs : List Expr} {k k2 : Nat} {p p2 : Pos} {r : Option (List Str)} (h : swpF (bkF env.scope) env.scope ts vs = some r) : swappedStores [.Tuple ts k p] (.Tuple vs k2 p2) env = pure r := by
  have e : bkF env.scope = env.blockKind := rfl
  rw [e] at h
  unfold swpF at h
  unfold swappedStores
  simp only [pure_bind]
  dsimp only [Env.kindOf]
  split at h
  · rename_i h1
    refine Eq.trans (if_pos h1) ?_
    cases h; rfl
  · rename_i h1
    refine Eq.trans (if_neg h1) ?_
    split at h
    · rename_i h2
      refine Eq.trans (if_pos h2) ?_
      cases h; rfl
    · rename_i h2
      refine Eq.trans (if_neg h2) ?_
      dsimp only at h
      split at h
      · rename_i h3
        refine Eq.trans (if_pos h3) ?_
        cases h; rfl
      · rename_i h3
        refine Eq.trans (if_neg h3) ?_
        split at h
        · rename_i h4
          refine Eq.trans (if_pos h4) ?_
          cases h; rfl
        · rename_i h4
          refine Eq.trans (if_neg h4) ?_
          split at h
          · cases h
          · rename_i h5
            refine Eq.trans (if_neg h5) ?_
            cases h; rfl
/-- a comprehension that is stored at once -/
def swcB (sc : Scope) (t : Str) (p : Pos) : Expr → Bool
  | .ListComp _ _ s vp => (bkF sc == .function) && sc.names.lookup t == some .local && p.line == vp.line && !(s.names.any fun (n, k) => n == t && (k == .local || k == .cell))
  | _ => false

structure ChkS where
  one : Scope → Stmt → Bool
  all : Scope → List Stmt → Bool
def noS : Scope → Stmt → Bool := fun _ _ => false
def noL : Scope → List Stmt → Bool := fun _ _ => false
def ChkS.of (f : Scope → Stmt → Bool) : ChkS := ⟨f, noL⟩
def yesF : Str → Bool := fun _ => true
def isComp : E → Bool
  | .comp .. => true
  | _ => false
def tupOf : E → Option E
  | .tup es => some es
  | _ => none
def asgB (o : Op2) : Bool := decide (o = .add) || decide (o = .sub) || decide (o = .mul)
def nameX (C : Cfg) (sc : Scope) (i : Nat) (x : Str) : Bool := decide (C.N[i]? = some x) && locB sc x
def asg1 : Stmt → Option (Str × List Expr)
  | .Assign [.Name x _] (.List xs _) _ => some (x, xs)
  | _ => none
theorem asg1_ok {st : Stmt} {x : Str} {xs : List Expr} (h : asg1 st = some (x, xs)) : ∃ px pl pos, st = .Assign [.Name x px] (.List xs pl) pos := by
  unfold asg1 at h
  split at h
  · cases h; exact ⟨_, _, _, rfl⟩
  · cases h
def forApp : Stmt → Option (Str × Str)
  | .For (.Name y _) (.Name z _) [.Expr (.Call (.Attribute (.Name y2 _) nm ap) [.Constant (.int _) _ _] [] p5) _] [] _ => if (decide (y2 = y) && decide (nm = "append") && (ap.endLine == p5.line)) = true then some (y, z) else none
  | _ => none
theorem forApp_ok {st : Stmt} {y z : Str} (h : forApp st = some (y, z)) : ∃ py pz py2 ap n kk p4 p5 p6 pos, st = .For (.Name y py) (.Name z pz) [.Expr (.Call (.Attribute (.Name y py2) "append" ap) [.Constant (.int n) kk p4] [] p5) p6] [] pos ∧ (ap.endLine == p5.line) = true := by
  unfold forApp at h
  split at h
  · split at h
    · rename_i hc
      cases h
      simp only [Bool.and_eq_true, decide_eq_true_eq] at hc
      obtain ⟨⟨e1, e2⟩, e3⟩ := hc
      subst e1; subst e2
      exact ⟨_, _, _, _, _, _, _, _, _, _, rfl, e3⟩
    · cases h
  · cases h
def chkS (C : Cfg) : S → ChkS
  | .skip => ⟨fun _ st => match st with
      | .Pass _ => true
      | _ => false, fun _ sts => sts.isEmpty⟩
  | .never => ⟨fun _ _ => true, fun _ _ => true⟩
  | .frz _ => .of noS
  | .spoil _ _ _ => .of noS
  | .seq s t => let A := chkS C s; let B := chkS C t; ⟨noS, fun sc sts => match s with
      | .frz _ => B.all sc sts
      | .spoil i j es => (match sts with
        | s1 :: s2 :: rest => (match asg1 s1, forApp s2 with
          | some (x, xs), some (y, z) => nameX C sc i x && nameX C sc j y && decide (i ≠ j) && nmOk x && nmOk y && decide (z = x) && (chkX C es).a sc xs && B.all sc rest
          | _, _ => false)
        | _ => false)
      | _ => (match sts with
        | st :: rest => A.one sc st && B.all sc rest
        | [] => false)⟩
  | .expr e => let A := chkX C e; .of fun sc st => match st with
      | .Expr v _ => ncB v && A.e sc v
      | _ => false
  | .asg i e => let A := chkX C e; .of fun sc st => match st with
      | .Assign [.Name x p] v _ => nameT C sc yesF i (.Name x p) && A.e sc v && (ncB v || isComp e)
      | _ => false
  | .asgO i e => let A := chkX C e; .of fun sc st => match st with
      | .Assign [.Name x p] v _ => nameT C sc yesF i (.Name x p) && A.f sc v && (ncB v || isComp e)
      | _ => false
  | .unp is e => let A := chkX C e; .of fun sc st => match st with
      | .Assign [.Tuple ts k p] v _ => (match v with
        | .Tuple vs _ _ => (match swpF (bkF sc) sc ts vs with
          | some none => tgB C sc yesF is false (.Tuple ts k p) && A.e sc v
          | some (some ns) => (match is, ts with
            | [i, j], [.Name x _, .Name y _] => decide (ns = [x, y]) && decide (C.N[i]? = some x) && decide (C.N[j]? = some y) && decide (i ≠ j) && lclB sc x && lclB sc y && A.e sc v
            | [i, j, l], [.Name x _, .Name y _, .Name z _] => decide (ns = [x, y, z]) && decide (C.N[i]? = some x) && decide (C.N[j]? = some y) && decide (C.N[l]? = some z) && decide (i ≠ j) && decide (i ≠ l) && decide (j ≠ l) && lclB sc x && lclB sc y && lclB sc z && A.e sc v
            | _, _ => false)
          | none => false)
        | _ => tgB C sc yesF is false (.Tuple ts k p) && A.e sc v && ncB v)
      | _ => false
  | .aug i o e => let A := chkX C e; .of fun sc st => match st with
      | .AugAssign (.Name x p) op v _ => nameT C sc yesF i (.Name x p) && opB o op && asgB o && A.e sc v
      | _ => false
  | .setO i k e => let K := chkX C k; let A := chkX C e; .of fun sc st => match st with
      | .Assign [.Subscript n ki _] v _ => nameI C sc i n && K.e sc ki && A.e sc v && ncB v && nslB ki
      | _ => false
  | .augO i k o e => let K := chkX C k; let A := chkX C e; .of fun sc st => match st with
      | .AugAssign (.Subscript n ki _) op v _ => nameI C sc i n && K.e sc ki && opB o op && asgB o && A.e sc v && nslB ki
      | _ => false
  | .app i e => let A := chkX C e; .of fun sc st => match st with
      | .Expr (.Call (.Attribute n nm ap) [v] [] p) _ => nameI C sc i n && decide (nm = "append") && A.e sc v && nsB v && (ap.endLine == p.line)
      | _ => false
  | .ext i e => let A := chkX C e; .of fun sc st => match st with
      | .Expr (.Call (.Attribute n nm ap) [v] [] p) _ => nameI C sc i n && decide (nm = "extend") && A.e sc v && nsB v && (ap.endLine == p.line)
      | _ => false
  | .ifs c a b => let K := chkX C c; let A := chkS C a; let B := chkS C b; .of fun sc st => match st with
      | .If x sa sb _ => K.t sc x && A.all sc sa && B.all sc sb
      | _ => false
  | .whl c b => let K := chkX C c; let B := chkS C b; .of fun sc st => match st with
      | .While x sb [] _ => K.t sc x && B.all sc sb
      | _ => false
  | .for tg one it b => let I := chkX C it; let B := chkS C b; .of fun sc st => match st with
      | .For t x sb [] _ => tgB C sc yesF tg one t && I.i sc t x && B.all sc sb && nsetB x
      | _ => false
  | .ret e => let A := chkX C e; .of fun sc st => match st with
      | .Return (some v) _ => (match C.fr with
        | true => A.f sc v
        | false => A.e sc v)
      | _ => false
  | .retO i => .of fun sc st => match st with
      | .Return (some v) _ => nameI C sc i v
      | _ => false
  | .retN => .of fun _ st => match st with
      | .Return none _ => true
      | _ => false
  | .brk => .of fun _ st => match st with
      | .Break _ => true
      | _ => false
  | .rais c p => let A := chkX C p; .of fun sc st => match st with
      | .Raise (some (.Call (.Name x _) [v] [] _)) none _ => (match C.RX[c]? with
        | some (y, true) => decide (x = y) && glB sc x && nmOk x && nsB v && A.a sc [v]
        | some (y, false) => decide (x = y) && glB sc x && nmOk x && isNil p && (match v with
          | .Constant (.str _) _ _ => true
          | _ => false)
        | none => false)
      | _ => false
section
variable {C : Cfg} {X : Cx} {cA : Nat → Addr} {W : WX} {k : Nat} {sc : Scope} {E0 : Ent}
variable {pos : Pos}
structure HyS (C : Cfg) (X : Cx) (cA : Nat → Addr) (W : WX) (k : Nat) (sc : Scope) : Prop extends Hy C X cA W k sc where
  fnall : ∀ x, X.fn x = true
  pass : PassesOwn (model X.prog X.w) X.A X.env X.xe
  rs0 : ∀ ci x, C.RX[ci]? = some (x, false) → Gl X x → (x == ("__debug__" : Str)) = false → ∀ (m : Str) (j : Nat) (p p2 p3 pos : Pos), PS X (.Raise (some (.Call (.Name x p) [.Constant (.str m) j p2] [] p3)) none pos) (tSt (pm X cA) W C.fr fun η ω => (Out.ok ([] : List D) ω).on fun ds ω => .ex ci ds ω)
  rs1 : ∀ ci x, C.RX[ci]? = some (x, true) → Gl X x → (x == ("__debug__" : Str)) = false → ∀ (v : Expr) (f : Eta → M (List D)) (p p3 pos : Pos), nsB v = true → PA X [v] (tA (pm X cA) W f) → PS X (.Raise (some (.Call (.Name x p) [v] [] p3)) none pos) (tSt (pm X cA) W C.fr fun η ω => (f η ω).on fun ds ω => .ex ci ds ω)
structure SnS (C : Cfg) (X : Cx) (cA : Nat → Addr) (W : WX) (k : Nat) (sc : Scope) (s : S) : Prop where
  one : ∀ st, (chkS C s).one sc st = true → PS X st (tSt (pm X cA) W C.fr (evS (Fs C.T k) s))
  all : ∀ sts, (chkS C s).all sc sts = true → PSs X sts (tSt (pm X cA) W C.fr (evS (Fs C.T k) s))
theorem SnS.of {s : S} {f : Scope → Stmt → Bool} (hc : chkS C s = ChkS.of f) (h : ∀ st, f sc st = true → PS X st (tSt (pm X cA) W C.fr (evS (Fs C.T k) s))) : SnS C X cA W k sc s where
  one := fun st z => by rw [hc] at z; exact h st z
  all := fun sts z => by rw [hc] at z; cases z
theorem nameT_ok (hy : HyS C X cA W k sc) {i : Nat} {x : Str} {p : Pos} (h : nameT C sc yesF i (.Name x p) = true) : X.N[i]? = some x ∧ L2.Loc X.env.scope x := by
  obtain ⟨h3, h4⟩ := and3 (show (decide (C.N[i]? = some x) && locB sc x && (yesF x || lclB sc x)) = true from h)
  obtain ⟨h5, h6⟩ := and3 h3
  exact ⟨by rw [hy.N]; exact of_decide_eq_true h5, by rw [hy.sc]; exact locB_ok h6⟩
theorem ncB_sw {v : Expr} {tg : Option Expr} {l : Nat} {env : Env} (h : ncB v = true) : swapsWith v tg l env = pure false := by
  cases v <;> first | rfl | cases h
theorem ncB_swS {v : Expr} {tg : Expr} {l : Nat} {env : Env} (h : ncB v = true) : swapsWithSole [tg] v l env = pure false := by
  cases v <;> first | rfl | cases h
theorem isComp_ok {e : E} (h : isComp e = true) : ∃ a b c d f, e = .comp a b c d f := by
  cases e <;> first | exact ⟨_, _, _, _, _, rfl⟩ | cases h
theorem comp_shape {a d f : E} {b : List Nat} {c : Bool} {v : Expr} (h : (chkX C (.comp a b c d f)).e sc v = true) : ∃ el gs s p, v = .ListComp el gs s p := by
  cases v <;> first | exact ⟨_, _, _, _, rfl⟩ | cases h
theorem swc_eq {el : Expr} {gs : List Comprehension} {s : Scope} {p vp : Pos} {x : Str} {l : Nat} {env : Env} : swapsWith (.ListComp el gs s vp) (some (.Name x p)) l env = pure (swcB env.scope x p (.ListComp el gs s vp)) := rfl
/-- a name is given a value: by which reading -/
theorem asg_any (hy : HyS C X cA W k sc) {i : Nat} {e : E} {x : Str} {p pos : Pos} {v : Expr} (h1 : nameT C sc yesF i (.Name x p) = true) (h3 : (ncB v || isComp e) = true) {T : TE}
    (hT : PE X v T) (hC : isComp e = true → (chkX C e).e sc v = true)
    (hc : ∀ a b c d f, e = .comp a b c d f → ∀ σ H Q, T σ H Q → tLcM X cA W (ev (Fs C.T k) d) (ctest (isNoe f) (ev (Fs C.T k) f)) (ev (Fs C.T k) a) b c σ H Q) :
    ∃ t, PS X (.Assign [.Name x p] v pos) (tAsg t (gName i)) ∧ ∀ σ H Q, T σ H Q → t σ H Q := by
  obtain ⟨g1, g2⟩ := nameT_ok hy h1
  have nd : X.N.Nodup := by rw [hy.N]; exact hy.nd
  by_cases hn : ncB v = true
  · exact ⟨T, ps_set nd g1 g2 hT (ncB_sw hn) (.inl (hy.fnall _)), fun _ _ _ z => z⟩
  · have hi : isComp e = true := by
      rcases Bool.or_eq_true_iff.mp h3 with z | z
      · exact absurd z hn
      · exact z
    have hcc := hC hi
    obtain ⟨a, b, c, d, f, rfl⟩ := isComp_ok hi
    obtain ⟨el, gs, s, vp, rfl⟩ := comp_shape hcc
    cases q : swcB X.env.scope x p (.ListComp el gs s vp) with
    | false => exact ⟨T, ps_set nd g1 g2 hT (by rw [swc_eq, q]) (.inl (hy.fnall _)), fun _ _ _ z => z⟩
    | true =>
      have := (comp_core hy.toHy (fun h => sn a h) (sn d hy.toHy) (fun h => sn f h) hcc).2 i x p pos g1 (by
        obtain ⟨z, _⟩ := and3 (show (((bkF X.env.scope == .function) && X.env.scope.names.lookup x == some .local && p.line == vp.line) && !(s.names.any fun (n, k) => n == x && (k == .local || k == .cell))) = true from q)
        obtain ⟨z, _⟩ := and3 z
        obtain ⟨_, z⟩ := and3 z
        exact beq_iff_eq.mp z) (by rw [swc_eq, q])
      exact ⟨_, this, hc _ _ _ _ _ rfl⟩
theorem ss_asg (hy : HyS C X cA W k sc) (i : Nat) (e : E) : SnS C X cA W k sc (.asg i e) := SnS.of rfl fun st h => by
  cases st with
  | Assign ts v q =>
    rcases ts with _ | ⟨t, _ | ⟨_, _⟩⟩
    · cases h
    · cases t with
      | Name x p =>
        obtain ⟨h1, h3⟩ := and3 h
        obtain ⟨h1, h2⟩ := and3 h1
        obtain ⟨t, g1, g2⟩ := asg_any hy (pos := q) h1 h3 ((sn e hy.toHy).e v h2) (fun _ => h2) fun a b c d f he σ H Q z => by
          subst he
          exact lcE z
        exact s_asg g1 g2
      | _ => cases h
    · cases t <;> cases h
  | _ => cases h
theorem ss_asgO (hy : HyS C X cA W k sc) (i : Nat) (e : E) : SnS C X cA W k sc (.asgO i e) := SnS.of rfl fun st h => by
  cases st with
  | Assign ts v q =>
    rcases ts with _ | ⟨t, _ | ⟨_, _⟩⟩
    · cases h
    · cases t with
      | Name x p =>
        obtain ⟨h1, h3⟩ := and3 h
        obtain ⟨h1, h2⟩ := and3 h1
        obtain ⟨t, g1, g2⟩ := asg_any hy (pos := q) h1 h3 ((sn e hy.toHy).f v h2) (fun hi => by
          obtain ⟨a, b, c, d, f, rfl⟩ := isComp_ok hi
          exact h2) fun a b c d f he σ H Q z => by
          subst he
          exact lcF z
        exact s_asgO g1 g2
      | _ => cases h
    · cases t <;> cases h
  | _ => cases h
theorem tA_mono {f : Eta → M (List D)} {σ : Sg} {H : Hp} {Q Q' : List V → Hp → Prop} (m : ∀ v H, Q v H → Q' v H) (h : tA (pm X cA) W f σ H Q) : tA (pm X cA) W f σ H Q' := by
  obtain ⟨E0, F, η, ω, g, h⟩ := h
  refine ⟨E0, F, η, ω, g, ?_⟩
  cases e : f η ω with
  | st => rw [e] at h; exact h
  | ex c p ω' => rw [e] at h; exact h
  | ok d ω' => rw [e] at h; exact fun v F' H' s g' r => m _ _ (h v F' H' s g' r)
theorem unp_st {is : List Nat} {es : E} : evS (Fs C.T k) (.unp is (.tup es)) = fun η ω => ((evs (Fs C.T k) es η ω).bnd fun xs ω => if xs.length ≤ sizeLine then (Out.ok (D.tup xs) ω) else .st).on fun d ω => if is.any fun i => (look ω i).isSome then .st else onS (bindTg is false d η) fun η' => .nx η' ω := rfl
theorem tup_shape {e : E} {vs : List Expr} {j : Nat} {p : Pos} (h : (chkX C e).e sc (.Tuple vs j p) = true) : ∃ es, e = .tup es ∧ (chkX C es).a sc vs = true := by
  cases e with
  | tup es => exact ⟨es, rfl, h⟩
  | cst d => cases d <;> cases h
  | _ => cases h
theorem ss_unp (hy : HyS C X cA W k sc) (is : List Nat) (e : E) : SnS C X cA W k sc (.unp is e) := SnS.of rfl fun st h => by
  have nd : X.N.Nodup := by rw [hy.N]; exact hy.nd
  cases st with
  | Assign ts v q =>
    rcases ts with _ | ⟨t, _ | ⟨_, _⟩⟩
    · cases h
    · cases t with
      | Tuple ts j p =>
        have gen : tgB C sc yesF is false (.Tuple ts j p) = true → (chkX C e).e sc v = true → ncB v = true → swappedStores [.Tuple ts j p] v X.env = pure none → PS X (.Assign [.Tuple ts j p] v q) (tSt (pm X cA) W C.fr (evS (Fs C.T k) (.unp is e))) := fun g1 g2 g3 g4 =>
          s_unp (tgB_ok hy.N hy.nd hy.sc (fun x _ => hy.fnall x) hy.calm g1) ((sn e hy.toHy).e v g2) (ncB_swS g3) g4 rfl
        by_cases hv : ntB v = true
        · have h' : (tgB C sc yesF is false (.Tuple ts j p) && (chkX C e).e sc v && ncB v) = true := by cases v <;> first | exact h | cases hv
          obtain ⟨h1, h3⟩ := and3 h'
          obtain ⟨h1, h2⟩ := and3 h1
          exact gen h1 h2 h3 (by cases v <;> first | rfl | cases hv)
        · cases v with
          | Tuple vs j2 p2 =>
            dsimp only at h
            cases hs : swpF (bkF sc) sc ts vs with
            | none => rw [hs] at h; cases h
            | some r =>
              have hs' := swpF_ok (k := j) (p := p) (k2 := j2) (p2 := p2) (env := X.env) (by rw [hy.sc]; exact hs)
              rw [hs] at h
              cases r with
              | none =>
                obtain ⟨h1, h2⟩ := and3 h
                exact gen h1 h2 rfl hs'
              | some ns =>
                rcases is with _ | ⟨i, _ | ⟨i2, _ | ⟨i3, _ | ⟨_, _⟩⟩⟩⟩
                · cases h
                · cases h
                · rcases ts with _ | ⟨t1, _ | ⟨t2, _ | ⟨_, _⟩⟩⟩
                  · cases h
                  · cases t1 <;> cases h
                  · cases t1 <;> try cases h
                    cases t2 <;> try cases h
                    rename_i x px y py
                    obtain ⟨h1, h7⟩ := and3 h
                    obtain ⟨h1, h6⟩ := and3 h1
                    obtain ⟨h1, h5⟩ := and3 h1
                    obtain ⟨h1, h4⟩ := and3 h1
                    obtain ⟨h1, h3⟩ := and3 h1
                    obtain ⟨h1, h2⟩ := and3 h1
                    have e1 := of_decide_eq_true h1
                    subst e1
                    obtain ⟨es, rfl, h8⟩ := tup_shape h7
                    rw [unp_st]
                    have hA := (sn es hy.toHy).a vs h8
                    have lv : ∃ a b, vs = [a, b] := by
                      unfold swpF at hs
                      split at hs
                      · cases hs
                      · rename_i z
                        rcases vs with _ | ⟨a, _ | ⟨b, _ | ⟨_, _⟩⟩⟩
                        · simp at z
                        · simp at z
                        · exact ⟨a, b, rfl⟩
                        · simp at z
                    obtain ⟨a, b, rfl⟩ := lv
                    refine s_par (t := tA (pm X cA) W (evs (Fs C.T k) es)) ((ps_par hy.calm nd (by rw [hy.N]; exact of_decide_eq_true h2) (by rw [hy.N]; exact of_decide_eq_true h3) (of_decide_eq_true h4) (by rw [hy.sc]; exact lclB_ok h5) (by rw [hy.sc]; exact lclB_ok h6) hA hs' rfl).imp fun Dn σ H z => tA_mono (fun ws H1 z => ?_) z) fun _ _ _ z => z
                    obtain ⟨v1, r1, e1, z⟩ := z
                    obtain ⟨v2, r2, e2, z⟩ := z
                    obtain ⟨e3, z⟩ := z
                    subst e3; subst e2
                    exact ⟨v1, v2, e1, z⟩
                  · cases t1 <;> try cases h
                    cases t2 <;> cases h
                · rcases ts with _ | ⟨t1, _ | ⟨t2, _ | ⟨t3, _ | ⟨_, _⟩⟩⟩⟩
                  · cases h
                  · cases t1 <;> cases h
                  · cases t1 <;> try cases h
                    cases t2 <;> cases h
                  · cases t1 <;> try cases h
                    cases t2 <;> try cases h
                    cases t3 <;> try cases h
                    rename_i x px y py w pw
                    obtain ⟨h1, h11⟩ := and3 h
                    obtain ⟨h1, h10⟩ := and3 h1
                    obtain ⟨h1, h9⟩ := and3 h1
                    obtain ⟨h1, h8⟩ := and3 h1
                    obtain ⟨h1, h7⟩ := and3 h1
                    obtain ⟨h1, h6⟩ := and3 h1
                    obtain ⟨h1, h5⟩ := and3 h1
                    obtain ⟨h1, h4⟩ := and3 h1
                    obtain ⟨h1, h3⟩ := and3 h1
                    obtain ⟨h1, h2⟩ := and3 h1
                    have e1 := of_decide_eq_true h1
                    subst e1
                    obtain ⟨es, rfl, h12⟩ := tup_shape h11
                    rw [unp_st]
                    have hA := (sn es hy.toHy).a vs h12
                    have lv : ∃ a b c, vs = [a, b, c] := by
                      unfold swpF at hs
                      split at hs
                      · cases hs
                      · rename_i z
                        rcases vs with _ | ⟨a, _ | ⟨b, _ | ⟨c, _ | ⟨_, _⟩⟩⟩⟩
                        · simp at z
                        · simp at z
                        · simp at z
                        · exact ⟨a, b, c, rfl⟩
                        · simp at z
                    obtain ⟨a, b, c, rfl⟩ := lv
                    refine s_par (t := tA (pm X cA) W (evs (Fs C.T k) es)) ((ps_par3 hy.calm nd (by rw [hy.N]; exact of_decide_eq_true h2) (by rw [hy.N]; exact of_decide_eq_true h3) (by rw [hy.N]; exact of_decide_eq_true h4) (of_decide_eq_true h5) (of_decide_eq_true h6) (of_decide_eq_true h7) (by rw [hy.sc]; exact lclB_ok h8) (by rw [hy.sc]; exact lclB_ok h9) (by rw [hy.sc]; exact lclB_ok h10) hA hs' rfl).imp fun Dn σ H z => tA_mono (fun ws H1 z => ?_) z) fun _ _ _ z => z
                    obtain ⟨v1, r1, e1, z⟩ := z
                    obtain ⟨v2, r2, e2, z⟩ := z
                    obtain ⟨v3, r3, e3, z⟩ := z
                    obtain ⟨e4, z⟩ := z
                    subst e4; subst e3; subst e2
                    exact ⟨v1, v2, v3, e1, z⟩
                  · cases t1 <;> try cases h
                    cases t2 <;> try cases h
                    cases t3 <;> cases h
                · cases h
          | _ => exact absurd rfl hv
      | _ => cases h
    · cases t <;> cases h
  | _ => cases h
end
end Mp

/-! Mp: the checks of statements are right; defs. -/
namespace Mp
open PySem PySem.Spec PyProof.Rows L2
section
variable {C : Cfg} {X : Cx} {cA : Nat → Addr} {W : WX} {k : Nat} {sc : Scope} {E0 : Ent}
variable {pos : Pos}
theorem asgB_ok {o : Op2} (h : asgB o = true) : o = .add ∨ o = .sub ∨ o = .mul := by
  cases o <;> first | exact .inl rfl | exact .inr (.inl rfl) | exact .inr (.inr rfl) | cases h
theorem ss_skip : SnS C X cA W k sc .skip where
  one := fun st h => by
    cases st with
    | Pass p => exact s_pass
    | _ => cases h
  all := fun sts h => by
    cases sts with
    | nil => exact s_nil
    | cons _ _ => cases h
theorem ss_never' : SnS C X cA W k sc .never where
  one := fun st h => s_never
  all := fun sts h => ss_never
theorem ss_seq (hy : HyS C X cA W k sc) {s t : S} (A : SnS C X cA W k sc s) (B : SnS C X cA W k sc t) : SnS C X cA W k sc (.seq s t) where
  one := fun st h => by cases h
  all := fun sts h => by
    have gen : ∀ (st : Stmt) (rest : List Stmt), ((chkS C s).one sc st && (chkS C t).all sc rest) = true → PSs X (st :: rest) (tSt (pm X cA) W C.fr (evS (Fs C.T k) (.seq s t))) := fun st rest z => by
      obtain ⟨h1, h2⟩ := and3 z
      exact s_cons (A.one st h1) (B.all rest h2)
    cases s with
    | frz i => exact ss_frz rfl (B.all sts h)
    | spoil i j es =>
      rcases sts with _ | ⟨s1, _ | ⟨s2, rest⟩⟩
      · cases h
      · cases h
      · have h' : (match asg1 s1, forApp s2 with
          | some (x, xs), some (y, z) => nameX C sc i x && nameX C sc j y && decide (i ≠ j) && nmOk x && nmOk y && decide (z = x) && (chkX C es).a sc xs && (chkS C t).all sc rest
          | _, _ => false) = true := h
        cases q1 : asg1 s1 with
        | none => rw [q1] at h'; cases h'
        | some p1 =>
          obtain ⟨x, xs⟩ := p1
          cases q2 : forApp s2 with
          | none => rw [q1, q2] at h'; cases h'
          | some p2 =>
            obtain ⟨y, z⟩ := p2
            rw [q1, q2] at h'
            obtain ⟨px, pl, pos1, rfl⟩ := asg1_ok q1
            obtain ⟨py, pz, py2, ap, n, kk, p4, p5, p6, pos2, rfl, hl⟩ := forApp_ok q2
            obtain ⟨h1, h8⟩ := and3 h'
            obtain ⟨h1, h7⟩ := and3 h1
            obtain ⟨h1, h6⟩ := and3 h1
            obtain ⟨h1, h5⟩ := and3 h1
            obtain ⟨h1, h4⟩ := and3 h1
            obtain ⟨h1, h3⟩ := and3 h1
            obtain ⟨h1, h2⟩ := and3 h1
            obtain ⟨g1, g2⟩ := and3 h1
            obtain ⟨g3, g4⟩ := and3 h2
            have e6 := of_decide_eq_true h6
            rw [e6]
            exact ss_spoil hy.pass hy.calm (by rw [hy.N]; exact hy.nd) (of_decide_eq_true h3) (by rw [hy.N]; exact of_decide_eq_true g1) (by rw [hy.N]; exact of_decide_eq_true g3) (by rw [hy.sc]; exact locB_ok g2) (by rw [hy.sc]; exact locB_ok g4) hy.fnall h4 h5 ((sn es hy.toHy).a _ h7) hl (B.all rest h8)
    | _ =>
      cases sts with
      | nil => cases h
      | cons st rest => exact gen st rest h
theorem ss_frz' (i : Nat) : SnS C X cA W k sc (.frz i) := SnS.of rfl fun st h => by cases h
theorem ss_expr (hy : HyS C X cA W k sc) (e : E) : SnS C X cA W k sc (.expr e) := SnS.of rfl fun st h => by
  cases st with
  | Expr v p =>
    obtain ⟨h1, h2⟩ := and3 h
    exact s_expr ((sn e hy.toHy).e v h2) (ncB_sw h1)
  | _ => cases h
theorem ss_aug (hy : HyS C X cA W k sc) (i : Nat) (o : Op2) (e : E) : SnS C X cA W k sc (.aug i o e) := SnS.of rfl fun st h => by
  cases st with
  | AugAssign t op v p =>
    cases t with
    | Name x q =>
      obtain ⟨h1, h4⟩ := and3 h
      obtain ⟨h1, h3⟩ := and3 h1
      obtain ⟨h1, h2⟩ := and3 h1
      obtain ⟨g1, g2⟩ := nameT_ok hy h1
      rw [opB_ok h2]
      exact s_aug o (asgB_ok h3) (by rw [hy.N]; exact hy.nd) g1 g2 ((sn e hy.toHy).e v h4) (.inl (hy.fnall _))
    | _ => cases h
  | _ => cases h
theorem ss_setO (hy : HyS C X cA W k sc) (i : Nat) (kk e : E) : SnS C X cA W k sc (.setO i kk e) := SnS.of rfl fun st h => by
  cases st with
  | Assign ts v q =>
    rcases ts with _ | ⟨t, _ | ⟨_, _⟩⟩
    · cases h
    · cases t with
      | Subscript n ki p =>
        obtain ⟨h1, h5⟩ := and3 h
        obtain ⟨h1, h4⟩ := and3 h1
        obtain ⟨h1, h3⟩ := and3 h1
        obtain ⟨h1, h2⟩ := and3 h1
        obtain ⟨x, px, rfl, g1, g2, g3, g4⟩ := nameI_ok hy.toHy h1
        exact s_setO g1 g2 g3 g4 ((sn kk hy.toHy).e _ h2) ((sn e hy.toHy).e _ h3) (ncB_swS h4) (by cases v <;> rfl) rfl (fun v => by cases ki <;> first | rfl | cases h5)
      | _ => cases h
    · cases t <;> cases h
  | _ => cases h
theorem ss_augO (hy : HyS C X cA W k sc) (i : Nat) (kk : E) (o : Op2) (e : E) : SnS C X cA W k sc (.augO i kk o e) := SnS.of rfl fun st h => by
  cases st with
  | AugAssign t op v q =>
    cases t with
    | Subscript n ki p =>
      obtain ⟨h1, h6⟩ := and3 h
      obtain ⟨h1, h5⟩ := and3 h1
      obtain ⟨h1, h4⟩ := and3 h1
      obtain ⟨h1, h3⟩ := and3 h1
      obtain ⟨h1, h2⟩ := and3 h1
      obtain ⟨x, px, rfl, g1, g2, g3, g4⟩ := nameI_ok hy.toHy h1
      rw [opB_ok h3]
      exact s_augO o (asgB_ok h4) g1 g2 g3 g4 ((sn kk hy.toHy).e _ h2) ((sn e hy.toHy).e _ h5) (fun ov iv new => by cases ki <;> first | rfl | cases h6)
    | _ => cases h
  | _ => cases h
theorem ss_app (hy : HyS C X cA W k sc) (i : Nat) (e : E) : SnS C X cA W k sc (.app i e) := SnS.of rfl fun st h => by
  cases st with
  | Expr w q =>
    cases w with
    | Call f ys kw p =>
      cases f with
      | Attribute n nm ap =>
        rcases kw with _ | ⟨_, _⟩ <;> rcases ys with _ | ⟨v, _ | ⟨_, _⟩⟩ <;> try cases h
        obtain ⟨h1, h5⟩ := and3 h
        obtain ⟨h1, h4⟩ := and3 h1
        obtain ⟨h1, h3⟩ := and3 h1
        obtain ⟨h0, h2⟩ := and3 h1
        have e1 := of_decide_eq_true h2
        subst e1
        obtain ⟨x, px, rfl, g1, g2, g3, g4⟩ := nameI_ok hy.toHy h0
        exact s_app g1 g2 g3 g4 ((sn e hy.toHy).e _ h3) rfl (nsB_few (by simp only [List.all_cons, List.all_nil, h4, Bool.and_self]) (by simp)) h5 (nsB_star h4) (nsB_pl rfl) rfl
      | _ => cases h
    | _ => cases h
  | _ => cases h
theorem ss_ext (hy : HyS C X cA W k sc) (i : Nat) (e : E) : SnS C X cA W k sc (.ext i e) := SnS.of rfl fun st h => by
  cases st with
  | Expr w q =>
    cases w with
    | Call f ys kw p =>
      cases f with
      | Attribute n nm ap =>
        rcases kw with _ | ⟨_, _⟩ <;> rcases ys with _ | ⟨v, _ | ⟨_, _⟩⟩ <;> try cases h
        obtain ⟨h1, h5⟩ := and3 h
        obtain ⟨h1, h4⟩ := and3 h1
        obtain ⟨h1, h3⟩ := and3 h1
        obtain ⟨h0, h2⟩ := and3 h1
        have e1 := of_decide_eq_true h2
        subst e1
        obtain ⟨x, px, rfl, g1, g2, g3, g4⟩ := nameI_ok hy.toHy h0
        exact s_ext g1 g2 g3 g4 ((sn e hy.toHy).e _ h3) rfl (nsB_few (by simp only [List.all_cons, List.all_nil, h4, Bool.and_self]) (by simp)) h5 (nsB_star h4) (nsB_pl rfl) rfl
      | _ => cases h
    | _ => cases h
  | _ => cases h
theorem ss_ifs (hy : HyS C X cA W k sc) (c : E) {a b : S} (A : SnS C X cA W k sc a) (B : SnS C X cA W k sc b) : SnS C X cA W k sc (.ifs c a b) := SnS.of rfl fun st h => by
  cases st with
  | If x sa sb p =>
    obtain ⟨h1, h3⟩ := and3 h
    obtain ⟨h1, h2⟩ := and3 h1
    exact s_ifs ((sn c hy.toHy).t x h1) (A.all _ h2) (B.all _ h3)
  | _ => cases h
theorem ss_whl (hy : HyS C X cA W k sc) (c : E) {b : S} (B : SnS C X cA W k sc b) : SnS C X cA W k sc (.whl c b) := SnS.of rfl fun st h => by
  cases st with
  | While x sb se p =>
    cases se with
    | nil =>
      obtain ⟨h1, h2⟩ := and3 h
      exact s_whl hy.pass ((sn c hy.toHy).t x h1) (B.all _ h2)
    | cons _ _ => cases h
  | _ => cases h
theorem ss_for (hy : HyS C X cA W k sc) (tg : List Nat) (one : Bool) (it : E) {b : S} (B : SnS C X cA W k sc b) : SnS C X cA W k sc (.for tg one it b) := SnS.of rfl fun st h => by
  cases st with
  | For t x sb se p =>
    cases se with
    | nil =>
      obtain ⟨h1, h4⟩ := and3 h
      obtain ⟨h1, h3⟩ := and3 h1
      obtain ⟨h1, h2⟩ := and3 h1
      exact s_for hy.pass hy.calm ((sn it hy.toHy).i t x h2) (tgB_ok hy.N hy.nd hy.sc (fun x _ => hy.fnall x) hy.calm h1) (B.all _ h3) (nset_fold h4)
    | cons _ _ => cases h
  | _ => cases h
theorem ret_eqs {v : Expr} {p : Pos} {fr : Bool} {f : SM} (h : PS X (.Return (some v) p) (tSt (pm X cA) W fr f)) (e : C.fr = fr) : PS X (.Return (some v) p) (tSt (pm X cA) W C.fr f) := by rw [e]; exact h
theorem ss_ret (hy : HyS C X cA W k sc) (e : E) : SnS C X cA W k sc (.ret e) := SnS.of rfl fun st h => by
  cases st with
  | Return v p =>
    cases v with
    | none => cases h
    | some v =>
      dsimp only at h
      cases q : C.fr with
      | true =>
        rw [q] at h
        exact s_retF ((sn e hy.toHy).f v h)
      | false =>
        rw [q] at h
        exact s_ret ((sn e hy.toHy).e v h)
  | _ => cases h
theorem ss_retO (hy : HyS C X cA W k sc) (i : Nat) : SnS C X cA W k sc (.retO i) := SnS.of rfl fun st h => by
  cases st with
  | Return v p =>
    cases v with
    | none => cases h
    | some v =>
      obtain ⟨x, px, rfl, g1, g2, g3, g4⟩ := nameI_ok hy.toHy h
      exact s_retO g1 g2 g3 g4
  | _ => cases h
theorem ss_retN : SnS C X cA W k sc .retN := SnS.of rfl fun st h => by
  cases st with
  | Return v p =>
    cases v with
    | none => exact s_retN
    | some v => cases h
  | _ => cases h
theorem ss_brk : SnS C X cA W k sc .brk := SnS.of rfl fun st h => by
  cases st with
  | Break p => exact s_brk
  | _ => cases h
theorem ss_rais (hy : HyS C X cA W k sc) (c : Nat) (p : E) : SnS C X cA W k sc (.rais c p) := SnS.of rfl fun st h => by
  cases st with
  | Raise ex ca q =>
    cases ex with
    | none => cases h
    | some w =>
      cases w with
      | Call f ys kw p3 =>
        cases f with
        | Name x px =>
          rcases kw with _ | ⟨_, _⟩ <;> rcases ys with _ | ⟨v, _ | ⟨_, _⟩⟩ <;> rcases ca with _ | ca <;> try cases h
          dsimp only at h
          cases hR : C.RX[c]? with
          | none => rw [hR] at h; cases h
          | some r =>
            obtain ⟨y, b⟩ := r
            rw [hR] at h
            cases b with
            | true =>
              obtain ⟨h1, h5⟩ := and3 h
              obtain ⟨h1, h4⟩ := and3 h1
              obtain ⟨h1, h3⟩ := and3 h1
              obtain ⟨h1, h2⟩ := and3 h1
              have e1 := of_decide_eq_true h1
              subst e1
              exact hy.rs1 c x hR (glB_ok hy.sc h2) (nmOk_dbg h3).1 v _ _ _ _ h4 ((sn p hy.toHy).a _ h5)
            | false =>
              obtain ⟨h1, h5⟩ := and3 h
              obtain ⟨h1, h4⟩ := and3 h1
              obtain ⟨h1, h3⟩ := and3 h1
              obtain ⟨h1, h2⟩ := and3 h1
              have e1 := of_decide_eq_true h1
              subst e1
              cases p with
              | nil =>
                cases v with
                | Constant cc j p2 =>
                  cases cc with
                  | str m => exact hy.rs0 c x hR (glB_ok hy.sc h2) (nmOk_dbg h3).1 _ _ _ _ _ _
                  | _ => cases h5
                | _ => cases h5
              | _ => cases h4
        | _ => cases h
      | _ => cases h
  | _ => cases h
/-- THE CHECKS OF STATEMENTS ARE RIGHT -/
theorem sns (s : S) (hy : HyS C X cA W k sc) : SnS C X cA W k sc s := by
  induction s with
  | skip => exact ss_skip
  | seq s t A B => exact ss_seq hy A B
  | expr e => exact ss_expr hy e
  | asg i e => exact ss_asg hy i e
  | asgO i e => exact ss_asgO hy i e
  | unp is e => exact ss_unp hy is e
  | aug i o e => exact ss_aug hy i o e
  | setO i k e => exact ss_setO hy i k e
  | augO i k o e => exact ss_augO hy i k o e
  | app i e => exact ss_app hy i e
  | ext i e => exact ss_ext hy i e
  | ifs c a b A B => exact ss_ifs hy c A B
  | whl c b B => exact ss_whl hy c B
  | «for» tg one it b B => exact ss_for hy tg one it B
  | ret e => exact ss_ret hy e
  | retO i => exact ss_retO hy i
  | retN => exact ss_retN
  | brk => exact ss_brk
  | rais c p => exact ss_rais hy c p
  | frz i => exact ss_frz' i
  | spoil i j es => exact SnS.of rfl fun st h => by cases h
  | never => exact ss_never'
end
end Mp

/-! Mp: a whole table of defs keeps its promises. -/
namespace Mp
open PySem PySem.Spec PyProof.Rows L2

/-- a def's text: its scope, its body -/
structure Txt where
  scope : Scope
  body : List Stmt
def chkFn (T : List Fn) (G : List (Str × D)) (RX : List (Str × Bool)) (KW : List (Nat × List Nat × List Str)) (f : Fn) (t : Txt) : Bool :=
  decide (t.scope.kind = .function) && !t.scope.isCoroutine && !t.scope.isGenerator && decide f.N.Nodup && decide (f.np ≤ f.N.length) && (!f.own || decide (0 < f.np)) && f.ps.all (locB t.scope) && t.scope.names.all (fun y => match y.2 with
    | .free => false
    | _ => true) && (chkS ⟨f.N, T, G, RX, KW, f.fresh⟩ f.body).all t.scope t.body
/-- what is known of the world -/
structure Wld (P : Program) (w : World) (K : PySem.W.Frag) (mg : Str → Option Value) (base : Heap) (cA : Nat → Addr) (T : List Fn) (tx : List Txt) (G : List (Str × D)) (RX : List (Str × Bool)) (KW : List (Nat × List Nat × List Str)) : Prop where
  gl : ∀ x d, (x, d) ∈ G → ∃ v u, mg x = some u ∧ RelV v u ∧ ∀ F, Rp K F v d
  bi : ∀ x ∈ bins, mg x = none
  r0 : ∀ ci x, RX[ci]? = some (x, false) → ∃ (B newId initId : String) (bmB : List Value), ExcBaseFacts B newId initId bmB ∧ PySem.W.excIn K (cA ci) bmB newId = true ∧ mg x = some (.ref (cA ci)) ∧ PySem.W.keepIn K (.ref (cA ci)) = true ∧ PySem.W.subIn K (.ref (cA ci)) (.type "BaseException") = some true ∧ PySem.W.typeIn K (.ref (cA ci)) = some (.type "type")
  r1 : ∀ ci x, RX[ci]? = some (x, true) → ∀ (X : Cx) (W : WX) (fr : Bool), X.prog = P → X.w = w → X.K = K → X.mg = mg → X.base = base → X.calm = true → Room 0 X.A → Takes X W → Gl X x → (x == ("__debug__" : Str)) = false →
    ∀ (v : Expr) (f : Eta → M (List D)) (p p3 pos : Pos), nsB v = true → PA X [v] (tA (pm X cA) W f) → PS X (.Raise (some (.Call (.Name x p) [v] [] p3)) none pos) (tSt (pm X cA) W fr fun η ω => (f η ω).on fun ds ω => .ex ci ds ω)
  fd : ∀ (i : Nat) (f : Fn), T[i]? = some f → ∃ t, tx[i]? = some t ∧ chkFn T G RX KW f t = true ∧ ∃ (qual : Str) (args : Arguments) (ad : Addr) (fd : FuncData), FunD K f.name qual args t.body t.scope [] [] ad fd ∧ mg f.name = some (.ref ad) ∧ Binds K fd f.ps [] ∧ (∀ js ks, (i, js, ks) ∈ KW → KBinds K fd f.ps ks (kwP js) (kwP js)) ∧ (∀ (s : Shared) (us : List Value), us.length = f.ps.length → BindsTo s fd ⟨us, []⟩ (f.ps.zip us)) ∧ ∃ oc od osl, K.lookup ad = some ⟨oc, od, .func fd, osl⟩
section
variable {P : Program} {w : World} {K : PySem.W.Frag} {mg : Str → Option Value} {base : Heap} {cA : Nat → Addr} {T : List Fn} {tx : List Txt} {G : List (Str × D)} {RX : List (Str × Bool)} {KW : List (Nat × List Nat × List Str)}
theorem map_some_get {α : Type} {xs : List α} {n i : Nat} {d : α} (h : (xs.map some ++ List.replicate n none)[i]? = some (some d)) : xs[i]? = some d := by
  rw [List.getElem?_append] at h
  split at h
  · rw [List.getElem?_map] at h
    cases q : xs[i]? with
    | none => rw [q] at h; cases h
    | some z => rw [q] at h; cases h; rfl
  · rw [List.getElem?_replicate] at h
    split at h <;> cases h
theorem map_some_at {α : Type} {xs : List α} {n i : Nat} {d : α} (h : xs[i]? = some d) : (xs.map some ++ List.replicate n none)[i]? = some (some d) := by
  have hl : i < xs.length := (List.getElem?_eq_some_iff.mp h).1
  rw [List.getElem?_append_left (by simpa using hl), List.getElem?_map, h]; rfl
/-- the entry -/
theorem gd_start {f : Fn} {F H : Hp} {vs : List V} {ds o : List D} {a0 : Option Addr} (s : Same F H) (hl : ds.length = nArgs f) (hnp : f.np ≤ f.N.length) (hown : f.own = true → 0 < f.np) (a : Argd K f.own F H vs ds o a0) : Gd K ⟨F, H, a0⟩ F H (L2.start f.N vs) (ent f ds) (omE f o) ∧ vs.length = f.np := by
  unfold nArgs at hl
  unfold ent omE L2.start
  rcases a with ⟨e, r, rfl, rfl⟩ | ⟨e, p, vs', ws, rfl, r, h1, h2, h3, rfl⟩
  · rw [e] at hl ⊢
    dsimp only at hl ⊢
    have hv : vs.length = ds.length := r.length
    refine ⟨⟨s, ?_, fun i d h => ?_, fun i xs h => (by cases h), fun i j a h => (by cases h), Same.refl _, fun b o e _ => e, fun b o e n => (by have n : F b = none := n; rw [e] at n; cases n), fun i a h => (by cases h), fun a h => (by cases h)⟩, by omega⟩
    · simp only [List.length_append, List.length_map, List.length_replicate]; omega
    · obtain ⟨v, g1, g2⟩ := r.get (map_some_get h)
      exact ⟨v, map_some_at g1, g2⟩
  · rw [e] at hl ⊢
    dsimp only at hl ⊢
    have hv : vs'.length = ds.length := r.length
    have h0 := hown e
    have lk : ∀ j, (look [(0, o)] j).isSome = true → j = 0 := fun j h => by
      by_cases q : j = 0
      · exact q
      · unfold look at h
        rw [if_neg q] at h
        cases h
    refine ⟨⟨s, ?_, fun i d h => ?_, fun i xs h => ?_, fun i j a g1 g2 _ _ => by rw [lk i g1, lk j g2], Same.refl _, fun b o e _ => e, fun b o e n => (by have n : F b = none := n; rw [e] at n; cases n), fun i a g1 g2 => ?_, fun a h => ?_⟩, by simp only [List.length_cons]; omega⟩
    · simp only [List.length_append, List.length_map, List.length_replicate, List.length_cons]; omega
    · cases i with
      | zero => cases h
      | succ i =>
        rw [List.getElem?_cons_succ] at h
        obtain ⟨v, g1, g2⟩ := r.get (map_some_get h)
        refine ⟨v, ?_, g2⟩
        show (some (V.ref p) :: vs'.map some ++ _)[i + 1]? = _
        rw [List.cons_append, List.getElem?_cons_succ]
        exact map_some_at g1
    · have := lk i (by rw [h]; rfl)
      subst this
      unfold look at h
      rw [if_pos rfl] at h
      cases h
      exact ⟨p, ws, rfl, h1, h2, h3⟩
    · have := lk i g1
      subst this
      left
      have : some (some (V.ref p)) = some (some (V.ref a)) := g2
      cases this
      rfl
    · cases h
      exact ⟨rfl, rfl⟩
theorem Gd.ret {F H F' H' : Hp} {a0 : Option Addr} {σ : Sg} {η : Eta} {ω : Om} {o' : List D} (s : Same F F') (g : Gd K ⟨F, H, a0⟩ F' H' σ η ω) (ho : ∀ a, a0 = some a → look ω 0 = some o') : Ret K F H F' H' a0 o' := by
  refine ⟨s, g.sub, g.frm0, g.new0, fun a e => ?_⟩
  obtain ⟨x1, x2⟩ := g.par a e
  obtain ⟨b, vs, y1, y2, y3, y4⟩ := g.own 0 o' (ho a e)
  rw [x1] at y1
  cases y1
  exact ⟨vs, y2, y3, y4⟩
theorem ret_cfg {X : Cx} {C : Cfg} {b : Bool} {W : WX} {f : SM} {st : Stmt} (h : PS X st (tSt (pm X cA) W b f)) (e : C.fr = b) : PS X st (tSt (pm X cA) W C.fr f) := by rw [e]; exact h
/-- what the body's end means for the call -/
theorem poS_of {f : Fn} {F H : Hp} {a0 : Option Addr} {o : List D} {Q : VK} {E : XK} {r : OutS} (ha : f.own = true ∨ a0 = none) (h : PoF ⟨K, cA⟩ f F H a0 Q E (outF f.own r)) :
    PoS ⟨K, cA⟩ (fun cls d _ H => E cls d H) ⟨F, H, a0⟩ f.fresh F { nx := fun _ H' => Q .non H', rt := Q } r := by
  have own : ∀ ω : Om, f.own = false → ∀ a, a0 = some a → look ω 0 = some ([] : List D) := fun ω e a ea => by
    rcases ha with z | z
    · rw [e] at z; cases z
    · rw [z] at ea; cases ea
  cases r with
  | st => exact h
  | bk η ω => exact h.elim
  | nx η ω =>
    intro σ' F' H' s g
    unfold outF at h
    cases e : f.own with
    | false =>
      rw [e] at h
      exact h .non F' H' (g.ret s (own ω e)) (.inl ⟨.non, fun _ => rfl⟩)
    | true =>
      rw [e] at h
      dsimp only at h
      cases q : look ω 0 with
      | none => rw [q] at h; exact h.elim
      | some x =>
        rw [q] at h
        exact h .non F' H' (g.ret s fun _ _ => q) (.inl ⟨.non, fun _ => rfl⟩)
  | rt d η ω =>
    intro v σ' F' H' s g rv
    unfold outF at h
    cases e : f.own with
    | false =>
      rw [e] at h
      exact h v F' H' (g.ret s (own ω e)) rv
    | true =>
      rw [e] at h
      dsimp only at h
      cases q : look ω 0 with
      | none => rw [q] at h; exact h.elim
      | some x =>
        rw [q] at h
        exact h v F' H' (g.ret s fun _ _ => q) rv
  | ex c p ω =>
    intro σ' η' F' H' s g
    unfold outF at h
    cases e : f.own with
    | false =>
      rw [e] at h
      exact h F' H' (g.ret s (own ω e))
    | true =>
      rw [e] at h
      dsimp only at h
      cases q : look ω 0 with
      | none => rw [q] at h; exact h.elim
      | some x =>
        rw [q] at h
        exact h F' H' (g.ret s fun _ _ => q)
theorem scope_ok {f : Fn} {t : Txt} (h : chkFn T G RX KW f t = true) : FnScope f.N f.ps t.scope ∧ f.np ≤ f.N.length ∧ (f.own = true → 0 < f.np) ∧ (chkS ⟨f.N, T, G, RX, KW, f.fresh⟩ f.body).all t.scope t.body = true := by
  unfold chkFn at h
  obtain ⟨h, h9⟩ := and3 h
  obtain ⟨h, h8⟩ := and3 h
  obtain ⟨h, h7⟩ := and3 h
  obtain ⟨h, h6⟩ := and3 h
  obtain ⟨h, h5⟩ := and3 h
  obtain ⟨h, h4⟩ := and3 h
  obtain ⟨h, h3⟩ := and3 h
  obtain ⟨h1, h2⟩ := and3 h
  have hnp := of_decide_eq_true h5
  refine ⟨⟨of_decide_eq_true h1, by simpa using h2, by simpa using h3, of_decide_eq_true h4, ?_, fun x hx => ?_, fun y hy e => ?_⟩, hnp, fun e => ?_, h9⟩
  · unfold Fn.ps
    rw [List.length_take, Nat.min_eq_left hnp]
  · have := locB_ok (List.all_eq_true.mp h7 x hx)
    exact this
  · have := List.all_eq_true.mp h8 y hy
    rw [e] at this
    cases this
  · rw [e] at h6
    simpa using h6
/-- THE TABLE KEEPS ITS PROMISES -/
theorem tab (Wd : Wld P w K mg base cA T tx G RX KW) : ∀ (k i : Nat) (f : Fn), T[i]? = some f → FnF P w K mg base cA T KW k i f
  | 0, i, f, hT => by
    obtain ⟨t, ht, hc, qual, args, ad, fd, F, hm, hb⟩ := Wd.fd i f hT
    refine ⟨ad, fd, ⟨fun vs H Q E h => ?_, fun A outer s H args us vs Q E hr e0 hb r h => ?_⟩, hm, F.kp, hb⟩
    · obtain ⟨f', F', ds, o, a0, h1, h2, h3, h4, h5⟩ := h
      exact h5.elim
    · obtain ⟨f', F', ds, o, a0, h1, h2, h3, h4, h5⟩ := h
      exact h5.elim
  | k + 1, i, f, hT => by
    obtain ⟨t, ht, hc, qual, args, ad, fd, F, hm, hb⟩ := Wd.fd i f hT
    obtain ⟨S, hnp, hown, hbody⟩ := scope_ok hc
    have hps : f.ps.length = f.np := by
      unfold Fn.ps
      rw [List.length_take, Nat.min_eq_left hnp]
    refine ⟨ad, fd, F.ok S (fun vs H Q E h => ?_) (fun cdv A outer s H vs Q E hr h => ?_), hm, F.kp, hb⟩
    · obtain ⟨f', F', ds, o, a0, h1, h2, h3, h4, h5⟩ := h
      rw [hT] at h1
      cases h1
      rw [hps]
      exact (gd_start h3 h2 hnp hown h4).2
    · obtain ⟨f', F', ds, o, a0, h1, h2, h3, h4, h5⟩ := h
      rw [hT] at h1
      cases h1
      obtain ⟨g, _⟩ := gd_start h3 h2 hnp hown h4
      have tk : Takes (cxOf (L2.CX P w) P w K mg base f.N qual t.scope ad cdv A outer s H E) (fun cls d _ H => E cls d H) := takes_of rfl rfl rfl rfl
      have hy : HyS ⟨f.N, T, G, RX, KW, f.fresh⟩ (cxOf (L2.CX P w) P w K mg base f.N qual t.scope ad cdv A outer s H E) cA (fun cls d _ H => E cls d H) k t.scope := {
        N := rfl
        nd := S.nd
        sc := rfl
        calm := rfl
        room := hr
        tk := tk
        fn := fun i f hf => tab Wd k i f hf
        gl := Wd.gl
        bi := Wd.bi
        fnall := fun _ => rfl
        pass := passes_of rfl
        rs0 := fun ci x hR hg hd m j p p2 p3 pos => by
          obtain ⟨B, newId, initId, bmB, e1, e2, e3, e4, e5, e6⟩ := Wd.r0 ci x hR
          exact s_rais rfl tk e1 e2 e3 e4 (raises_own e5 e6) hg hd rfl
        rs1 := fun ci x hR hg hd v f p p3 pos hv ha => Wd.r1 ci x hR _ _ _ rfl rfl rfl rfl rfl rfl (hr.mono (Nat.zero_le _)) tk hg hd v f p p3 pos hv ha }
      refine ⟨_, (sns f.body hy).all t.body hbody, ⟨F', H, a0⟩, F', ent f ds, omE f o, g, ?_⟩
      have e : Fs T (k + 1) i ds o = outF f.own (evS (Fs T k) f.body (ent f ds) (omE f o)) := by
        rw [Fs, hT]
        dsimp only
        rw [if_pos h2]
      rw [e] at h5
      refine poS_of (o := o) ?_ h5
      rcases h4 with ⟨_, _, _, z⟩ | ⟨z, _⟩
      · exact .inr z
      · exact .inl z
end
end Mp

/-! Mp: from a law's table to its statement. -/
namespace Mp
open PySem PySem.Spec PyProof.Rows L2
/-! ### plain parameters -/
theorem fm_congr {α β : Type} {f g : α → Option β} : ∀ {l : List α}, (∀ x ∈ l, f x = g x) → l.filterMap f = l.filterMap g
  | [], _ => rfl
  | x :: l, h => by rw [List.filterMap_cons, List.filterMap_cons, h x (by simp), fm_congr fun y hy => h y (List.mem_cons_of_mem _ hy)]
theorem lookup_zip {α : Type} : ∀ {ps : List Str} {us : List α}, ps.Nodup → us.length = ps.length → (ps.filterMap fun n => ((ps.zip us).lookup n).map (n, ·)) = ps.zip us := by
  intro ps
  induction ps with
  | nil => intro us _ _; rfl
  | cons p ps ih =>
    intro us nd hl
    cases us with
    | nil => cases hl
    | cons u us =>
      rw [List.nodup_cons] at nd
      have e1 : (List.zip (p :: ps) (u :: us)).lookup p = some u := by simp [List.zip_cons_cons]
      have e3 : (ps.filterMap fun n => ((List.zip (p :: ps) (u :: us)).lookup n).map (n, ·)) = ps.filterMap fun n => ((ps.zip us).lookup n).map (n, ·) := fm_congr fun n hn => by
        have : n ≠ p := fun z => nd.1 (z ▸ hn)
        rw [List.zip_cons_cons, List.lookup_cons]
        have e2 : (n == p) = false := by simpa using this
        rw [e2]
      rw [List.filterMap_cons, e1, e3, ih nd.2 (by simpa using hl)]
      rfl
theorem zip_isNone {α : Type} : ∀ {ps : List Str} {us : List α} (n : Str), n ∈ ps → us.length = ps.length → ((ps.zip us).lookup n).isNone = false := by
  intro ps
  induction ps with
  | nil => intro us n h; cases h
  | cons p ps ih =>
    intro us n h hl
    cases us with
    | nil => cases hl
    | cons u us =>
      rw [List.zip_cons_cons, List.lookup_cons]
      cases e : (n == p) with
      | true => rfl
      | false =>
        have : n ≠ p := by simpa using e
        rcases List.mem_cons.mp h with z | z
        · exact absurd z this
        · exact ih n z (by simpa using hl)
theorem bind_plain {x qual : Str} {as : List Arg} {body : List Stmt} {scope : Scope} {kV doc pm : Value} {an : Option Addr} {cdv ct : Value} {us : List Value} (nd : (as.map (·.arg)).Nodup) (hl : us.length = (as.map (·.arg)).length) :
    bindArgs (PySem.W.fnOf x qual ⟨[], as, none, [], [], none, []⟩ body scope .none kV doc pm an cdv ct) ⟨us, []⟩ = pure ((as.map (·.arg)).zip us) := by
  unfold bindArgs PySem.W.fnOf
  dsimp only
  generalize hps : List.map (fun x => x.arg) as = ps at *
  have h1 : ¬ (us.length > ps.length) := by omega
  have h2 : (ps.filter fun n => ((ps.zip us).lookup n).isNone) = [] := List.filter_eq_nil_iff.mpr fun n hn => by rw [zip_isNone n hn hl]; simp
  have h3 : notAStandIn Value.none = pure () := by first | rfl | kernel_rfl
  simp [h1, h2, h3, seqItems?, lookup_zip nd hl]

/-- how keywords bind -/
def KwOk (params : Arguments) (ps ks : List Str) (js : List Nat) : Prop := ∀ (x qual : Str) (body : List Stmt) (scope : Scope) (kV doc pm : Value) (an : Option Addr) (cdv ct : Value) (ws : List Value), (perm js ws).length = ps.length →
  bindArgs (PySem.W.fnOf x qual params body scope .none kV doc pm an cdv ct) ⟨[], ks.zip ws⟩ = pure (ps.zip (perm js ws))
theorem kw_ok {K : PySem.W.Frag} {x qual : Str} {params : Arguments} {body : List Stmt} {scope : Scope} {f : Addr} {fd : FuncData} {ps ks : List Str} {js : List Nat} (F : FunD K x qual params body scope [] [] f fd) (hps : ps ≠ []) (h : KwOk params ps ks js) : KBinds K fd ps ks (kwP js) (kwP js) where
  to := fun s us ws _ hl => by
    cases us with
    | cons u us => exact absurd (List.length_eq_zero_iff.mp hl.symm) hps
    | nil =>
      obtain ⟨oc, od, dV, kV, doc, pm, an, cdv, ct, osl, rfl, lk, hcd, hD, hK⟩ := F.ex
      rcases hD with ⟨_, rfl⟩ | ⟨e, _⟩
      · exact .of_eq (h _ _ _ _ kV doc pm an cdv ct ws hl)
      · exact absurd rfl e
  rel := fun r rz => by
    cases r with
    | nil => exact vals_perm rz js
    | cons _ _ => exact .nil
/-! ### facts -/
def fnD (f : Fn) (st : Stmt) : He.DefD := ⟨(f.name, none), f.name, f.name, defArgs st, defBody st, defScope st, [], []⟩
def fnL (T : List Fn) (sts : List Stmt) : List He.DefD := List.zipWith fnD T sts
def gFa : Str × D → He.Fa
  | (x, .int i) => .int x i
  | (x, .str z) => .str x z
  | (x, _) => .keep x
def scalB : Str × D → Bool
  | (_, .int _) => true
  | (_, .str _) => true
  | _ => false
def faL (T : List Fn) (G : List (Str × D)) (xs : List He.Fa) : List He.Fa := T.map (fun f => .glo f.name) ++ (bins.map .free ++ (G.map gFa ++ xs))
/-- plain parameters -/
def plainB (f : Fn) (st : Stmt) : Bool := match defArgs st with
  | ⟨[], as, none, [], [], none, []⟩ => decide (as.map (·.arg) = f.ps) && decide f.ps.Nodup && !f.ps.isEmpty
  | _ => false
def chkT (T : List Fn) (sts : List Stmt) (G : List (Str × D)) (RX : List (Str × Bool)) (KW : List (Nat × List Nat × List Str)) : Bool :=
  decide (T.length = sts.length) && G.all scalB && (List.zipWith (fun f st => chkFn T G RX KW f ⟨defScope st, defBody st⟩ && plainB f st) T sts).all id
section
variable {P : Program} {w : World} {K : PySem.W.Frag} {h base : Heap} {mg : Str → Option Value} {T : List Fn} {sts : List Stmt} {G : List (Str × D)} {KW : List (Nat × List Nat × List Str)} {xs : List He.Fa}
theorem factOf (c : He.SaysD (faL T G xs) (fnL T sts) K) {f : He.Fa} (hf : f ∈ faL T G xs) : f.ok K = true := by
  obtain ⟨i, hi, e⟩ := List.mem_iff_getElem.mp hf
  exact c.fact i (f := f) (by rw [List.getElem?_eq_getElem hi, e])
theorem wld (hc : chkT T sts G [] KW = true) (X : K.In h) (Gm : h.Ns mainGlobals mg) (c : He.SaysD (faL T G xs) (fnL T sts) K)
    (hKW : ∀ e ∈ KW, ∃ f st, T[e.1]? = some f ∧ sts[e.1]? = some st ∧ KwOk (defArgs st) f.ps e.2.2 e.2.1) : Wld P w K mg base (fun _ => 0) T (sts.map fun st => ⟨defScope st, defBody st⟩) G [] KW := by
  unfold chkT at hc
  obtain ⟨hc, h3⟩ := and3 hc
  obtain ⟨h1, h2⟩ := and3 hc
  have hlen := of_decide_eq_true h1
  refine ⟨fun x d hx => ?_, fun x hx => ?_, fun ci x hR => ?_, fun ci x hR => ?_, fun i f hT => ?_⟩
  · have hs := List.all_eq_true.mp h2 _ hx
    have hm : gFa (x, d) ∈ faL T G xs := List.mem_append_right _ (List.mem_append_right _ (List.mem_append_left _ (List.mem_map.mpr ⟨_, hx, rfl⟩)))
    have hf := factOf c hm
    cases d with
    | int i =>
      obtain ⟨t, e⟩ := He.int_ok X Gm hf
      exact ⟨.int i, _, e, ⟨t, rfl⟩, fun F => .int i⟩
    | str z =>
      obtain ⟨t, e⟩ := He.str_ok X Gm hf
      exact ⟨.str z, _, e, ⟨t, rfl⟩, fun F => .str z⟩
    | _ => cases hs
  · exact He.free_ok X Gm (factOf c (List.mem_append_right _ (List.mem_append_left _ (List.mem_map.mpr ⟨x, hx, rfl⟩))))
  · cases hR
  · cases hR
  · have hi : i < T.length := (List.getElem?_eq_some_iff.mp hT).1
    have hi2 : i < sts.length := by omega
    have hst : sts[i]? = some sts[i] := List.getElem?_eq_getElem hi2
    have hz : (List.zipWith (fun f st => chkFn T G [] KW f ⟨defScope st, defBody st⟩ && plainB f st) T sts)[i]? = some (chkFn T G [] KW f ⟨defScope sts[i], defBody sts[i]⟩ && plainB f sts[i]) := by
      rw [List.getElem?_zipWith, hT, hst]
    have hb : (chkFn T G [] KW f ⟨defScope sts[i], defBody sts[i]⟩ && plainB f sts[i]) = true := List.all_eq_true.mp h3 _ (List.mem_of_getElem? hz)
    obtain ⟨b1, b2⟩ := and3 hb
    have hd : (fnL T sts)[i]? = some (fnD f sts[i]) := by
      unfold fnL
      rw [List.getElem?_zipWith, hT, hst]
    obtain ⟨fd, F⟩ := c.def_ i (d := fnD f sts[i]) hd
    have F : FunD K f.name f.name (defArgs sts[i]) (defBody sts[i]) (defScope sts[i]) [] [] (He.fAd K (f.name, none)) fd := F
    have hm : (He.Fa.glo f.name) ∈ faL T G xs := List.mem_append_left _ (List.mem_map.mpr ⟨f, List.mem_of_getElem? hT, rfl⟩)
    have b2' := b2
    unfold plainB at b2'
    split at b2'
    · rename_i as e
      obtain ⟨b3, b5⟩ := and3 b2'
      obtain ⟨b3, b4⟩ := and3 b3
      have e1 := of_decide_eq_true b3
      have nd := of_decide_eq_true b4
      have ne : f.ps ≠ [] := by
        intro z
        rw [z] at b5
        cases b5
      refine ⟨⟨defScope sts[i], defBody sts[i]⟩, by rw [List.getElem?_map, hst]; rfl, b1, f.name, defArgs sts[i], _, fd, F, He.glo_ok X Gm (factOf c hm), ?_, fun js ks hkw => ?_, fun s us hl => ?_, ?_⟩
      · refine F.bindsN fun kV doc pm an cdv ct us hl => ?_
        rw [e, ← e1]
        exact bind_plain (by rw [e1]; exact nd) (by rw [e1]; exact hl)
      · obtain ⟨f', st', q1, q2, q3⟩ := hKW _ hkw
        dsimp only at q1 q2 q3
        rw [hT] at q1
        rw [hst] at q2
        cases q1
        cases q2
        exact kw_ok F ne q3
      · refine F.bindsA (fun kV doc pm an cdv ct us hl => ?_) s us hl
        rw [e, ← e1]
        exact bind_plain (by rw [e1]; exact nd) (by rw [e1]; exact hl)
      · obtain ⟨oc, od, dV, kV, doc, pm, an, cdv, ct, osl, e3, lk, _⟩ := F.ex
        exact ⟨oc, od, osl, lk⟩
    · cases b2'
theorem cx_no (H : Hp) (s : Shared) (e : Value) (s' : Shared) : L2.CX P w [] H s (fun _ _ _ => False) e s' → False := fun ⟨_, _, _, _, _, _, _, _, _, _, _, _, z⟩ => z
/-- the law's promise -/
theorem lawAt {l : PySem.W.OpenLaw} {k n iL : Nat} {fL : Fn} {fa : Addr} (hc : chkT T sts G [] KW = true) (X : K.In h) (Gm : h.Ns mainGlobals mg) (c : He.SaysD (faL T G xs) (fnL T sts) K)
    (hKW : ∀ e ∈ KW, ∃ f st, T[e.1]? = some f ∧ sts[e.1]? = some st ∧ KwOk (defArgs st) f.ps e.2.2 e.2.1)
    (hL : T[iL]? = some fL) (hown : fL.own = false) (hps : fL.ps = [("script" : Str)]) (hnp : fL.np = 1) (hfa : mg fL.name = some (.ref fa))
    (math : ∀ ns : List Int, ns.length ≤ n → (∀ z ∈ ns, Builtin.Int.intBits z ≤ 1048576) → Fs T k iL [.scr ns] [] = .ok (.bl true) []) : LamX.LawAtS l w K (L2.CX l.prog w) k n "script" mg fa h := by
  have W0 : Wld l.prog w K mg h (fun _ => 0) T (sts.map fun st => ⟨defScope st, defBody st⟩) G [] KW := wld hc X Gm c hKW
  obtain ⟨ad, fd, F, hm, hk, hb, _, hA, oc, od, osl, lk⟩ := tab W0 k iL fL hL
  have e1 : ad = fa := by rw [hm] at hfa; cases hfa; rfl
  subst e1
  refine ⟨fd, [], spF ⟨K, fun _ => 0⟩ T k iL, fun p hp => (by cases hp), fun p hp => (by cases hp), fun p hp => (by cases hp), fun s u => ?_, fun H a ns hl hbits _ hS => ?_, fun b0 Kb Nb _ => ?_⟩
  · have := hA s [u] (by rw [hps]; rfl)
    rw [hps] at this
    exact this
  · refine ⟨fL, H, [.scr ns], [], none, hL, ?_, Same.refl _, .inl ⟨hown, .cons (.scr hS) .nil, rfl, rfl⟩, ?_⟩
    · unfold nArgs
      rw [hown, hnp]; rfl
    · rw [math ns hl hbits]
      intro v F' H' r rv
      rcases rv with ⟨rv, _⟩ | ⟨_, p, ws, ys, _, e, _⟩
      · cases rv; rfl
      · cases e
  · have W1 : Wld l.prog w K mg b0 (fun _ => 0) T (sts.map fun st => ⟨defScope st, defBody st⟩) G [] KW := wld hc X Gm c hKW
    obtain ⟨ad', fd', F', hm', _, _, _, _, oc', od', osl', lk'⟩ := tab W1 k iL fL hL
    have e2 : ad' = ad := by rw [hm'] at hm; cases hm; rfl
    subst e2
    have e3 : fd' = fd := by rw [lk'] at lk; cases lk; rfl
    subst e3
    rw [hps] at F'
    exact F'
end
end Mp

/-! Mp: rows for reading the evaluator symbolically. -/
namespace Mp
open PySem PySem.Spec PyProof.Rows L2
section
variable {Φ : Phi} {η : Eta} {ω : Om}
@[simp] theorem ev_cst (d : D) : ev Φ (.cst d) η ω = .ok d ω := rfl
@[simp] theorem ev_glo (x : Str) (d : D) : ev Φ (.glo x d) η ω = .ok d ω := rfl
@[simp] theorem ev_var (i : Nat) : ev Φ (.var i) η ω = Out.of ω ((η[i]?).getD none) := rfl
@[simp] theorem ev_own (i : Nat) : ev Φ (.own i) η ω = Out.of ω ((look ω i).map .lst) := rfl
@[simp] theorem ev_neg (a : E) : ev Φ (.neg a) η ω = (ev Φ a η ω).bnd fun x ω => onI x fun i => .ok (.int (-i)) ω := rfl
@[simp] theorem ev_bin (o : Op2) (a b : E) : ev Φ (.bin o a b) η ω = (opd2 (late a) (late b) (ev Φ a) (ev Φ b) η ω).bnd fun p ω => Out.of ω (op2D o p.1 p.2) := rfl
@[simp] theorem ev_cmp (o : Cm) (a b : E) : ev Φ (.cmp o a b) η ω = (opd2 (late a) (late b) (ev Φ a) (ev Φ b) η ω).bnd fun p ω => Out.of ω ((cmpD o p.1 p.2).map .bl) := rfl
@[simp] theorem ev_ch2 (o p : Cm) (a b c : E) : ev Φ (.ch2 o p a b c) η ω = (ev Φ a η ω).bnd fun x ω => (ev Φ b η ω).bnd fun y ω => onO (cmpD o x y) ((ev Φ c η ω).bnd fun z ω => Out.of ω ((cmpD p y z).map .bl)) (.ok (.bl false) ω) := rfl
@[simp] theorem ev_ch3 (o p q : Cm) (a b c d : E) : ev Φ (.ch3 o p q a b c d) η ω = (ev Φ a η ω).bnd fun x ω => (ev Φ b η ω).bnd fun y ω => onO (cmpD o x y) ((ev Φ c η ω).bnd fun z ω => onO (cmpD p y z) ((ev Φ d η ω).bnd fun w ω => Out.of ω ((cmpD q z w).map .bl)) (.ok (.bl false) ω)) (.ok (.bl false) ω) := rfl
@[simp] theorem ev_isN (a : E) : ev Φ (.isN a) η ω = (ev Φ a η ω).bnd fun x ω => .ok (.bl (isNon x)) ω := rfl
@[simp] theorem ev_notN (a : E) : ev Φ (.notN a) η ω = (ev Φ a η ω).bnd fun x ω => .ok (.bl (!isNon x)) ω := rfl
@[simp] theorem ev_and (a b : E) : ev Φ (.and a b) η ω = (ev Φ a η ω).bnd fun x ω => onB x (ev Φ b η ω) (.ok (.bl false) ω) := rfl
@[simp] theorem ev_or (a b : E) : ev Φ (.or a b) η ω = (ev Φ a η ω).bnd fun x ω => onB x (.ok (.bl true) ω) (ev Φ b η ω) := rfl
@[simp] theorem ev_not (a : E) : ev Φ (.not a) η ω = (ev Φ a η ω).bnd fun x ω => onB x (.ok (.bl false) ω) (.ok (.bl true) ω) := rfl
@[simp] theorem ev_ife (c a b : E) : ev Φ (.ife c a b) η ω = (ev Φ c η ω).bnd fun x ω => onB x (ev Φ a η ω) (ev Φ b η ω) := rfl
@[simp] theorem ev_lst (es : E) : ev Φ (.lst es) η ω = (evs Φ es η ω).bnd fun xs ω => if xs.length ≤ sizeLine then .ok (.lst xs) ω else .st := rfl
@[simp] theorem ev_tup (es : E) : ev Φ (.tup es) η ω = (evs Φ es η ω).bnd fun xs ω => if xs.length ≤ sizeLine then .ok (.tup xs) ω else .st := rfl
@[simp] theorem ev_idx (a b : E) : ev Φ (.idx a b) η ω = (opd2 (late a) (late b) (ev Φ a) (ev Φ b) η ω).bnd fun p ω => Out.of ω (idxD p.1 p.2) := rfl
@[simp] theorem ev_slc (a lo hi : E) : ev Φ (.slc a lo hi) η ω = (opd (late a) (ev Φ a) η ω).bnd fun x ω => (part (isNoe lo) (ev Φ lo) η ω).bnd fun l ω => (part (isNoe hi) (ev Φ hi) η ω).bnd fun h ω => Out.of ω ((snap ω (late a) x).bind fun x => slcD x l h) := rfl
@[simp] theorem ev_rev (a : E) : ev Φ (.rev a) η ω = (opd (late a) (ev Φ a) η ω).bnd fun x ω => Out.of ω ((snap ω (late a) x).bind revD) := rfl
@[simp] theorem ev_call (f : Nat) (es : E) : ev Φ (.call f es) η ω = (evs Φ es η ω).bnd fun xs ω => fin (Φ f xs []) (fun d _ => .ok d ω) fun c p _ => .ex c p ω := rfl
@[simp] theorem ev_callK (f : Nat) (es : E) (js : List Nat) : ev Φ (.callK f es js) η ω = (evs Φ es η ω).bnd fun xs ω => fin (Φ f (perm js xs) []) (fun d _ => .ok d ω) fun c p _ => .ex c p ω := rfl
@[simp] theorem ev_callO (f i : Nat) (es : E) : ev Φ (.callO f i es) η ω = if (look ω i).isSome then (evs Φ es η ω).bnd fun xs ω => match look ω i with
    | some o => fin (Φ f xs o) (fun d o' => .ok d (put ω i o')) fun c p o' => .ex c p (put ω i o')
    | none => .st
    else .st := rfl
@[simp] theorem ev_blt (b : Bn) (es : E) : ev Φ (.blt b es) η ω = (evs Φ es η ω).bnd fun xs ω => Out.of ω (bltD b xs) := rfl
@[simp] theorem ev_isi (a : E) (ts : List Ty) : ev Φ (.isi a ts) η ω = (opd (late a) (ev Φ a) η ω).bnd fun x ω => Out.of ω ((snap ω (late a) x).bind fun x => (isiD x ts).map .bl) := rfl
@[simp] theorem ev_mth (m : Mt) (o es : E) : ev Φ (.mth m o es) η ω = (opd (late o) (ev Φ o) η ω).bnd fun x ω => if mtOk m (snap ω (late o) x) then (evs Φ es η ω).bnd fun xs ω => Out.of ω ((snap ω (late o) x).bind fun x => mtD m x xs) else .st := rfl
theorem ev_comp (elt : E) (tg : List Nat) (one : Bool) (it cond : E) : ev Φ (.comp elt tg one it cond) η ω = (ev Φ it η ω).bnd fun x ω => match itemsD x with
    | none => .st
    | some xs => (compGo (ctake (ctest (isNoe cond) (ev Φ cond)) (ev Φ elt)) tg one η xs [] ω).bnd fun ys ω => .ok (.lst ys) ω := rfl
@[simp] theorem ev_rng1 (a : E) : ev Φ (.rng1 a) η ω = (ev Φ a η ω).bnd fun x ω => onI x fun j => if -RNG < j ∧ j < RNG then .ok (.lst (iotaD 0 j.toNat)) ω else .st := rfl
@[simp] theorem ev_rng2 (a b : E) : ev Φ (.rng2 a b) η ω = (ev Φ a η ω).bnd fun x ω => (ev Φ b η ω).bnd fun y ω => onI x fun i => onI y fun j => if -RNG < i ∧ i < RNG ∧ -RNG < j ∧ j < RNG then .ok (.lst (iotaD i (j - i).toNat)) ω else .st := rfl
@[simp] theorem ev_enm (a : E) : ev Φ (.enm a) η ω = (ev Φ a η ω).bnd fun x ω => onL x fun xs => .ok (.lst (enumFrom 0 xs)) ω := rfl
@[simp] theorem evs_nil : evs Φ .nil η ω = .ok [] ω := rfl
@[simp] theorem evs_cons (e es : E) : evs Φ (.cons e es) η ω = (opd (late e) (ev Φ e) η ω).bnd fun x ω => (evs Φ es η ω).bnd fun xs ω => Out.of ω ((snap ω (late e) x).bind fun x => some (x :: xs)) := rfl
@[simp] theorem evs_splat (a es : E) : evs Φ (.splat a es) η ω = (ev Φ a η ω).bnd fun x ω => match splD x with
    | some ys => (evs Φ es η ω).bnd fun xs ω => .ok (ys ++ xs) ω
    | none => .st := rfl
/-! operands -/
@[simp] theorem opd_n (f : Eta → M D) : opd none f η ω = f η ω := rfl
@[simp] theorem opd_s (i : Nat) (f : Eta → M D) : opd (some i) f η ω = if (look ω i).isSome then .ok .non ω else .st := rfl
@[simp] theorem snap_n (d : D) : snap ω none d = some d := rfl
@[simp] theorem snap_s (i : Nat) (d : D) : snap ω (some i) d = (look ω i).map .lst := rfl
@[simp] theorem opd2_e (a b : Option Nat) (f g : Eta → M D) : opd2 a b f g η ω = (opd a f η ω).bnd fun x ω => (opd b g η ω).bnd fun y ω => Out.of ω ((snap ω a x).bind fun x => (snap ω b y).bind fun y => some (x, y)) := rfl
@[simp] theorem onI_i (i : Int) (f : Int → Out D) : onI (.int i) f = f i := rfl
@[simp] theorem onB_t (t f : Out D) : onB (.bl true) t f = t := rfl
@[simp] theorem onB_f (t f : Out D) : onB (.bl false) t f = f := rfl
theorem onB_b (b : Bool) (t f : Out D) : onB (.bl b) t f = if b then t else f := by cases b <;> rfl
@[simp] theorem onO_t (t f : Out D) : onO (some true) t f = t := rfl
@[simp] theorem onO_f (t f : Out D) : onO (some false) t f = f := rfl
theorem onO_b (b : Bool) (t f : Out D) : onO (some b) t f = if b then t else f := by cases b <;> rfl
@[simp] theorem ifS_t (t f : OutS) : ifS (.bl true) t f = t := rfl
@[simp] theorem ifS_f (t f : OutS) : ifS (.bl false) t f = f := rfl
theorem ifS_b (b : Bool) (t f : OutS) : ifS (.bl b) t f = if b then t else f := by cases b <;> rfl
@[simp] theorem fin_ok (d : D) (o : List D) (f : D → List D → Out D) (g : Nat → List D → List D → Out D) : fin (.ok d o) f g = f d o := rfl
@[simp] theorem andThen_nx (f : SM) : (OutS.nx η ω).andThen f = f η ω := rfl
@[simp] theorem andThen_rt (d : D) (f : SM) : (OutS.rt d η ω).andThen f = .rt d η ω := rfl
@[simp] theorem andThen_bk (f : SM) : (OutS.bk η ω).andThen f = .bk η ω := rfl
@[simp] theorem look_hd (i : Nat) (x : List D) (r : Om) : look ((i, x) :: r) i = some x := by simp [look]
theorem look_tl (i j : Nat) (x : List D) (r : Om) (h : j ≠ i) : look ((i, x) :: r) j = look r j := by simp [look, h]
@[simp] theorem look_nil (i : Nat) : look [] i = none := rfl
@[simp] theorem put_hd (i : Nat) (x y : List D) (r : Om) : put ((i, x) :: r) i y = (i, y) :: r := by simp [put]
/-! statements -/
@[simp] theorem evS_skip : evS Φ .skip η ω = .nx η ω := rfl
@[simp] theorem evS_seq (s t : S) : evS Φ (.seq s t) η ω = (evS Φ s η ω).andThen (evS Φ t) := rfl
@[simp] theorem evS_expr (e : E) : evS Φ (.expr e) η ω = (ev Φ e η ω).on fun _ ω => .nx η ω := rfl
@[simp] theorem evS_asg (i : Nat) (e : E) : evS Φ (.asg i e) η ω = (ev Φ e η ω).on fun d ω => if (look ω i).isSome then .st else .nx (η.set i (some d)) ω := rfl
@[simp] theorem evS_asgO (i : Nat) (e : E) : evS Φ (.asgO i e) η ω = if 0 < i ∧ i < η.length then (ev Φ e η ω).on fun d ω => onS (isLst d) fun xs => .nx (η.set i none) (put ω i xs) else .st := rfl
@[simp] theorem evS_unp (is : List Nat) (e : E) : evS Φ (.unp is e) η ω = (ev Φ e η ω).on fun d ω => if is.any fun i => (look ω i).isSome then .st else onS (bindTg is false d η) fun η' => .nx η' ω := rfl
@[simp] theorem evS_setO (i : Nat) (k e : E) : evS Φ (.setO i k e) η ω = (ev Φ e η ω).on fun d ω => if (look ω i).isSome = false then .st else (ev Φ k η ω).on fun x ω => onS (isInt x) fun n => popS ω i fun xs => onS (ixN xs.length n) fun j => .nx η (put ω i (xs.set j d)) := rfl
@[simp] theorem evS_app (i : Nat) (e : E) : evS Φ (.app i e) η ω = if (look ω i).isSome = false then .st else (ev Φ e η ω).on fun d ω => popS ω i fun xs => if xs.length < sizeLine then .nx η (put ω i (xs ++ [d])) else .st := rfl
@[simp] theorem evS_ifs (c : E) (a b : S) : evS Φ (.ifs c a b) η ω = (ev Φ c η ω).on fun x ω => ifS x (evS Φ a η ω) (evS Φ b η ω) := rfl
@[simp] theorem evS_whl (c : E) (b : S) : evS Φ (.whl c b) η ω = whlGo (ev Φ c) (evS Φ b) LOOPS η ω := rfl
@[simp] theorem evS_for (tg : List Nat) (one : Bool) (it : E) (b : S) : evS Φ (.for tg one it b) η ω = (ev Φ it η ω).on fun x ω => onS (itemsD x) fun xs => forGo (evS Φ b) tg one xs η ω := rfl
@[simp] theorem evS_ret (e : E) : evS Φ (.ret e) η ω = (ev Φ e η ω).on fun d ω => .rt d η ω := rfl
@[simp] theorem evS_retO (i : Nat) : evS Φ (.retO i) η ω = if 0 < i then popS ω i fun xs => .rt (.lst xs) η (drp ω i) else .st := rfl
@[simp] theorem evS_retN : evS Φ .retN η ω = .rt .non η ω := rfl
@[simp] theorem evS_frz (i : Nat) : evS Φ (.frz i) η ω = if 0 < i then popS ω i fun xs => .nx (η.set i (some (.lst xs))) (drp ω i) else .st := rfl
end
theorem Fs_at {T : List Fn} {k i : Nat} {f : Fn} {ds o : List D} (hT : T[i]? = some f) (hl : ds.length = nArgs f) : Fs T (k + 1) i ds o = outF f.own (evS (Fs T k) f.body (ent f ds) (omE f o)) := by
  rw [Fs, hT]
  dsimp only
  rw [if_pos hl]
end Mp

/-! Mp: loops by invariants; the laws' bag and its draws. -/
namespace Mp
open PySem PySem.Spec PyProof.Rows L2
/-! ### loops -/
theorem forGo_inv {body : SM} {tg : List Nat} {one : Bool} (I : List D → Eta → Om → Prop)
    (step : ∀ x r η ω, I (x :: r) η ω → (tg.any fun i => (look ω i).isSome) = false ∧ ∃ η', bindTg tg one x η = some η' ∧ ∃ η2 ω2, body η' ω = .nx η2 ω2 ∧ I r η2 ω2) :
    ∀ (xs : List D) (η : Eta) (ω : Om), I xs η ω → ∃ η2 ω2, forGo body tg one xs η ω = .nx η2 ω2 ∧ I [] η2 ω2
  | [], η, ω, h => ⟨η, ω, rfl, h⟩
  | x :: r, η, ω, h => by
    obtain ⟨h1, η', h2, η2, ω2, h3, h4⟩ := step x r η ω h
    obtain ⟨η3, ω3, h5, h6⟩ := forGo_inv I step r η2 ω2 h4
    refine ⟨η3, ω3, ?_, h6⟩
    unfold forGo
    rw [if_neg (by rw [h1]; simp), h2]
    simp only [onS_some]
    rw [h3]
    exact h5
/-- a comprehension whose body says one thing of each, the own lists as they were -/
theorem compGo_map {body : Eta → M (Option D)} {tg : List Nat} {one : Bool} {η : Eta} {ω : Om} (f : D → D) (free : (tg.any fun i => (look ω i).isSome) = false) :
    ∀ (xs acc : List D), (∀ x ∈ xs, ∃ η', bindTg tg one x η = some η' ∧ body η' ω = .ok (some (f x)) ω) → acc.length + xs.length ≤ sizeLine → compGo body tg one η xs acc ω = .ok (acc ++ xs.map f) ω
  | [], acc, _, _ => by
    unfold compGo
    rw [if_neg (by rw [free]; simp)]
    simp
  | x :: r, acc, h, hl => by
    obtain ⟨η', h1, h2⟩ := h x (by simp)
    simp only [List.length_cons] at hl
    unfold compGo
    rw [if_neg (by rw [free]; simp), h1]
    dsimp only
    rw [h2]
    dsimp only
    rw [if_pos (by omega), compGo_map f free r (acc ++ [f x]) (fun y hy => h y (List.mem_cons_of_mem _ hy)) (by simp only [List.length_append, List.length_cons, List.length_nil]; omega)]
    simp
/-- a comprehension with a test -/
theorem compGo_filter {body : Eta → M (Option D)} {tg : List Nat} {one : Bool} {η : Eta} {ω : Om} (f : D → Option D) (free : (tg.any fun i => (look ω i).isSome) = false) :
    ∀ (xs acc : List D), (∀ x ∈ xs, ∃ η', bindTg tg one x η = some η' ∧ body η' ω = .ok (f x) ω) → acc.length + xs.length ≤ sizeLine → compGo body tg one η xs acc ω = .ok (acc ++ xs.filterMap f) ω
  | [], acc, _, _ => by
    unfold compGo
    rw [if_neg (by rw [free]; simp)]
    simp
  | x :: r, acc, h, hl => by
    obtain ⟨η', h1, h2⟩ := h x (by simp)
    simp only [List.length_cons] at hl
    unfold compGo
    rw [if_neg (by rw [free]; simp), h1]
    dsimp only
    rw [h2]
    cases q : f x with
    | some d =>
      dsimp only
      rw [if_pos (by omega), compGo_filter f free r (acc ++ [d]) (fun y hy => h y (List.mem_cons_of_mem _ hy)) (by simp only [List.length_append, List.length_cons, List.length_nil]; omega)]
      simp [q]
    | none =>
      dsimp only
      rw [compGo_filter f free r acc (fun y hy => h y (List.mem_cons_of_mem _ hy)) (by omega)]
      simp [q]
/-- a comprehension whose body draws: an invariant of the own lists -/
theorem compGo_inv {body : Eta → M (Option D)} {tg : List Nat} {one : Bool} {η : Eta} (I : List D → List D → Om → Prop)
    (free : ∀ xs acc ω, I xs acc ω → (tg.any fun i => (look ω i).isSome) = false)
    (step : ∀ x r acc ω, I (x :: r) acc ω → ∃ η', bindTg tg one x η = some η' ∧ ∃ d ω2, body η' ω = .ok (some d) ω2 ∧ I r (acc ++ [d]) ω2) :
    ∀ (xs acc : List D) (ω : Om), acc.length + xs.length ≤ sizeLine → I xs acc ω → ∃ ys ω2, compGo body tg one η xs acc ω = .ok ys ω2 ∧ I [] ys ω2
  | [], acc, ω, _, h => by
    refine ⟨acc, ω, ?_, h⟩
    unfold compGo
    rw [if_neg (by rw [free _ _ _ h]; simp)]
  | x :: r, acc, ω, hl, h => by
    obtain ⟨η', h1, d, ω2, h2, h3⟩ := step x r acc ω h
    simp only [List.length_cons] at hl
    obtain ⟨ys, ω3, h4, h5⟩ := compGo_inv I free step r (acc ++ [d]) ω2 (by simp only [List.length_append, List.length_cons, List.length_nil]; omega) h3
    refine ⟨ys, ω3, ?_, h5⟩
    unfold compGo
    rw [if_neg (by rw [free _ _ _ h]; simp), h1]
    dsimp only
    rw [h2]
    dsimp only
    rw [if_pos (by omega)]
    exact h4
/-! ### the bag -/
def b_stir : S :=
  .seq (.asg 2 (.cst (.int 0))) <| .seq (.for [3] true (.rng1 (.bin .add (.cst (.int 1)) (.bin .fdiv (.mth .bitlen (.var 1) (.nil)) (.cst (.int 27))))) (.seq (.setO 0 (.cst (.int 4)) (.bin .add (.idx (.own 0) (.cst (.int 4))) (.cst (.int 1)))) <|
  .seq (.asg 4 (.bin .add (.bin .add (.bin .add (.bin .pow (.idx (.own 0) (.cst (.int 3))) (.cst (.int 3))) (.bin .mul (.cst (.int 69621)) (.idx (.own 0) (.cst (.int 3))))) (.bin .mul (.cst (.int 1031)) (.idx (.own 0) (.cst (.int 4))))) (.cst (.int 1)))) <|
  .seq (.setO 0 (.cst (.int 3)) (.bin .mod (.blt .int (.cons (.var 4) (.nil))) (.cst (.int 2147483647)))) <|
  .seq (.asg 2 (.bin .add (.bin .mul (.var 2) (.cst (.int 134217728))) (.bin .fdiv (.idx (.own 0) (.cst (.int 3))) (.cst (.int 16))))) <|
  .skip)) <|
  .seq (.ret (.bin .mod (.blt .int (.cons (.var 2) (.nil))) (.var 1))) <|
  .skip
def f_stir : Fn := { name := "_law_stirred", N := ["bag", "wide", "found", "k", "mixed"], np := 2, own := true, body := b_stir }
def b_draw (st : Nat) : S :=
  .seq (.ifs (.and (.cmp .eq (.idx (.own 0) (.cst (.int 2))) (.cst (.int 0))) (.cmp .lt (.idx (.own 0) (.cst (.int 1))) (.blt .len (.cons (.idx (.own 0) (.cst (.int 0))) (.nil))))) (.seq (.setO 0 (.cst (.int 2)) (.idx (.idx (.own 0) (.cst (.int 0))) (.idx (.own 0) (.cst (.int 1))))) <|
  .seq (.setO 0 (.cst (.int 1)) (.bin .add (.idx (.own 0) (.cst (.int 1))) (.cst (.int 1)))) <|
  .skip) (.seq (.ifs (.cmp .eq (.idx (.own 0) (.cst (.int 2))) (.cst (.int 0))) (.seq (.ret (.callO st 0 (.cons (.var 1) (.nil)))) <| .skip) (.skip)) <|
  .skip)) <|
  .seq (.asg 2 (.bin .mod (.blt .int (.cons (.idx (.own 0) (.cst (.int 2))) (.nil))) (.var 1))) <|
  .seq (.setO 0 (.cst (.int 2)) (.bin .fdiv (.idx (.own 0) (.cst (.int 2))) (.var 1))) <|
  .seq (.ret (.var 2)) <| .skip
def f_draw (st : Nat) : Fn := { name := "_law_draw", N := ["bag", "wide", "found"], np := 2, own := true, body := b_draw st }
def b_bag : S :=
  .seq (.asg 1 (.cst (.int 151))) <| .seq (.for [2] true (.slc (.var 0) (.noe) (.cst (.int 63))) (.seq (.asg 1 (.bin .mod (.blt .int (.cons (.bin .add (.bin .add (.bin .mul (.var 1) (.cst (.int 48271))) (.bin .mod (.blt .int (.cons (.var 2) (.nil))) (.cst (.int 2147483629)))) (.cst (.int 1))) (.nil))) (.cst (.int 2147483647)))) <|
  .skip)) <|
  .seq (.ret (.lst (.cons (.comp (.bin .mod (.blt .int (.cons (.blt .abs (.cons (.var 2) (.nil))) (.nil))) (.bin .pow (.bin .pow (.cst (.int 10)) (.cst (.int 60))) (.cst (.int 10)))) [2] true (.slc (.var 0) (.noe) (.cst (.int 63))) (.noe)) (.cons (.cst (.int 0)) (.cons (.cst (.int 0)) (.cons (.var 1) (.cons (.cst (.int 0)) (.nil)))))))) <|
  .skip
def f_bag : Fn := { name := "_law_bag", N := ["script", "stir", "cell"], np := 1, fresh := true, body := b_bag }
/-- a bag: with room for n more turns -/
def Bag (n : Nat) (b : List D) : Prop := ∃ (cs : List Int) (p r s t : Int), b = [.lst (cs.map .int), .int p, .int r, .int s, .int t] ∧ (∀ c ∈ cs, 0 ≤ c) ∧ cs.length ≤ 63 ∧ 0 ≤ p ∧ 0 ≤ r ∧ 0 ≤ s ∧ s < 2147483647 ∧ 0 ≤ t ∧ t + n ≤ 2 ^ 40
theorem Bag.mono {m n : Nat} {b : List D} (h : Bag m b) (hl : n ≤ m) : Bag n b := by
  obtain ⟨cs, p, r, s, t, e, h1, h2, h3, h4, h5, h6, h7, h8⟩ := h
  exact ⟨cs, p, r, s, t, e, h1, h2, h3, h4, h5, h6, h7, by omega⟩
theorem log2_lt {n k : Nat} (h : n < 2 ^ k) (hk : 0 < k) : n.log2 < k := by
  by_cases h0 : n = 0
  · subst h0; simpa using hk
  · exact (Nat.log2_lt h0).mpr h
theorem isMul_of {i j : Int} {a b : Nat} (ha : i.natAbs < 2 ^ a) (hb : j.natAbs < 2 ^ b) (h0 : 0 < a) (h1 : 0 < b) (hab : a + b ≤ 1000000) : isMul i j = true := by
  unfold isMul
  have := log2_lt ha h0
  have := log2_lt hb h1
  exact decide_eq_true (by omega)
def stirStep (s t : Int) : Int := (s ^ 3 + 69621 * s + 1031 * (t + 1) + 1) % 2147483647
theorem stir_step (Φ : Phi) (cs : List D) (p r s t w f : Int) (k m : Option D) (hs0 : 0 ≤ s) (hs : s < 2147483647) (ht : 0 ≤ t) (ht2 : t + 1 ≤ 2 ^ 40) (hf : 0 ≤ f) (e : Nat) (he0 : 0 < e) (he : e ≤ 900000) (hf2 : f.natAbs < 2 ^ e) : evS Φ (.seq (.setO 0 (.cst (.int 4)) (.bin .add (.idx (.own 0) (.cst (.int 4))) (.cst (.int 1)))) <|
  .seq (.asg 4 (.bin .add (.bin .add (.bin .add (.bin .pow (.idx (.own 0) (.cst (.int 3))) (.cst (.int 3))) (.bin .mul (.cst (.int 69621)) (.idx (.own 0) (.cst (.int 3))))) (.bin .mul (.cst (.int 1031)) (.idx (.own 0) (.cst (.int 4))))) (.cst (.int 1)))) <|
  .seq (.setO 0 (.cst (.int 3)) (.bin .mod (.blt .int (.cons (.var 4) (.nil))) (.cst (.int 2147483647)))) <|
  .seq (.asg 2 (.bin .add (.bin .mul (.var 2) (.cst (.int 134217728))) (.bin .fdiv (.idx (.own 0) (.cst (.int 3))) (.cst (.int 16))))) <|
  .skip) [none, some (.int w), some (.int f), k, m] [(0, [.lst cs, .int p, .int r, .int s, .int t])] =
    .nx [none, some (.int w), some (.int (f * 134217728 + stirStep s t / 16)), k, some (.int (s ^ 3 + 69621 * s + 1031 * (t + 1) + 1))] [(0, [.lst cs, .int p, .int r, .int (stirStep s t), .int (t + 1)])] := by
  have hn : s.natAbs < 2 ^ 31 := by omega
  have g1 : ((s.natAbs.log2 : Int) + 1) * 3 ≤ 134217728 := by
    have := log2_lt hn (by decide)
    omega
  have g2 : isMul 69621 s = true := isMul_of (a := 17) (b := 31) (by decide) hn (by decide) (by decide) (by decide)
  have g3 : isMul 1031 (t + 1) = true := isMul_of (a := 11) (b := 41) (by decide) (by omega) (by decide) (by decide) (by decide)
  have g4 : isMul f 134217728 = true := isMul_of (b := 28) hf2 (by decide) he0 (by decide) (by omega)
  have g5 : Nat.log2 16 < 9000 := by decide
  simp -implicitDefEqProofs [late, op2D, addD, idxD, atI, isInt, popS, ixN, powD, mulD, fdivD, modD, bltD, intD, look, put, g1, g2, g3, g4, g5, stirStep]
theorem pow_grow {f x : Int} {e : Nat} (hf0 : 0 ≤ f) (hf : f.natAbs < 2 ^ e) (hx0 : 0 ≤ x) (hx : x < 134217728) : (f * 134217728 + x).natAbs < 2 ^ (e + 27) := by
  have e1 : (2 : Nat) ^ (e + 27) = 2 ^ e * 134217728 := by rw [Nat.pow_add]
  rw [e1]
  generalize (2 : Nat) ^ e = z at hf
  omega
theorem intBits_lt2 {w : Int} {e : Nat} (hw : 0 < w) (h : w < 2 ^ e) : Builtin.Int.intBits w ≤ e := by
  unfold Builtin.Int.intBits
  have : (w == 0) = false := by simp; omega
  rw [this]
  have h2 : w.natAbs < 2 ^ e := by
    have : ((w.natAbs : Nat) : Int) < ((2 ^ e : Nat) : Int) := by
      rw [Int.natAbs_of_nonneg (by omega)]
      rw [Int.natCast_pow]
      exact h
    exact Int.ofNat_lt.mp this
  have h0 : w.natAbs ≠ 0 := by omega
  have := (Nat.log2_lt h0).mpr h2
  simp only [Bool.false_eq_true, if_false]
  omega
theorem iota_len (lo : Int) (n : Nat) : (iotaD lo n).length = n := by unfold iotaD; rw [List.length_map, List.length_range]
theorem stirred_ok {T : List Fn} {st k n : Nat} {w : Int} {b : List D} (hT : T[st]? = some f_stir) (hw : 0 < w) (hw2 : w < 2 ^ 9000) (hb : Bag (n + 400) b) :
    ∃ v b', Fs T (k + 1) st [.int w] b = .ok (.int v) b' ∧ 0 ≤ v ∧ v < w ∧ Bag n b' := by
  obtain ⟨cs, p, r, s, t, rfl, h1, h2, h3, h4, h5, h6, h7, h8⟩ := hb
  rw [Fs_at hT rfl]
  have hbits := intBits_lt2 hw hw2
  generalize hN : 1 + Builtin.Int.intBits w / 27 = N
  have hN2 : N ≤ 334 := by omega
  have hrng : (-RNG < (N : Int) ∧ (N : Int) < RNG) := by unfold RNG; omega
  have hNI : (1 : Int) + (Builtin.Int.intBits w : Int) / 27 = (N : Int) := by omega
  have hloop := forGo_inv (body := evS (Fs T k) (.seq (.setO 0 (.cst (.int 4)) (.bin .add (.idx (.own 0) (.cst (.int 4))) (.cst (.int 1)))) <|
      .seq (.asg 4 (.bin .add (.bin .add (.bin .add (.bin .pow (.idx (.own 0) (.cst (.int 3))) (.cst (.int 3))) (.bin .mul (.cst (.int 69621)) (.idx (.own 0) (.cst (.int 3))))) (.bin .mul (.cst (.int 1031)) (.idx (.own 0) (.cst (.int 4))))) (.cst (.int 1)))) <|
      .seq (.setO 0 (.cst (.int 3)) (.bin .mod (.blt .int (.cons (.var 4) (.nil))) (.cst (.int 2147483647)))) <|
      .seq (.asg 2 (.bin .add (.bin .mul (.var 2) (.cst (.int 134217728))) (.bin .fdiv (.idx (.own 0) (.cst (.int 3))) (.cst (.int 16))))) <|
      .skip)) (tg := [3]) (one := true)
    (fun rest η ω => ∃ (e : Nat) (f s t : Int) (kk mm : Option D), η = [none, some (.int w), some (.int f), kk, mm] ∧ ω = [(0, [.lst (cs.map .int), .int p, .int r, .int s, .int t])] ∧ 0 ≤ f ∧ f.natAbs < 2 ^ e ∧ 0 < e ∧ e + 27 * rest.length ≤ 20000 ∧ 0 ≤ s ∧ s < 2147483647 ∧ 0 ≤ t ∧ t + (rest.length + n) ≤ 2 ^ 40)
    (by
      rintro x rest η ω ⟨e, f, s, t, kk, mm, rfl, rfl, hf, hfe, he, hel, hs0, hs, ht, htn⟩
      simp only [List.length_cons] at hel htn
      refine ⟨by simp [look], _, rfl, _, _, stir_step (Fs T k) _ p r s t w f _ _ hs0 hs ht (by omega) hf e he (by omega) hfe, e + 27, _, _, _, _, _, rfl, rfl, ?_, ?_, by omega, by omega, ?_, ?_, by omega, by omega⟩
      · have : 0 ≤ stirStep s t := Int.emod_nonneg _ (by decide)
        omega
      · have a1 : 0 ≤ stirStep s t := Int.emod_nonneg _ (by decide)
        have a2 : stirStep s t < 2147483647 := Int.emod_lt_of_pos _ (by decide)
        exact pow_grow hf hfe (by omega) (by omega)
      · exact Int.emod_nonneg _ (by decide)
      · exact Int.emod_lt_of_pos _ (by decide))
    (iotaD 0 N) [none, some (.int w), some (.int 0), none, none] [(0, [.lst (cs.map .int), .int p, .int r, .int s, .int t])]
    ⟨1, 0, s, t, none, none, rfl, rfl, by omega, by decide, by decide, by rw [iota_len]; omega, h5, h6, h7, by rw [iota_len]; omega⟩
  obtain ⟨η2, ω2, hl, e, f, s2, t2, kk, mm, rfl, rfl, hf, hfe, he, hel, hs0, hs, ht, htn⟩ := hloop
  have g5 : Nat.log2 27 < 9000 := by decide
  refine ⟨f % w, _, ?_, Int.emod_nonneg _ (by omega), Int.emod_lt_of_pos _ hw, cs, p, r, s2, t2, rfl, h1, h2, h3, h4, hs0, hs, ht, by simpa using htn⟩
  have hw' : (0 : Int) < w := hw
  have hbody : f_stir.body = b_stir := rfl
  have hent : ent f_stir [.int w] = [none, some (.int w), none, none, none] := rfl
  have hom : omE f_stir [.lst (cs.map .int), .int p, .int r, .int s, .int t] = [(0, [.lst (cs.map .int), .int p, .int r, .int s, .int t])] := rfl
  have hown : f_stir.own = true := rfl
  rw [hbody, hent, hom, hown]
  unfold b_stir
  have hit : ev (Fs T k) (.rng1 (.bin .add (.cst (.int 1)) (.bin .fdiv (.mth .bitlen (.var 1) (.nil)) (.cst (.int 27))))) [none, some (.int w), some (.int 0), none, none] [(0, [.lst (cs.map .int), .int p, .int r, .int s, .int t])] = .ok (.lst (iotaD 0 N)) [(0, [.lst (cs.map .int), .int p, .int r, .int s, .int t])] := by
    simp -implicitDefEqProofs [late, op2D, fdivD, addD, mtOk, mtD, bitsD, g5, hNI, hrng]
  rw [evS_seq, evS_asg, ev_cst, Out.on_ok, if_neg (by simp [look]), andThen_nx]
  show outF true (evS (Fs T k) _ [none, some (.int w), some (.int 0), none, none] _) = _
  rw [evS_seq, evS_for, hit, Out.on_ok]
  simp -implicitDefEqProofs only [itemsD, onS_some]
  rw [hl]
  simp -implicitDefEqProofs [late, op2D, bltD, intD, modD, hw, outF]
theorem shaped_int (i : Int) : shaped (.int i) = true := by simp [shaped, D.py, SeqAt.shaped, PyData.canLay0, PyData.depth]
theorem eqD_int (i j : Int) : eqD (.int i) (.int j) = some (decide (i = j)) := by
  unfold eqD
  rw [shaped_int, shaped_int]
  simp [D.py, PyData.eqv]
  rfl
theorem ifs_eq (Φ : Phi) (c : E) (a b : S) (η : Eta) (ω ω' : Om) (t : Bool) (h : ev Φ c η ω = .ok (.bl t) ω') : evS Φ (.ifs c a b) η ω = if t then evS Φ a η ω' else evS Φ b η ω' := by
  rw [evS_ifs, h, Out.on_ok, ifS_b]
/-- A DRAW: some number below the width -/
theorem draw_ok {T : List Fn} {st dr k n : Nat} {w : Int} {b : List D} (hS : T[st]? = some f_stir) (hT : T[dr]? = some (f_draw st)) (hw : 0 < w) (hw2 : w < 2 ^ 9000) (hb : Bag (n + 400) b) :
    ∃ v b', Fs T (k + 2) dr [.int w] b = .ok (.int v) b' ∧ 0 ≤ v ∧ v < w ∧ Bag n b' := by
  obtain ⟨cs, p, r, s, t, rfl, h1, h2, h3, h4, h5, h6, h7, h8⟩ := hb
  rw [Fs_at hT rfl]
  have hwl : w.natAbs.log2 < 9000 := by
    refine log2_lt ?_ (by decide)
    have : ((w.natAbs : Nat) : Int) < ((2 ^ 9000 : Nat) : Int) := by
      rw [Int.natAbs_of_nonneg (by omega), Int.natCast_pow]
      exact hw2
    exact Int.ofNat_lt.mp this
  have hbody : (f_draw st).body = b_draw st := rfl
  have hent : ent (f_draw st) [.int w] = [none, some (.int w), none] := rfl
  have hom : omE (f_draw st) [.lst (cs.map .int), .int p, .int r, .int s, .int t] = [(0, [.lst (cs.map .int), .int p, .int r, .int s, .int t])] := rfl
  have hown : (f_draw st).own = true := rfl
  rw [hbody, hent, hom, hown]
  unfold b_draw
  -- the tail, from a number in store
  have tail : ∀ (p r : Int), 0 ≤ p → 0 ≤ r → ∃ v b', outF true ((OutS.nx [none, some (.int w), none] [(0, [.lst (cs.map .int), .int p, .int r, .int s, .int t])]).andThen (evS (Fs T (k + 1)) (.seq (.asg 2 (.bin .mod (.blt .int (.cons (.idx (.own 0) (.cst (.int 2))) (.nil))) (.var 1))) <|
      .seq (.setO 0 (.cst (.int 2)) (.bin .fdiv (.idx (.own 0) (.cst (.int 2))) (.var 1))) <| .seq (.ret (.var 2)) <| .skip))) = .ok (.int v) b' ∧ 0 ≤ v ∧ v < w ∧ Bag n b' := fun p r hp hr => by
    refine ⟨r % w, _, ?_, Int.emod_nonneg _ (by omega), Int.emod_lt_of_pos _ hw, cs, p, r / w, s, t, rfl, h1, h2, hp, Int.ediv_nonneg hr (by omega), h5, h6, h7, by omega⟩
    simp -implicitDefEqProofs [late, op2D, bltD, intD, modD, fdivD, hw, hwl, outF, idxD, atI, isInt, popS, ixN, look, put]
  by_cases hr0 : r = 0
  · subst hr0
    by_cases hp : p < (cs.length : Int)
    · obtain ⟨c, hc⟩ : ∃ c, cs[p.toNat]? = some c := ⟨_, List.getElem?_eq_getElem (by omega)⟩
      have hcm : ((cs.map D.int)[p.toNat]?) = some (.int c) := by rw [List.getElem?_map, hc]; rfl
      obtain ⟨v, b', e1, e2⟩ := tail (p + 1) c (by omega) (h1 c (List.mem_of_getElem? hc))
      refine ⟨v, b', ?_, e2⟩
      rw [evS_seq]
      refine Eq.trans (congrArg (outF true) (congrArg (fun z => OutS.andThen z _) ?_)) e1
      have heq : eqD (.int 0) (.int 0) = some true := by decide +kernel
      simp -implicitDefEqProofs [late, cmpD, heq, ltD, idxD, atI, bltD, len1D, lenD, isInt, popS, ixN, look, put, op2D, addD, hp, h3]
      exact (List.getElem?_eq_some_iff.mp hc).2
    · have heq : eqD (.int 0) (.int 0) = some true := by decide +kernel
      obtain ⟨v, b', e1, e2, e3, e4⟩ := stirred_ok (T := T) (st := st) (k := k) (n := n) (w := w) hS hw hw2 ⟨cs, p, 0, s, t, rfl, h1, h2, h3, by omega, h5, h6, h7, h8⟩
      refine ⟨v, b', ?_, e2, e3, e4⟩
      simp -implicitDefEqProofs [late, cmpD, heq, ltD, idxD, atI, bltD, len1D, lenD, isInt, popS, ixN, look, put, op2D, addD, hp, h3, e1, outF]
  · obtain ⟨v, b', e1, e2⟩ := tail p r h3 h4
    refine ⟨v, b', ?_, e2⟩
    rw [evS_seq]
    refine Eq.trans (congrArg (outF true) (congrArg (fun z => OutS.andThen z _) ?_)) e1
    have heq : eqD (.int r) (.int 0) = some false := by rw [eqD_int, decide_eq_false hr0]
    simp -implicitDefEqProofs [late, cmpD, heq, ltD, idxD, atI, bltD, len1D, lenD, isInt, popS, ixN, look, put, op2D, addD]
end Mp

/-! Mp: the laws' bag, common divisors, reduced lists, likeness. -/
namespace Mp
open PySem PySem.Spec PyProof.Rows L2
/-! ### whiles -/
theorem whlGo_run {c : Eta → M D} {body : SM} {J : Eta → Om → Prop} (I : Nat → Eta → Om → Prop)
    (step : ∀ n η ω, I n η ω → (c η ω = .ok (.bl false) ω ∧ J η ω) ∨ (∃ m, n = m + 1 ∧ c η ω = .ok (.bl true) ω ∧ ∃ η' ω', body η ω = .nx η' ω' ∧ I m η' ω')) :
    ∀ (n fuel : Nat) (η : Eta) (ω : Om), n < fuel → I n η ω → ∃ η' ω', whlGo c body fuel η ω = .nx η' ω' ∧ J η' ω'
  | n, 0, η, ω, hn, _ => by omega
  | n, fuel + 1, η, ω, hn, h => by
    rcases step n η ω h with ⟨h1, h2⟩ | ⟨m, rfl, h1, η', ω', h2, h3⟩
    · refine ⟨η, ω, ?_, h2⟩
      unfold whlGo
      rw [h1]; rfl
    · obtain ⟨η2, ω2, h4, h5⟩ := whlGo_run I step m fuel η' ω' (by omega) h3
      refine ⟨η2, ω2, ?_, h5⟩
      unfold whlGo
      rw [h1, Out.on_ok, ifS_t, h2]
      exact h4
theorem pow_int {i j : Int} (h : 0 ≤ j ∧ ((i.natAbs.log2 : Int) + 1) * j ≤ 134217728) : op2D .pow (.int i) (.int j) = some (.int (i ^ j.toNat)) := by
  unfold op2D powD
  exact if_pos h
theorem mod_int {i j : Int} (h : 0 < j) : op2D .mod (.int i) (.int j) = some (.int (i % j)) := by
  unfold op2D modD
  exact if_pos h
theorem fdiv_int {i j : Int} (h : 0 < j) (h2 : j.natAbs.log2 < 9000) : op2D .fdiv (.int i) (.int j) = some (.int (i / j)) := by
  unfold op2D fdivD
  exact if_pos ⟨h, h2⟩
theorem mul_int {i j : Int} (h : isMul i j = true) : op2D .mul (.int i) (.int j) = some (.int (i * j)) := by
  unfold op2D mulD
  exact if_pos h
@[simp] theorem add_int {i j : Int} : op2D .add (.int i) (.int j) = some (.int (i + j)) := rfl
@[simp] theorem sub_int {i j : Int} : op2D .sub (.int i) (.int j) = some (.int (i - j)) := rfl
/-! ### the bag is laid -/
theorem cut_len {α : Type} (xs : List α) (lo hi : Option Int) : (cutD xs lo hi).length ≤ xs.length := by
  unfold cutD
  rw [List.length_take, List.length_drop]
  omega
theorem cut_mem {α : Type} {xs : List α} {lo hi : Option Int} {x : α} (h : x ∈ cutD xs lo hi) : x ∈ xs := by
  unfold cutD at h
  exact List.mem_of_mem_drop (List.mem_of_mem_take h)
theorem bag_ok {T : List Fn} {bg k : Nat} {ns : List Int} (hT : T[bg]? = some f_bag) (hl : ns.length ≤ 63) : ∃ b, Fs T (k + 1) bg [.scr ns] [] = .ok (.lst b) [] ∧ Bag (2 ^ 39) b := by
  rw [Fs_at hT rfl]
  have hbody : f_bag.body = b_bag := rfl
  have hent : ent f_bag [.scr ns] = [some (.scr ns), none, none] := rfl
  have hom : omE f_bag [] = [] := rfl
  have hown : f_bag.own = false := rfl
  rw [hbody, hent, hom, hown]
  unfold b_bag
  have g0 : (none : Option Int) = none := rfl
  generalize hc : cutD ns none (some 63) = cs
  have hcl : cs.length ≤ 63 := by rw [← hc]; exact Nat.le_trans (cut_len _ _ _) hl
  have slc : ∀ s c : Option D, ev (Fs T k) (.slc (.var 0) (.noe) (.cst (.int 63))) [some (.scr ns), s, c] [] = .ok (.lst (cs.map .int)) [] := fun s c => by
    simp -implicitDefEqProofs [late, part, isNoe, slcD, optI, slcO, hc]
  have hloop := forGo_inv (body := evS (Fs T k) (.seq (.asg 1 (.bin .mod (.blt .int (.cons (.bin .add (.bin .add (.bin .mul (.var 1) (.cst (.int 48271))) (.bin .mod (.blt .int (.cons (.var 2) (.nil))) (.cst (.int 2147483629)))) (.cst (.int 1))) (.nil))) (.cst (.int 2147483647)))) <|
      .skip)) (tg := [2]) (one := true)
    (fun rest η ω => ∃ (s : Int) (c : Option D), η = [some (.scr ns), some (.int s), c] ∧ ω = [] ∧ 0 ≤ s ∧ s < 2147483647 ∧ ∃ rs : List Int, rest = rs.map .int)
    (by
      rintro x rest η ω ⟨s, c, rfl, rfl, hs0, hs, rs, hrs⟩
      cases rs with
      | nil => cases hrs
      | cons z rs =>
        cases hrs
        have g1 : isMul s 48271 = true := isMul_of (a := 31) (b := 16) (by omega) (by decide) (by decide) (by decide) (by decide)
        refine ⟨rfl, _, rfl, [some (.scr ns), some (.int ((s * 48271 + z % 2147483629 + 1) % 2147483647)), some (.int z)], [], ?_, (s * 48271 + z % 2147483629 + 1) % 2147483647, some (.int z), rfl, rfl, Int.emod_nonneg _ (by decide), Int.emod_lt_of_pos _ (by decide), rs, rfl⟩
        simp -implicitDefEqProofs [late, op2D, bltD, intD, modD, mulD, addD, g1])
    (cs.map .int) [some (.scr ns), some (.int 151), none] [] ⟨151, none, rfl, rfl, by decide, by decide, cs, rfl⟩
  obtain ⟨η2, ω2, hl2, s, c, rfl, rfl, hs0, hs, _⟩ := hloop
  refine ⟨[.lst ((cs.map fun z => (if z < 0 then -z else z) % (10 ^ 60) ^ 10).map .int), .int 0, .int 0, .int s, .int 0], ?_, _, 0, 0, s, 0, rfl, ?_, by simpa using hcl, by decide, by decide, hs0, hs, by decide, by decide⟩
  · rw [evS_seq, evS_asg, ev_cst, Out.on_ok, if_neg (by simp [look]), andThen_nx]
    show outF false (evS (Fs T k) _ [some (.scr ns), some (.int 151), none] _) = _
    rw [evS_seq, evS_for, slc, Out.on_ok]
    simp -implicitDefEqProofs only [itemsD, onS_some]
    rw [hl2]
    have hcomp : ev (Fs T k) (.comp (.bin .mod (.blt .int (.cons (.blt .abs (.cons (.var 2) (.nil))) (.nil))) (.bin .pow (.bin .pow (.cst (.int 10)) (.cst (.int 60))) (.cst (.int 10)))) [2] true (.slc (.var 0) (.noe) (.cst (.int 63))) (.noe)) [some (.scr ns), some (.int s), c] [] = .ok (.lst ((cs.map fun z => (if z < 0 then -z else z) % (10 ^ 60) ^ 10).map .int)) [] := by
      rw [ev_comp, slc]
      simp -implicitDefEqProofs only [Out.bnd_ok, itemsD]
      have p1 : (((10 : Int).natAbs.log2 : Int) + 1) * 60 ≤ 134217728 := by decide
      have p2 : ((((10 : Int) ^ 60).natAbs.log2 : Int) + 1) * 10 ≤ 134217728 := by decide +kernel
      have p3 : (0 : Int) < (10 ^ 60) ^ 10 := by decide +kernel
      rw [compGo_map (fun d => match d with
        | .int z => .int ((if z < 0 then -z else z) % (10 ^ 60) ^ 10)
        | d => d) rfl (cs.map .int) [] (fun x hx => by
          obtain ⟨z, hz, rfl⟩ := List.mem_map.mp hx
          refine ⟨_, rfl, ?_⟩
          have e1 : op2D .pow (.int 10) (.int 60) = some (.int (10 ^ 60)) := pow_int ⟨by decide, p1⟩
          have e2 : op2D .pow (.int (10 ^ 60)) (.int 10) = some (.int ((10 ^ 60) ^ 10)) := pow_int ⟨by decide, p2⟩
          have e3 : ∀ i, op2D .mod (.int i) (.int ((10 ^ 60) ^ 10)) = some (.int (i % (10 ^ 60) ^ 10)) := fun i => mod_int p3
          generalize (10 : Int) ^ 60 = t1 at *
          generalize t1 ^ 10 = t2 at *
          simp -implicitDefEqProofs [late, isNoe, ctake, ctest, bltD, intD, absD, e1, e2, e3]) (by simp only [List.length_nil, List.length_map]; exact Nat.le_trans (by omega) (by decide : 63 ≤ sizeLine))]
      simp only [Out.bnd_ok, List.nil_append, List.map_map]
      rfl
    have hsz : 5 ≤ sizeLine := by decide
    simp -implicitDefEqProofs [late, hcomp, outF, hsz]
  · intro z hz
    obtain ⟨y, _, rfl⟩ := List.mem_map.mp hz
    exact Int.emod_nonneg _ (by decide +kernel)
end Mp

/-! Mp: common divisors, reduced lists, likeness. -/
namespace Mp
open PySem PySem.Spec PyProof.Rows L2
def gcdW : E := .cmp .gt (.var 1) (.cst (.int 0))
theorem gcd_loop {Φ : Phi} {body : S} (hb : ∀ a b : Nat, 0 < b → evS Φ body [some (.int a), some (.int b)] [] = .nx [some (.int b), some (.int ((a % b : Nat) : Int))] [])
    {a b n : Nat} (h : a * b < 2 ^ n) (hn : n + 1 < 1000000) : whlGo (ev Φ gcdW) (evS Φ body) LOOPS [some (.int a), some (.int b)] [] = .nx [some (.int (Nat.gcd a b : Nat)), some (.int 0)] [] := by
  obtain ⟨η, ω, h1, h2, h3⟩ := whlGo_run (c := ev Φ gcdW) (body := evS Φ body) (J := fun η ω => η = [some (.int (Nat.gcd a b : Nat)), some (.int 0)] ∧ ω = [])
    (fun n η ω => ∃ x y : Nat, η = [some (.int x), some (.int y)] ∧ ω = [] ∧ Nat.gcd x y = Nat.gcd a b ∧ (y ≤ x → x * y < 2 ^ n) ∧ (x < y → ∃ m, n = m + 1 ∧ x * y < 2 ^ m))
    (by
      rintro n η ω ⟨x, y, rfl, rfl, hg, hA, hB⟩
      by_cases hy : y = 0
      · subst hy
        refine .inl ⟨?_, ?_, rfl⟩
        · simp -implicitDefEqProofs [gcdW, late, cmpD, ltD]
        · rw [← hg, Nat.gcd_zero_right]; rfl
      · have hy0 : 0 < y := Nat.pos_of_ne_zero hy
        have hc : ev Φ gcdW [some (.int x), some (.int y)] [] = .ok (.bl true) [] := by
          simp -implicitDefEqProofs [gcdW, late, cmpD, ltD, hy0]
        have hg' : Nat.gcd y (x % y) = Nat.gcd a b := by rw [← hg, Nat.gcd_comm x y, Nat.gcd_rec y x, Nat.gcd_comm]
        by_cases hxy : x < y
        · obtain ⟨m, rfl, hm⟩ := hB hxy
          refine .inr ⟨m, rfl, hc, _, _, hb x y hy0, y, x % y, rfl, rfl, hg', fun _ => ?_, fun z => ?_⟩
          · rw [Nat.mod_eq_of_lt hxy, Nat.mul_comm]; exact hm
          · have := Nat.mod_lt x hy0; omega
        · have hle : y ≤ x := by omega
          have hp := hA hle
          have h1 : 1 ≤ x * y := Nat.mul_pos (by omega) hy0
          cases n with
          | zero => simp at hp; omega
          | succ m =>
            refine .inr ⟨m, rfl, hc, _, _, hb x y hy0, y, x % y, rfl, rfl, hg', fun _ => ?_, fun z => ?_⟩
            · have r1 := Nat.mod_lt x hy0
              have r2 := Nat.div_add_mod x y
              have r3 : 1 ≤ x / y := Nat.div_pos hle hy0
              have r4 : y ≤ y * (x / y) := Nat.le_mul_of_pos_right y r3
              have r5 : 2 * (x % y) ≤ x := by omega
              have r6 : y * (2 * (x % y)) ≤ y * x := Nat.mul_le_mul_left y r5
              have r7 : y * (2 * (x % y)) = 2 * (y * (x % y)) := by rw [Nat.mul_left_comm]
              rw [Nat.mul_comm y x] at r6
              rw [Nat.pow_succ] at hp
              omega
            · have := Nat.mod_lt x hy0; omega)
    (n + 1) LOOPS [some (.int a), some (.int b)] [] hn ⟨a, b, rfl, rfl, rfl, fun _ => Nat.lt_of_lt_of_le h (Nat.pow_le_pow_right (by decide) (by omega)), fun _ => ⟨n, rfl, h⟩⟩
  rw [h1, h2, h3]
def b_common : S :=
  .seq (.whl (.cmp .gt (.var 1) (.cst (.int 0))) (.seq (.unp [0, 1] (.tup (.cons (.var 1) (.cons (.bin .mod (.blt .int (.cons (.var 0) (.nil))) (.var 1)) (.nil))))) <|
  .skip)) <|
  .seq (.ret (.var 0)) <| .skip
def f_common : Fn := { name := "_law_common", N := ["one", "two"], np := 2, body := b_common }
theorem common_ok {T : List Fn} {i k : Nat} {a b n : Nat} (hT : T[i]? = some f_common) (h : a * b < 2 ^ n) (hn : n + 1 < 1000000) : Fs T (k + 1) i [.int a, .int b] [] = .ok (.int (Nat.gcd a b : Nat)) [] := by
  rw [Fs_at hT rfl]
  have hbody : f_common.body = b_common := rfl
  have hent : ent f_common [.int a, .int b] = [some (.int a), some (.int b)] := rfl
  have hom : omE f_common [] = [] := rfl
  have hown : f_common.own = false := rfl
  rw [hbody, hent, hom, hown]
  unfold b_common
  have hsz : 2 ≤ sizeLine := by decide
  have := gcd_loop (Φ := Fs T k) (body := (.seq (.unp [0, 1] (.tup (.cons (.var 1) (.cons (.bin .mod (.blt .int (.cons (.var 0) (.nil))) (.var 1)) (.nil))))) <| .skip)) (fun x y hy => by
    have e : op2D .mod (.int x) (.int y) = some (.int ((x % y : Nat) : Int)) := by rw [mod_int (by omega)]; rfl
    simp -implicitDefEqProofs [late, bltD, intD, e, hsz, bindTg, bindMany]) h hn
  rw [evS_seq, evS_whl]
  show outF false (OutS.andThen (whlGo (ev (Fs T k) gcdW) _ LOOPS _ _) _) = _
  rw [this]
  simp -implicitDefEqProofs [outF]
def b_cdiv : S :=
  .seq (.unp [0, 1] (.tup (.cons (.blt .abs (.cons (.var 0) (.nil))) (.cons (.blt .abs (.cons (.var 1) (.nil))) (.nil))))) <|
  .seq (.whl (.cmp .gt (.var 1) (.cst (.int 0))) (.seq (.unp [0, 1] (.tup (.cons (.var 1) (.cons (.bin .mod (.var 0) (.var 1)) (.nil))))) <|
  .skip)) <|
  .seq (.ret (.var 0)) <| .skip
def f_cdiv : Fn := { name := "common_divisor", N := ["one", "other"], np := 2, body := b_cdiv }
theorem abs_int (i : Int) : bltD .abs [.int i] = some (.int (i.natAbs : Nat)) := by
  show some (D.int (if i < 0 then -i else i)) = _
  congr 2
  split <;> omega
theorem cdiv_ok {T : List Fn} {i k : Nat} {a b : Int} {n : Nat} (hT : T[i]? = some f_cdiv) (h : a.natAbs * b.natAbs < 2 ^ n) (hn : n + 1 < 1000000) : Fs T (k + 1) i [.int a, .int b] [] = .ok (.int (Nat.gcd a.natAbs b.natAbs : Nat)) [] := by
  rw [Fs_at hT rfl]
  have hbody : f_cdiv.body = b_cdiv := rfl
  have hent : ent f_cdiv [.int a, .int b] = [some (.int a), some (.int b)] := rfl
  have hom : omE f_cdiv [] = [] := rfl
  have hown : f_cdiv.own = false := rfl
  rw [hbody, hent, hom, hown]
  unfold b_cdiv
  have hsz : 2 ≤ sizeLine := by decide
  have hl := gcd_loop (Φ := Fs T k) (body := (.seq (.unp [0, 1] (.tup (.cons (.var 1) (.cons (.bin .mod (.var 0) (.var 1)) (.nil))))) <| .skip)) (fun x y hy => by
    have e : op2D .mod (.int x) (.int y) = some (.int ((x % y : Nat) : Int)) := by rw [mod_int (by omega)]; rfl
    simp -implicitDefEqProofs [late, bltD, intD, e, hsz, bindTg, bindMany]) h hn
  have h1 : evS (Fs T k) (.unp [0, 1] (.tup (.cons (.blt .abs (.cons (.var 0) (.nil))) (.cons (.blt .abs (.cons (.var 1) (.nil))) (.nil))))) [some (.int a), some (.int b)] [] = .nx [some (.int (a.natAbs : Nat)), some (.int (b.natAbs : Nat))] [] := by
    simp -implicitDefEqProofs [late, abs_int, hsz, bindTg, bindMany]
  rw [evS_seq, h1, andThen_nx, evS_seq, evS_whl]
  show outF false (OutS.andThen (whlGo (ev (Fs T k) gcdW) _ LOOPS _ _) _) = _
  rw [hl]
  simp -implicitDefEqProofs [outF]
end Mp

/-! Mp: reduced lists, drawn lists. -/
namespace Mp
open PySem PySem.Spec PyProof.Rows L2
def LN (ns : List Nat) : List D := ns.map fun (n : Nat) => D.int (n : Int)
theorem LN_len (ns : List Nat) : (LN ns).length = ns.length := by unfold LN; rw [List.length_map]
theorem intL_LN (ns : List Nat) : intL (LN ns) = some (ns.map fun (n : Nat) => (n : Int)) := by
  induction ns with
  | nil => rfl
  | cons n ns ih =>
    show (intL (LN ns)).map _ = _
    rw [ih]; rfl
def gL (ns : List Nat) : Nat := ns.foldl (fun g x => Nat.gcd x g) 0
theorem gL_fold (c : Nat) : ∀ (ns : List Nat) (a : Nat), (ns.map (c * ·)).foldl (fun g x => Nat.gcd x g) (c * a) = c * ns.foldl (fun g x => Nat.gcd x g) a
  | [], a => rfl
  | n :: ns, a => by
    simp only [List.map_cons, List.foldl_cons]
    rw [Nat.gcd_mul_left]
    exact gL_fold c ns _
theorem gL_mul (c : Nat) (ns : List Nat) : gL (ns.map (c * ·)) = c * gL ns := by
  have := gL_fold c ns 0
  rwa [Nat.mul_zero] at this
theorem gF_dvd : ∀ (ns : List Nat) (a : Nat), ns.foldl (fun g x => Nat.gcd x g) a ∣ a ∧ ∀ n ∈ ns, ns.foldl (fun g x => Nat.gcd x g) a ∣ n
  | [], a => ⟨Nat.dvd_refl _, fun n h => by cases h⟩
  | x :: ns, a => by
    obtain ⟨h1, h2⟩ := gF_dvd ns (Nat.gcd x a)
    refine ⟨Nat.dvd_trans h1 (Nat.gcd_dvd_right _ _), fun n hn => ?_⟩
    rcases List.mem_cons.mp hn with e | e
    · rw [e]; exact Nat.dvd_trans h1 (Nat.gcd_dvd_left _ _)
    · exact h2 n e
theorem gL_dvd {ns : List Nat} {n : Nat} (h : n ∈ ns) : gL ns ∣ n := (gF_dvd ns 0).2 n h
theorem gL_pos {ns : List Nat} {n : Nat} (h : n ∈ ns) (h0 : 0 < n) : 0 < gL ns := Nat.pos_of_dvd_of_pos (gL_dvd h) h0
/-- reduced -/
def redL (ns : List Nat) : List Nat := ns.map (· / gL ns)
theorem gL_red {ns : List Nat} (h : 0 < gL ns) : gL (redL ns) = 1 := by
  have e : (redL ns).map (gL ns * ·) = ns := by
    unfold redL
    rw [List.map_map]
    refine Eq.trans (List.map_congr_left fun n hn => ?_) (List.map_id _)
    exact Nat.mul_div_cancel' (gL_dvd hn)
  have := gL_mul (gL ns) (redL ns)
  rw [e] at this
  exact (Nat.mul_right_cancel h (by rw [Nat.one_mul, Nat.mul_comm]; exact this.symm))
theorem gL_lt {e : Nat} : ∀ (ns : List Nat) (a : Nat), a < 2 ^ e → (∀ n ∈ ns, n < 2 ^ e) → ns.foldl (fun g x => Nat.gcd x g) a < 2 ^ e
  | [], a, h, _ => h
  | x :: ns, a, h, hn => by
    refine gL_lt ns _ ?_ fun n h => hn n (List.mem_cons_of_mem _ h)
    by_cases hx : x = 0
    · subst hx; show Nat.gcd 0 a < _; rw [Nat.gcd_zero_left]; exact h
    · exact Nat.lt_of_le_of_lt (Nat.gcd_le_left a (Nat.pos_of_ne_zero hx)) (hn x (by simp))
def b_reduced (ci : Nat) : S :=
  .seq (.asg 1 (.cst (.int 0))) <| .seq (.for [2] true (.var 0) (.seq (.asg 1 (.call ci (.cons (.var 2) (.cons (.var 1) (.nil))))) <| .skip)) <|
  .seq (.ret (.comp (.bin .fdiv (.var 2) (.var 1)) [2] true (.var 0) (.noe))) <|
  .skip
def f_reduced (ci : Nat) : Fn := { name := "_law_reduced", N := ["some", "found", "one"], np := 1, body := b_reduced ci }
theorem small_sz : 1000 ≤ sizeLine := by decide
theorem reduced_ok {T : List Fn} {ci i k e : Nat} {ns : List Nat} (hC : T[ci]? = some f_common) (hT : T[i]? = some (f_reduced ci)) (hl : ns.length ≤ 1000) (he : 0 < e) (he2 : e ≤ 4000) (hn : ∀ n ∈ ns, n < 2 ^ e) (hg : 0 < gL ns) :
    Fs T (k + 2) i [.lst (LN ns)] [] = .ok (.lst (LN (redL ns))) [] := by
  rw [Fs_at hT rfl]
  have hbody : (f_reduced ci).body = b_reduced ci := rfl
  have hent : ent (f_reduced ci) [.lst (LN ns)] = [some (.lst (LN ns)), none, none] := rfl
  have hom : omE (f_reduced ci) [] = [] := rfl
  have hown : (f_reduced ci).own = false := rfl
  rw [hbody, hent, hom, hown]
  unfold b_reduced
  have hloop := forGo_inv (body := evS (Fs T (k + 1)) (.seq (.asg 1 (.call ci (.cons (.var 2) (.cons (.var 1) (.nil))))) <| .skip)) (tg := [2]) (one := true)
    (fun rest η ω => ∃ (g : Nat) (c : Option D) (rs : List Nat), η = [some (.lst (LN ns)), some (.int g), c] ∧ ω = [] ∧ rest = LN rs ∧ g < 2 ^ e ∧ (∀ n ∈ rs, n < 2 ^ e) ∧ rs.foldl (fun g x => Nat.gcd x g) g = gL ns)
    (by
      rintro x rest η ω ⟨g, c, rs, rfl, rfl, hr, hg1, hrs, hf⟩
      cases rs with
      | nil => cases hr
      | cons z rs =>
        cases hr
        have hz := hrs z (by simp)
        have hcall : Fs T (k + 1) ci [.int (z : Int), .int (g : Int)] [] = .ok (.int (Nat.gcd z g : Nat)) [] := common_ok hC (n := e + e) (by
          rw [Nat.pow_add]
          exact Nat.mul_lt_mul'' hz hg1) (by omega)
        refine ⟨rfl, _, rfl, [some (.lst (LN ns)), some (.int (Nat.gcd z g : Nat)), some (.int z)], [], ?_, Nat.gcd z g, _, rs, rfl, rfl, rfl, ?_, fun n h => hrs n (List.mem_cons_of_mem _ h), hf⟩
        · simp -implicitDefEqProofs [late, hcall]
        · exact gL_lt [z] g hg1 (fun n h => by rw [List.mem_singleton.mp h]; exact hz))
    (LN ns) [some (.lst (LN ns)), some (.int ((0 : Nat) : Int)), none] [] ⟨0, none, ns, rfl, rfl, rfl, Nat.pow_pos (by decide), hn, rfl⟩
  obtain ⟨η2, ω2, h1, g, c, rs, rfl, rfl, hr, hg1, _, hf⟩ := hloop
  have hrs : rs = [] := by cases rs with
    | nil => rfl
    | cons _ _ => cases hr
  subst hrs
  have hge : g = gL ns := hf
  subst hge
  have hgl : (gL ns : Int).natAbs.log2 < 9000 := log2_lt (k := 9000) (Nat.lt_of_lt_of_le hg1 (Nat.pow_le_pow_right (by decide) (by omega))) (by decide)
  rw [evS_seq, evS_asg, ev_cst, Out.on_ok, if_neg (by simp [look]), andThen_nx]
  show outF false (evS (Fs T (k + 1)) _ [some (.lst (LN ns)), some (.int ((0 : Nat) : Int)), none] _) = _
  have hv : ∀ s c : Option D, ev (Fs T (k + 1)) (.var 0) [some (.lst (LN ns)), s, c] [] = .ok (.lst (LN ns)) [] := fun _ _ => rfl
  rw [evS_seq, evS_for, hv, Out.on_ok]
  simp -implicitDefEqProofs only [itemsD, onS_some]
  rw [h1, andThen_nx, evS_seq, evS_ret]
  have hcomp : ev (Fs T (k + 1)) (.comp (.bin .fdiv (.var 2) (.var 1)) [2] true (.var 0) (.noe)) [some (.lst (LN ns)), some (.int (gL ns : Int)), c] [] = .ok (.lst (LN (redL ns))) [] := by
    rw [ev_comp, hv]
    simp -implicitDefEqProofs only [Out.bnd_ok, itemsD]
    rw [compGo_map (fun d => match d with
      | .int z => .int (z / (gL ns : Int))
      | d => d) rfl (LN ns) [] (fun x hx => by
        obtain ⟨z, hz, rfl⟩ := List.mem_map.mp hx
        refine ⟨_, rfl, ?_⟩
        have e1 : op2D .fdiv (.int (z : Int)) (.int (gL ns : Int)) = some (.int ((z : Int) / (gL ns : Int))) := fdiv_int (by omega) hgl
        simp -implicitDefEqProofs [late, isNoe, ctake, ctest, e1]) (by rw [LN_len]; simp only [List.length_nil]; exact Nat.le_trans (by omega) small_sz)]
    simp only [Out.bnd_ok, List.nil_append]
    congr 2
    unfold LN redL
    rw [List.map_map, List.map_map]
    rfl
  rw [hcomp]
  simp -implicitDefEqProofs [outF]
/-! ### a draw within an expression -/
theorem drawE {T : List Fn} {st dr k n i : Nat} {η : Eta} {es : E} {w : Int} {b : List D} {r : Om} (hS : T[st]? = some f_stir) (hT : T[dr]? = some (f_draw st)) (hes : evs (Fs T (k + 2)) es η ((i, b) :: r) = .ok [.int w] ((i, b) :: r)) (hw : 0 < w) (hw2 : w < 2 ^ 9000) (hb : Bag (n + 400) b) :
    ∃ v b', ev (Fs T (k + 2)) (.callO dr i es) η ((i, b) :: r) = .ok (.int v) ((i, b') :: r) ∧ 0 ≤ v ∧ v < w ∧ Bag n b' := by
  obtain ⟨v, b', e1, e2, e3, e4⟩ := draw_ok (k := k) hS hT hw hw2 hb
  refine ⟨v, b', ?_, e2, e3, e4⟩
  rw [ev_callO, hes]
  simp -implicitDefEqProofs [e1]
/-- f(bag, m) with a written width -/
theorem drawC {T : List Fn} {st dr k n i : Nat} {η : Eta} {w : Int} {b : List D} {r : Om} (hS : T[st]? = some f_stir) (hT : T[dr]? = some (f_draw st)) (hw : 0 < w) (hw2 : w < 2 ^ 9000) (hb : Bag (n + 400) b) :
    ∃ v b', ev (Fs T (k + 2)) (.callO dr i (.cons (.cst (.int w)) .nil)) η ((i, b) :: r) = .ok (.int v) ((i, b') :: r) ∧ 0 ≤ v ∧ v < w ∧ Bag n b' :=
  drawE hS hT (by simp -implicitDefEqProofs [late]) hw hw2 hb
theorem pick3 {a b c : D} {v : Int} (h0 : 0 ≤ v) (h3 : v < 3) : ∃ d, idxD (.lst [a, b, c]) (.int v) = some d ∧ (d = a ∨ d = b ∨ d = c) := by
  have : v = 0 ∨ v = 1 ∨ v = 2 := by omega
  rcases this with rfl | rfl | rfl
  · exact ⟨a, rfl, .inl rfl⟩
  · exact ⟨b, rfl, .inr (.inl rfl)⟩
  · exact ⟨c, rfl, .inr (.inr rfl)⟩
theorem pick2 {a b : D} {v : Int} (h0 : 0 ≤ v) (h3 : v < 2) : ∃ d, idxD (.lst [a, b]) (.int v) = some d ∧ (d = a ∨ d = b) := by
  have : v = 0 ∨ v = 1 := by omega
  rcases this with rfl | rfl
  · exact ⟨a, rfl, .inl rfl⟩
  · exact ⟨b, rfl, .inr rfl⟩
def b_drawn (dr rd : Nat) : S :=
  .seq (.asgO 3 (.comp (.callO dr 0 (.cons (.idx (.lst (.cons (.cst (.int 2)) (.cons (.cst (.int 9)) (.cons (.var 2) (.nil))))) (.callO dr 0 (.cons (.cst (.int 3)) (.nil)))) (.nil))) [4] true (.rng1 (.var 1)) (.noe))) <|
  .seq (.ifs (.cmp .eq (.blt .sum (.cons (.own 3) (.nil))) (.cst (.int 0))) (.seq (.setO 3 (.callO dr 0 (.cons (.var 1) (.nil))) (.cst (.int 1))) <|
  .skip) (.skip)) <|
  .seq (.frz 3) <| .seq (.ret (.call rd (.cons (.var 3) (.nil)))) <| .skip
def f_drawn (dr rd : Nat) : Fn := { name := "_law_drawn", N := ["bag", "many", "far", "some", "k"], np := 3, own := true, body := b_drawn dr rd }
end Mp

/-! Mp: drawn lists. -/
namespace Mp
open PySem PySem.Spec PyProof.Rows L2
theorem lt_9000 {w : Int} {e : Nat} (h : w < 2 ^ e) (he : e ≤ 9000) : w < 2 ^ 9000 := by
  refine Int.lt_of_lt_of_le h ?_
  have : ((2 ^ e : Nat) : Int) ≤ ((2 ^ 9000 : Nat) : Int) := Int.ofNat_le.mpr (Nat.pow_le_pow_right (by decide) he)
  rwa [Int.natCast_pow, Int.natCast_pow] at this
theorem sum_LN (ns : List Nat) : sumD [.lst (LN ns)] = some (.int ((ns.sum : Nat) : Int)) := by
  show (intL (LN ns)).map _ = _
  rw [intL_LN]
  show some (D.int (List.sum _)) = _
  congr 2
  induction ns with
  | nil => rfl
  | cons n ns ih =>
    simp only [List.map_cons, List.sum_cons]
    rw [ih]; omega
theorem sum_pos {ns : List Nat} (h : ns.sum ≠ 0) : ∃ n ∈ ns, 0 < n := by
  induction ns with
  | nil => exact absurd rfl h
  | cons n ns ih =>
    by_cases hn : n = 0
    · subst hn
      obtain ⟨m, h1, h2⟩ := ih (by simpa using h)
      exact ⟨m, List.mem_cons_of_mem _ h1, h2⟩
    · exact ⟨n, by simp, Nat.pos_of_ne_zero hn⟩
/-- A DRAWN LIST: reduced, of the wanted length -/
theorem drawn_ok {T : List Fn} {st dr rd ci i k n m e : Nat} {far : Nat} {b : List D} (hS : T[st]? = some f_stir) (hD : T[dr]? = some (f_draw st)) (hC : T[ci]? = some f_common) (hR : T[rd]? = some (f_reduced ci)) (hT : T[i]? = some (f_drawn dr rd))
    (hm : 0 < m) (hm2 : m ≤ 60) (hf : 9 ≤ far) (he : far < 2 ^ e) (he2 : e ≤ 4000) (hb : Bag (n + 800 * m + 400) b) :
    ∃ ns b', Fs T (k + 3) i [.int m, .int far] b = .ok (.lst (LN ns)) b' ∧ Bag n b' ∧ ns.length = m ∧ gL ns = 1 ∧ (∀ x ∈ ns, x < far) := by
  rw [Fs_at hT rfl]
  have hbody : (f_drawn dr rd).body = b_drawn dr rd := rfl
  have hent : ent (f_drawn dr rd) [.int m, .int far] = [none, some (.int m), some (.int far), none, none] := rfl
  have hom : omE (f_drawn dr rd) b = [(0, b)] := rfl
  have hown : (f_drawn dr rd).own = true := rfl
  rw [hbody, hent, hom, hown]
  unfold b_drawn
  have hfar : (far : Int) < 2 ^ 9000 := lt_9000 (e := e) (by
    have : ((far : Nat) : Int) < ((2 ^ e : Nat) : Int) := Int.ofNat_lt.mpr he
    rwa [Int.natCast_pow] at this) (by omega)
  -- one number
  have one : ∀ (j : Nat) (b : List D) (x : Option D), Bag (j + 800) b → ∃ (v : Nat) (b' : List D), ev (Fs T (k + 2)) (.callO dr 0 (.cons (.idx (.lst (.cons (.cst (.int 2)) (.cons (.cst (.int 9)) (.cons (.var 2) (.nil))))) (.callO dr 0 (.cons (.cst (.int 3)) (.nil)))) (.nil))) [none, some (.int m), some (.int far), none, x] [(0, b)] = .ok (.int v) [(0, b')] ∧ v < far ∧ Bag j b' := by
    intro j b x hb
    obtain ⟨v1, b1, e1, h1, h2, h3⟩ := drawC (k := k) (n := j + 400) (i := 0) (η := [none, some (.int m), some (.int far), none, x]) (r := []) hS hD (w := 3) (by decide) (lt_9000 (e := 2) (by decide) (by decide)) (by simpa [Nat.add_assoc] using hb)
    obtain ⟨d, e2, hd⟩ := pick3 (a := .int 2) (b := .int 9) (c := .int far) h1 h2
    obtain ⟨w, hw, hw0, hwf⟩ : ∃ w : Int, d = .int w ∧ 0 < w ∧ w ≤ far := by
      rcases hd with rfl | rfl | rfl
      · exact ⟨2, rfl, by decide, by omega⟩
      · exact ⟨9, rfl, by decide, by omega⟩
      · exact ⟨far, rfl, by omega, by omega⟩
    subst hw
    obtain ⟨v2, b2, e3, h4, h5, h6⟩ := draw_ok (k := k) (n := j) hS hD hw0 (Int.lt_of_le_of_lt hwf hfar) h3
    obtain ⟨v, rfl⟩ := Int.eq_ofNat_of_zero_le h4
    refine ⟨v, b2, ?_, by omega, h6⟩
    have hsz : 3 ≤ sizeLine := by decide
    rw [ev_callO]
    simp -implicitDefEqProofs [late, e1, e2, e3, hsz, -ev_callO]
  have hcomp : ∃ (ns : List Nat) (b1 : List D), ev (Fs T (k + 2)) (.comp (.callO dr 0 (.cons (.idx (.lst (.cons (.cst (.int 2)) (.cons (.cst (.int 9)) (.cons (.var 2) (.nil))))) (.callO dr 0 (.cons (.cst (.int 3)) (.nil)))) (.nil))) [4] true (.rng1 (.var 1)) (.noe)) [none, some (.int m), some (.int far), none, none] [(0, b)] = .ok (.lst (LN ns)) [(0, b1)] ∧ Bag (n + 400) b1 ∧ ns.length = m ∧ ∀ x ∈ ns, x < far := by
    have hr : (-RNG < (m : Int) ∧ (m : Int) < RNG) := by unfold RNG; omega
    have hit : ev (Fs T (k + 2)) (.rng1 (.var 1)) [none, some (.int m), some (.int far), none, none] [(0, b)] = .ok (.lst (iotaD 0 m)) [(0, b)] := by
      simp -implicitDefEqProofs [hr]
    rw [ev_comp, hit]
    simp -implicitDefEqProofs only [Out.bnd_ok, itemsD]
    obtain ⟨ys, ω2, h1, ns, b1, hy, hω, h2, h3, h4⟩ := compGo_inv (body := ctake (ctest (isNoe .noe) (ev (Fs T (k + 2)) .noe)) (ev (Fs T (k + 2)) (.callO dr 0 (.cons (.idx (.lst (.cons (.cst (.int 2)) (.cons (.cst (.int 9)) (.cons (.var 2) (.nil))))) (.callO dr 0 (.cons (.cst (.int 3)) (.nil)))) (.nil))))) (tg := [4]) (one := true) (η := [none, some (.int m), some (.int far), none, none])
      (fun rest acc ω => ∃ (ns : List Nat) (b : List D), acc = LN ns ∧ ω = [(0, b)] ∧ Bag (n + 400 + 800 * rest.length) b ∧ ns.length + rest.length = m ∧ ∀ x ∈ ns, x < far)
      (by
        rintro xs acc ω ⟨ns, b, _, rfl, _⟩
        simp [look])
      (by
        rintro x r acc ω ⟨ns, b, rfl, rfl, h1, h2, h3⟩
        obtain ⟨v, b', q1, q2, q3⟩ := one (n + 400 + 800 * r.length) b (some x) (by simpa [Nat.mul_add, Nat.add_assoc] using h1)
        refine ⟨_, rfl, .int v, [(0, b')], ?_, ns ++ [v], b', ?_, rfl, q3, ?_, fun y hy => ?_⟩
        · show (Out.bnd (Out.ok true _) _) = _
          rw [Out.bnd_ok]
          show (Out.bnd (ev (Fs T (k + 2)) _ [none, some (.int m), some (.int far), none, some x] _) _) = _
          rw [q1]
          rfl
        · unfold LN; rw [List.map_append]; rfl
        · simp only [List.length_append, List.length_cons, List.length_nil] at h2 ⊢; omega
        · rcases List.mem_append.mp hy with z | z
          · exact h3 y z
          · rw [List.mem_singleton.mp z]; exact q2)
      (iotaD 0 m) [] [(0, b)] (by rw [iota_len]; simp only [List.length_nil]; exact Nat.le_trans (by omega) small_sz) ⟨[], b, rfl, rfl, by rw [iota_len]; exact hb.mono (by omega), by rw [iota_len]; simp, fun x hx => by cases hx⟩
    rw [h1]
    subst hy
    subst hω
    refine ⟨ns, b1, rfl, by simpa using h2, by simpa using h3, h4⟩
  obtain ⟨ns, b1, hc, hb1, hlen, hlt⟩ := hcomp
  have s1 : evS (Fs T (k + 2)) (.asgO 3 (.comp (.callO dr 0 (.cons (.idx (.lst (.cons (.cst (.int 2)) (.cons (.cst (.int 9)) (.cons (.var 2) (.nil))))) (.callO dr 0 (.cons (.cst (.int 3)) (.nil)))) (.nil))) [4] true (.rng1 (.var 1)) (.noe))) [none, some (.int m), some (.int far), none, none] [(0, b)] = .nx [none, some (.int m), some (.int far), none, none] [(0, b1), (3, LN ns)] := by
    rw [evS_asgO, if_pos (by simp), hc]
    simp -implicitDefEqProofs [isLst, put]
  rw [evS_seq, s1, andThen_nx, evS_seq]
  -- not all of them 0
  have fix : ∃ (ms : List Nat) (b2 : List D), evS (Fs T (k + 2)) (.ifs (.cmp .eq (.blt .sum (.cons (.own 3) (.nil))) (.cst (.int 0))) (.seq (.setO 3 (.callO dr 0 (.cons (.var 1) (.nil))) (.cst (.int 1))) <|
      .skip) (.skip)) [none, some (.int m), some (.int far), none, none] [(0, b1), (3, LN ns)] = .nx [none, some (.int m), some (.int far), none, none] [(0, b2), (3, LN ms)] ∧ Bag n b2 ∧ ms.length = m ∧ (∀ x ∈ ms, x < far) ∧ 0 < gL ms := by
    have hsum : ev (Fs T (k + 2)) (.cmp .eq (.blt .sum (.cons (.own 3) (.nil))) (.cst (.int 0))) [none, some (.int m), some (.int far), none, none] [(0, b1), (3, LN ns)] = .ok (.bl (decide (((ns.sum : Nat) : Int) = 0))) [(0, b1), (3, LN ns)] := by
      simp -implicitDefEqProofs [late, look, bltD, sum_LN, cmpD, eqD_int]
    by_cases h0 : ns.sum = 0
    · rw [h0] at hsum
      obtain ⟨v, b2, e1, q1, q2, q3⟩ := drawE (k := k) (n := n) (i := 0) (η := [none, some (.int m), some (.int far), none, none]) (es := .cons (.var 1) .nil) (r := [(3, LN ns)]) (w := m) hS hD (by simp -implicitDefEqProofs [late]) (by omega) (by
        refine lt_9000 (e := 6) ?_ (by decide)
        omega) hb1
      obtain ⟨j, rfl⟩ := Int.eq_ofNat_of_zero_le q1
      have hj : j < ns.length := by omega
      refine ⟨ns.set j 1, b2, ?_, q3, by rw [List.length_set]; exact hlen, fun x hx => ?_, ?_⟩
      · have hix : ixN (LN ns).length (j : Int) = some j := by
          unfold ixN
          rw [if_pos (by omega), if_pos (by rw [LN_len]; omega)]
          simp
        have hset : (LN ns).set j (.int 1) = LN (ns.set j 1) := by unfold LN; rw [List.map_set]; rfl
        rw [ifs_eq _ _ _ _ _ _ _ _ hsum]
        simp -implicitDefEqProofs [look, e1, isInt, popS, hix, put, hset, -ev_callO]
      · rcases List.mem_or_eq_of_mem_set hx with z | z
        · exact hlt x z
        · omega
      · exact gL_pos (n := 1) (List.mem_of_getElem? (i := j) (by rw [List.getElem?_set_self hj])) (by decide)
    · obtain ⟨x, hx, hx0⟩ := sum_pos h0
      have hf : decide (((ns.sum : Nat) : Int) = 0) = false := decide_eq_false (by omega)
      rw [hf] at hsum
      refine ⟨ns, b1, ?_, hb1.mono (by omega), hlen, hlt, gL_pos hx hx0⟩
      rw [ifs_eq _ _ _ _ _ _ _ _ hsum]
      simp -implicitDefEqProofs []
  obtain ⟨ms, b2, e2, hb2, hml, hmlt, hmg⟩ := fix
  rw [e2, andThen_nx]
  have hred : Fs T (k + 2) rd [.lst (LN ms)] [] = .ok (.lst (LN (redL ms))) [] := reduced_ok hC hR (by omega) (e := e) (by
    by_cases h : e = 0
    · subst h; simp at he; omega
    · omega) he2 (fun x hx => Nat.lt_trans (hmlt x hx) he) hmg
  refine ⟨redL ms, b2, ?_, hb2, by unfold redL; rw [List.length_map]; exact hml, gL_red hmg, fun x hx => ?_⟩
  · simp -implicitDefEqProofs [late, look, popS, drp, hred, outF]
  · unfold redL at hx
    obtain ⟨y, hy, rfl⟩ := List.mem_map.mp hx
    exact Nat.lt_of_le_of_lt (Nat.div_le_self _ _) (hmlt y hy)
end Mp

/-! Mp: likeness. -/
namespace Mp
open PySem PySem.Spec PyProof.Rows L2
def b_alike (ai : Nat) : S :=
  .seq (.ifs (.isi (.var 1) [.b "list", .b "tuple"]) (.seq (.ifs (.or (.not (.isi (.var 0) [.b "list", .b "tuple"])) (.cmp .ne (.isi (.var 0) [.b "list"]) (.isi (.var 1) [.b "list"]))) (.seq (.ret (.cst (.bl false))) <| .skip) (.skip)) <|
  .seq (.ifs (.cmp .ne (.blt .len (.cons (.var 0) (.nil))) (.blt .len (.cons (.var 1) (.nil)))) (.seq (.ret (.cst (.bl false))) <| .skip) (.skip)) <|
  .seq (.ret (.blt .all (.cons (.comp (.call ai (.cons (.idx (.var 0) (.var 2)) (.cons (.idx (.var 1) (.var 2)) (.nil)))) [2] true (.rng1 (.blt .len (.cons (.var 1) (.nil)))) (.noe)) (.nil)))) <|
  .skip) (.skip)) <|
  .seq (.ifs (.or (.cmp .ne (.isi (.var 0) [.b "bool"]) (.isi (.var 1) [.b "bool"])) (.cmp .ne (.isi (.var 0) [.b "int"]) (.isi (.var 1) [.b "int"]))) (.seq (.ret (.cst (.bl false))) <| .skip) (.skip)) <|
  .seq (.ret (.and (.cmp .eq (.isi (.var 0) [.b "str"]) (.isi (.var 1) [.b "str"])) (.cmp .eq (.var 0) (.var 1)))) <|
  .skip
def f_alike (ai : Nat) : Fn := { name := "_law_alike", N := ["found", "due", "k"], np := 2, body := b_alike ai }
/-- data that a likeness can be asked of -/
inductive Lk : Nat → D → Prop
  | int (m : Nat) (i : Int) : Lk m (.int i)
  | str (m : Nat) (x : Str) (h : PyData.strOk x = true) : Lk m (.str x)
  | lst (m : Nat) (xs : List D) (hl : xs.length ≤ 1000) (h : ∀ x ∈ xs, Lk m x) : Lk (m + 1) (.lst xs)
  | tup (m : Nat) (xs : List D) (hl : xs.length ≤ 1000) (h : ∀ x ∈ xs, Lk m x) : Lk (m + 1) (.tup xs)
theorem shaped_str {x : Str} (h : PyData.strOk x = true) : shaped (.str x) = true := by simp [shaped, D.py, SeqAt.shaped, PyData.canLay0, PyData.depth, h]
theorem shaped_bl (x : Bool) : shaped (.bl x) = true := by simp [shaped, D.py, SeqAt.shaped, PyData.canLay0, PyData.depth]
theorem eqD_str {x y : Str} (hx : PyData.strOk x = true) (hy : PyData.strOk y = true) : eqD (.str x) (.str y) = some (x == y) := by
  unfold eqD
  rw [shaped_str hx, shaped_str hy]
  simp [D.py, PyData.eqv]
theorem eqD_bl (x y : Bool) : eqD (.bl x) (.bl y) = some (x == y) := by
  unfold eqD
  rw [shaped_bl, shaped_bl]
  simp [D.py, PyData.eqv]
theorem boolL_true (n : Nat) : boolL (List.replicate n (.bl true)) = some (List.replicate n true) := by
  induction n with
  | zero => rfl
  | succ n ih =>
    rw [List.replicate_succ]
    show (boolL _).map _ = _
    rw [ih]; rfl
theorem alike_ok {T : List Fn} {ai : Nat} (hT : T[ai]? = some (f_alike ai)) : ∀ (m k : Nat) (x : D), Lk m x → Fs T (k + m + 1) ai [x, x] [] = .ok (.bl true) [] := by
  intro m
  induction m with
  | zero =>
    intro k x h
    rw [Fs_at hT rfl]
    have hbody : (f_alike ai).body = b_alike ai := rfl
    have hent : ent (f_alike ai) [x, x] = [some x, some x, none] := rfl
    have hom : omE (f_alike ai) [] = [] := rfl
    have hown : (f_alike ai).own = false := rfl
    rw [hbody, hent, hom, hown]
    unfold b_alike
    cases h with
    | int _ i => simp -implicitDefEqProofs [late, isiD, tyNames, tyB, cmpD, eqD_bl, eqD_int, outF]
    | str _ z hz => simp -implicitDefEqProofs [late, isiD, tyNames, tyB, cmpD, eqD_bl, eqD_str hz hz, outF]
  | succ m ih =>
    intro k x h
    have e1 : k + (m + 1) + 1 = (k + 1 + m) + 1 := by omega
    rw [e1, Fs_at hT rfl]
    have hbody : (f_alike ai).body = b_alike ai := rfl
    have hent : ent (f_alike ai) [x, x] = [some x, some x, none] := rfl
    have hom : omE (f_alike ai) [] = [] := rfl
    have hown : (f_alike ai).own = false := rfl
    rw [hbody, hent, hom, hown]
    unfold b_alike
    have seq : ∀ (xs : List D), (x = .lst xs ∨ x = .tup xs) → xs.length ≤ 1000 → (∀ y ∈ xs, Lk m y) → ev (Fs T (k + 1 + m)) (.comp (.call ai (.cons (.idx (.var 0) (.var 2)) (.cons (.idx (.var 1) (.var 2)) (.nil)))) [2] true (.rng1 (.blt .len (.cons (.var 1) (.nil)))) (.noe)) [some x, some x, none] [] = .ok (.lst (List.replicate xs.length (.bl true))) [] := by
      intro xs hx hl hk
      have hlen : len1D [x] = some (.int (xs.length : Int)) := by rcases hx with rfl | rfl <;> rfl
      have hr : (-RNG < (xs.length : Int) ∧ (xs.length : Int) < RNG) := by unfold RNG; omega
      have hit : ev (Fs T (k + 1 + m)) (.rng1 (.blt .len (.cons (.var 1) (.nil)))) [some x, some x, none] [] = .ok (.lst (iotaD 0 xs.length)) [] := by
        simp -implicitDefEqProofs [late, bltD, hlen, hr]
      rw [ev_comp, hit]
      simp -implicitDefEqProofs only [Out.bnd_ok, itemsD]
      rw [compGo_map (fun _ => .bl true) rfl (iotaD 0 xs.length) [] (fun z hz => by
        unfold iotaD at hz
        obtain ⟨j, hj, rfl⟩ := List.mem_map.mp hz
        have hj := List.mem_range.mp hj
        refine ⟨_, rfl, ?_⟩
        have hix : idxD x (.int (0 + (j : Int))) = some xs[j] := by
          have : atI xs (0 + (j : Int)) = some xs[j] := by
            unfold atI ixN
            rw [if_pos (by omega), if_pos (by omega)]
            simp
          rcases hx with rfl | rfl
          · exact this
          · exact this
        have hc := ih (k) xs[j] (hk _ (List.getElem_mem hj))
        have e2 : k + m + 1 = k + 1 + m := by omega
        rw [e2] at hc
        simp -implicitDefEqProofs only [ctake, ctest, isNoe, Out.bnd_ok, ev_call, evs_cons, evs_nil, late, opd_n, ev_idx, opd2_e, snap_n]
        simp -implicitDefEqProofs [late, hix, hc, -Int.zero_add]) (by rw [iota_len]; simp only [List.length_nil]; exact Nat.le_trans (by omega) small_sz)]
      simp only [Out.bnd_ok, List.nil_append]
      congr 2
      rw [List.map_const', iota_len]
    cases h with
    | int _ i => simp -implicitDefEqProofs [late, isiD, tyNames, tyB, cmpD, eqD_bl, eqD_int, outF]
    | str _ z hz => simp -implicitDefEqProofs [late, isiD, tyNames, tyB, cmpD, eqD_bl, eqD_str hz hz, outF]
    | lst _ xs hl h =>
      have hs := seq xs (.inl rfl) hl h
      simp -implicitDefEqProofs [late, isiD, tyNames, tyB, cmpD, eqD_bl, eqD_int, outF, bltD, len1D, lenD, hs, allD, boolL_true, -ev_rng1]
    | tup _ xs hl h =>
      have hs := seq xs (.inr rfl) hl h
      simp -implicitDefEqProofs [late, isiD, tyNames, tyB, cmpD, eqD_bl, eqD_int, outF, bltD, len1D, lenD, hs, allD, boolL_true, -ev_rng1]
end Mp

/-! Mp: the texts of numbers. -/
namespace Mp
open PySem PySem.Spec PyProof.Rows L2
def tx (n : Nat) : Str := Str.ofString (toString (n : Int))
theorem tx_list (n : Nat) : (tx n).cps.toList = (Nat.toDigits 10 n).map Char.toNat := PySem.W.KIN.signs_num n
theorem tx_digits (n : Nat) : NumText.AllDigits (tx n).cps.toList := by
  intro c hc
  rw [tx_list] at hc
  obtain ⟨ch, hch, e⟩ := List.mem_map.mp hc
  have h := Nat.isDigit_of_mem_toDigits (b := 10) (by decide) (by decide) hch
  have r : 48 ≤ ch.toNat ∧ ch.toNat ≤ 57 := by
    unfold Char.isDigit at h
    simp only [Bool.and_eq_true, decide_eq_true_eq] at h
    exact ⟨h.1, h.2⟩
  rw [← e]; exact r
theorem tx_ne (n : Nat) : (tx n).cps.toList ≠ [] := by
  rw [tx_list]
  intro e
  have h := List.map_eq_nil_iff.mp e
  have := Nat.length_toDigits_pos (b := 10) (n := n)
  rw [h] at this
  exact absurd this (by decide)
theorem tx_len {n k : Nat} (h : n < 10 ^ k) (hk : 0 < k) : (tx n).length ≤ k := by
  have e : (tx n).length = ((tx n).cps.toList).length := by rw [Array.length_toList]; rfl
  rw [e, tx_list, List.length_map]
  exact (Nat.length_toDigits_le_iff (by decide) hk).mpr h
theorem tx_int {n : Nat} (h : n < 10 ^ 30) : PySem.intText? (tx n) = some (n : Int) := by
  have e := intText_digits (tx_digits n) (tx_ne n) (Nat.le_trans (tx_len h (by decide)) (by decide))
  rw [tx_list, PySem.W.KIN.val_back] at e
  exact e
theorem tx_sp (n : Nat) : 32 ∉ (tx n).cps.toList := fun h => by
  have := tx_digits n 32 h
  omega
theorem tx_ok (n : Nat) : PyData.strOk (tx n) = true := by
  unfold PyData.strOk
  rw [← Array.all_toList, List.all_eq_true]
  intro c hc
  have := tx_digits n c hc
  exact decide_eq_true (by omega)
/-- no nought ahead -/
theorem tx_nought {n : Nat} {r : List Nat} (h : (tx n).cps.toList = 48 :: r) : r = [] := by
  have hd := tx_digits n
  have hv : NumText.digitsVal (tx n).cps.toList = n := by rw [tx_list, PySem.W.KIN.val_back]
  have e := NumText.toDigits_all _ hd
  rw [hv] at e
  have e2 := congrArg (List.map Char.toNat) e
  rw [← tx_list] at e2
  rw [h] at e2 hd
  rw [List.dropWhile_cons, if_pos (by rfl)] at e2
  have back : ∀ cs : List Nat, NumText.AllDigits cs → (cs.map Char.ofNat).map Char.toNat = cs := by
    intro cs hc
    rw [List.map_map]
    refine Eq.trans (List.map_congr_left fun c hcc => ?_) (List.map_id _)
    have := hc c hcc
    have : c < 58 := by omega
    have key : ∀ c < 58, (Char.ofNat c).toNat = c := by decide
    exact key c this
  cases q : r.dropWhile (· == 48) with
  | nil =>
    rw [q] at e2
    have : 48 :: r = [48] := e2
    simpa using this
  | cons c cs =>
    rw [q] at e2
    have sub : ∀ x ∈ c :: cs, x ∈ r := fun x hx => (List.dropWhile_sublist (· == 48)).subset (by rw [q]; exact hx)
    have hc : NumText.AllDigits (c :: cs) := fun x hx => hd x (List.mem_cons_of_mem _ (sub x hx))
    have e3 : 48 :: r = c :: cs := e2.trans (back _ hc)
    have hl : (c :: cs).length ≤ r.length := by rw [← q]; exact (List.dropWhile_sublist _).length_le
    rw [← e3] at hl
    simp at hl
    omega
def sp : Str := " "
theorem sp_tl : TL.tl sp = [32] := by decide +kernel
/-- read back -/
theorem split_tx {ns : List Nat} (h : ns ≠ []) : Txt.split (Txt.join sp (ns.map tx)) sp = ns.map tx :=
  TL.split_join (s := 32) (S := []) sp_tl (by decide +kernel) (by simpa using h) fun p hp => by
    obtain ⟨n, _, rfl⟩ := List.mem_map.mp hp
    exact tx_sp n
theorem join_len {ns : List Nat} (hl : ns.length ≤ 1000) (h : ∀ n ∈ ns, n < 10 ^ 30) : (Txt.join sp (ns.map tx)).length ≤ 40000 := by
  rw [TL.join_eq]
  refine Nat.le_trans (StrLaws.join_length_le _ _) ?_
  have h1 : sp.length = 1 := by decide +kernel
  have h2 : ∀ (ns : List Nat), (∀ n ∈ ns, n < 10 ^ 30) → ((ns.map tx).map (·.length)).sum ≤ ns.length * 30 := by
    intro ns
    induction ns with
    | nil => intro _; exact Nat.le_refl _
    | cons n ns ih =>
      intro h
      simp only [List.map_cons, List.sum_cons, List.length_cons]
      have := tx_len (h n (by simp)) (by decide)
      have := ih fun m hm => h m (List.mem_cons_of_mem _ hm)
      omega
  have h3 := h2 ns h
  rw [List.length_map, h1]
  omega
theorem joinOk_tx {ns : List Nat} (hl : ns.length ≤ 1000) (h : ∀ n ∈ ns, n < 10 ^ 30) : joinOk sp (ns.map tx) = true := by
  unfold joinOk
  have h1 : sp.length = 1 := by decide +kernel
  have h2 : ∀ (ns : List Nat), (∀ n ∈ ns, n < 10 ^ 30) → ((ns.map tx).map (·.length)).sum ≤ ns.length * 30 := by
    intro ns
    induction ns with
    | nil => intro _; exact Nat.le_refl _
    | cons n ns ih =>
      intro h
      simp only [List.map_cons, List.sum_cons, List.length_cons]
      have := tx_len (h n (by simp)) (by decide)
      have := ih fun m hm => h m (List.mem_cons_of_mem _ hm)
      omega
  have h3 := h2 ns h
  exact decide_eq_true (by rw [List.length_map, h1]; omega)
theorem str_tx {n : Nat} (h : n < 10 ^ 30) : strD [.int (n : Int)] = some (.str (tx n)) := by
  show (if (n : Int).natAbs.log2 < 1920 then some (D.str (toString (n : Int))) else none) = _
  have hz : (n : Int).natAbs.log2 < 1920 := log2_lt (k := 1920) (by rw [Int.natAbs_natCast]; exact Nat.lt_trans h (by decide +kernel)) (by decide)
  rw [if_pos hz]
  rfl
theorem join_ok (ns : List Nat) (h : ∀ n ∈ ns, n < 10 ^ 30) : PyData.strOk (Txt.join sp (ns.map tx)) = true := by
  unfold PyData.strOk
  rw [← Array.all_toList, List.all_eq_true, TL.join_eq]
  have e : (Str.join sp (ns.map tx)).cps.toList = TL.joinL (TL.tl sp) ((ns.map tx).map TL.tl) := TL.tl_join sp (ns.map tx)
  rw [e, sp_tl]
  have key : ∀ (ps : List (List Nat)), (∀ p ∈ ps, ∀ c ∈ p, c < 0x110000) → ∀ c ∈ TL.joinL [32] ps, c < 0x110000 := by
    intro ps
    induction ps with
    | nil => intro _ c hc; cases hc
    | cons p ps ih =>
      intro hp c hc
      cases ps with
      | nil => exact hp p (by simp) c hc
      | cons q r =>
        have hc : c ∈ p ++ ([32] ++ TL.joinL [32] (q :: r)) := hc
        rcases List.mem_append.mp hc with z | z
        · exact hp p (by simp) c z
        · rcases List.mem_append.mp z with z | z
          · rw [List.mem_singleton.mp z]; decide
          · exact ih (fun p' hp' => hp p' (List.mem_cons_of_mem _ hp')) c z
  intro c hc
  refine decide_eq_true (key _ ?_ c hc)
  intro p hp c hc
  obtain ⟨z, hz, rfl⟩ := List.mem_map.mp hp
  obtain ⟨n, _, rfl⟩ := List.mem_map.mp hz
  have := tx_digits n c hc
  omega
end Mp

namespace MpK
open PySem PySem.Spec PyProof.Rows L2 Mp
def b_is_integer : S :=
  .seq (.ret (.and (.isi (.var 0) [.b "int"]) (.not (.isi (.var 0) [.b "bool"])))) <|
  .skip
def f_is_integer : Fn := { name := "is_integer", N := ["thing"], np := 1, body := b_is_integer }
def b_common_divisor : S :=
  .seq (.unp [0, 1] (.tup (.cons (.blt .abs (.cons (.var 0) (.nil))) (.cons (.blt .abs (.cons (.var 1) (.nil))) (.nil))))) <|
  .seq (.whl (.cmp .gt (.var 1) (.cst (.int 0))) (.seq (.unp [0, 1] (.tup (.cons (.var 1) (.cons (.bin .mod (.var 0) (.var 1)) (.nil))))) <|
  .skip)) <|
  .seq (.ret (.var 0)) <| .skip
def f_common_divisor : Fn := { name := "common_divisor", N := ["one", "other"], np := 2, body := b_common_divisor }
def b_divisor_of : S :=
  .seq (.asg 1 (.cst (.int 0))) <| .seq (.for [2] true (.var 0) (.seq (.asg 1 (.ife (.or (.cmp .ne (.var 1) (.cst (.int 0))) (.cmp .ne (.var 2) (.cst (.int 0)))) (.call 1 (.cons (.var 1) (.cons (.var 2) (.nil)))) (.cst (.int 0)))) <|
  .skip)) <|
  .seq (.ret (.var 1)) <| .skip
def f_divisor_of : Fn := { name := "divisor_of", N := ["numbers", "found", "number"], np := 1, body := b_divisor_of }
def b_are_parts : S :=
  .seq (.ifs (.or (.not (.isi (.var 0) [.b "list"])) (.not (.ch2 .le .le (.cst (.int 1)) (.blt .len (.cons (.var 0) (.nil))) (.glo "MOST_LIQUIDS" (.int 8))))) (.seq (.ret (.cst (.bl false))) <| .skip) (.skip)) <|
  .seq (.ret (.and (.blt .all (.cons (.comp (.and (.call 0 (.cons (.var 1) (.nil))) (.cmp .ge (.var 1) (.cst (.int 0)))) [1] true (.var 0) (.noe)) (.nil))) (.cmp .gt (.blt .sum (.cons (.var 0) (.nil))) (.cst (.int 0))))) <|
  .skip
def f_are_parts : Fn := { name := "are_parts", N := ["thing", "number"], np := 1, body := b_are_parts }
def b_is_content : S :=
  .seq (.ret (.and (.call 3 (.cons (.var 0) (.nil))) (.cmp .eq (.call 2 (.cons (.var 0) (.nil))) (.cst (.int 1))))) <|
  .skip
def f_is_content : Fn := { name := "is_content", N := ["thing"], np := 1, body := b_is_content }
def b_number_in : S :=
  .seq (.ifs (.or (.not (.ch2 .le .le (.cst (.int 1)) (.blt .len (.cons (.var 0) (.nil))) (.glo "MOST_DIGITS" (.int 30)))) (.cmp .ne (.comp (.var 1) [1] true (.var 0) (.cmp .notin (.var 1) (.glo "DIGITS" (.str "0123456789")))) (.lst (.nil)))) (.seq (.ret (.cst .non)) <| .skip) (.skip)) <|
  .seq (.ret (.ife (.and (.cmp .eq (.idx (.var 0) (.cst (.int 0))) (.cst (.str "0"))) (.cmp .ne (.var 0) (.cst (.str "0")))) (.cst .non) (.blt .int (.cons (.var 0) (.nil))))) <|
  .skip
def f_number_in : Fn := { name := "number_in", N := ["word", "sign"], np := 1, body := b_number_in }
def b_numbers_text : S :=
  .seq (.ret (.mth .join (.cst (.str " ")) (.cons (.comp (.blt .str (.cons (.var 1) (.nil))) [1] true (.var 0) (.noe)) (.nil)))) <|
  .skip
def f_numbers_text : Fn := { name := "numbers_text", N := ["numbers", "number"], np := 1, body := b_numbers_text }
def b_numbers_of : S :=
  .seq (.asgO 3 (.lst (.nil))) <| .seq (.for [4, 5] false (.enm (.var 0)) (.seq (.asg 6 (.call 5 (.cons (.var 5) (.nil)))) <| .seq (.ifs (.or (.isN (.var 6)) (.or (.cmp .eq (.var 4) (.var 1)) (.and (.notN (.var 2)) (.cmp .ge (.var 6) (.var 2))))) (.seq (.never) <| .skip) (.skip)) <|
  .seq (.app 3 (.var 6)) <| .skip)) <|
  .seq (.retO 3) <| .skip
def f_numbers_of : Fn := { name := "numbers_of", N := ["words", "most", "bound", "found", "index", "word", "number"], np := 3, body := b_numbers_of }
def b_write_content : S :=
  .seq (.ret (.call 6 (.cons (.var 0) (.nil)))) <| .skip
def f_write_content : Fn := { name := "write_content", N := ["content"], np := 1, body := b_write_content }
def b_read_content : S :=
  .seq (.asg 1 (.mth .split (.var 0) (.cons (.cst (.str " ")) (.nil)))) <|
  .seq (.asg 2 (.call 7 (.cons (.var 1) (.cons (.glo "MOST_LIQUIDS" (.int 8)) (.cons (.cst .non) (.nil)))))) <|
  .seq (.ifs (.not (.call 4 (.cons (.var 2) (.nil)))) (.seq (.never) <| .skip) (.skip)) <|
  .seq (.ret (.var 2)) <| .skip
def f_read_content : Fn := { name := "read_content", N := ["text", "words", "found"], np := 1, body := b_read_content }
def b_write_row : S :=
  .seq (.ret (.ife (.cmp .ne (.var 0) (.lst (.nil))) (.call 6 (.cons (.var 0) (.nil))) (.cst (.str "-")))) <|
  .skip
def f_write_row : Fn := { name := "write_row", N := ["row"], np := 1, body := b_write_row }
def b_read_row : S :=
  .seq (.asg 1 (.mth .split (.var 0) (.cons (.cst (.str " ")) (.nil)))) <|
  .seq (.ifs (.cmp .eq (.idx (.var 1) (.cst (.int 0))) (.cst (.str "-"))) (.seq (.ifs (.cmp .gt (.blt .len (.cons (.var 1) (.nil))) (.cst (.int 1))) (.seq (.never) <| .skip) (.skip)) <|
  .seq (.ret (.lst (.nil))) <| .skip) (.skip)) <|
  .seq (.ret (.call 7 (.cons (.var 1) (.cons (.glo "MOST_ROW" (.int 60)) (.cons (.glo "MOST_LIQUIDS" (.int 8)) (.nil)))))) <|
  .skip
def f_read_row : Fn := { name := "read_row", N := ["text", "words"], np := 1, body := b_read_row }
def b_write_history : S :=
  .seq (.unp [1, 2] (.var 0)) <| .seq (.ret (.call 6 (.cons (.lst (.cons (.var 1) (.splat (.var 2) (.nil)))) (.nil)))) <|
  .skip
def f_write_history : Fn := { name := "write_history", N := ["history", "start", "row"], np := 1, body := b_write_history }
def b_read_history : S :=
  .seq (.asg 1 (.call 7 (.cons (.mth .split (.var 0) (.cons (.cst (.str " ")) (.nil))) (.cons (.bin .add (.glo "MOST_ROW" (.int 60)) (.cst (.int 1))) (.cons (.glo "MOST_LIQUIDS" (.int 8)) (.nil)))))) <|
  .seq (.ret (.tup (.cons (.idx (.var 1) (.cst (.int 0))) (.cons (.slc (.var 1) (.cst (.int 1)) (.noe)) (.nil))))) <|
  .skip
def f_read_history : Fn := { name := "read_history", N := ["text", "found"], np := 1, body := b_read_history }
def b__law_bag : S :=
  .seq (.asg 1 (.cst (.int 151))) <| .seq (.for [2] true (.slc (.var 0) (.noe) (.cst (.int 63))) (.seq (.asg 1 (.bin .mod (.blt .int (.cons (.bin .add (.bin .add (.bin .mul (.var 1) (.cst (.int 48271))) (.bin .mod (.blt .int (.cons (.var 2) (.nil))) (.cst (.int 2147483629)))) (.cst (.int 1))) (.nil))) (.cst (.int 2147483647)))) <|
  .skip)) <|
  .seq (.ret (.lst (.cons (.comp (.bin .mod (.blt .int (.cons (.blt .abs (.cons (.var 2) (.nil))) (.nil))) (.bin .pow (.bin .pow (.cst (.int 10)) (.cst (.int 60))) (.cst (.int 10)))) [2] true (.slc (.var 0) (.noe) (.cst (.int 63))) (.noe)) (.cons (.cst (.int 0)) (.cons (.cst (.int 0)) (.cons (.var 1) (.cons (.cst (.int 0)) (.nil)))))))) <|
  .skip
def f__law_bag : Fn := { name := "_law_bag", N := ["script", "stir", "cell"], np := 1, fresh := true, body := b__law_bag }
def b__law_stirred : S :=
  .seq (.asg 2 (.cst (.int 0))) <| .seq (.for [3] true (.rng1 (.bin .add (.cst (.int 1)) (.bin .fdiv (.mth .bitlen (.var 1) (.nil)) (.cst (.int 27))))) (.seq (.setO 0 (.cst (.int 4)) (.bin .add (.idx (.own 0) (.cst (.int 4))) (.cst (.int 1)))) <|
  .seq (.asg 4 (.bin .add (.bin .add (.bin .add (.bin .pow (.idx (.own 0) (.cst (.int 3))) (.cst (.int 3))) (.bin .mul (.cst (.int 69621)) (.idx (.own 0) (.cst (.int 3))))) (.bin .mul (.cst (.int 1031)) (.idx (.own 0) (.cst (.int 4))))) (.cst (.int 1)))) <|
  .seq (.setO 0 (.cst (.int 3)) (.bin .mod (.blt .int (.cons (.var 4) (.nil))) (.cst (.int 2147483647)))) <|
  .seq (.asg 2 (.bin .add (.bin .mul (.var 2) (.cst (.int 134217728))) (.bin .fdiv (.idx (.own 0) (.cst (.int 3))) (.cst (.int 16))))) <|
  .skip)) <|
  .seq (.ret (.bin .mod (.blt .int (.cons (.var 2) (.nil))) (.var 1))) <|
  .skip
def f__law_stirred : Fn := { name := "_law_stirred", N := ["bag", "wide", "found", "k", "mixed"], np := 2, own := true, body := b__law_stirred }
def b__law_draw : S :=
  .seq (.ifs (.and (.cmp .eq (.idx (.own 0) (.cst (.int 2))) (.cst (.int 0))) (.cmp .lt (.idx (.own 0) (.cst (.int 1))) (.blt .len (.cons (.idx (.own 0) (.cst (.int 0))) (.nil))))) (.seq (.setO 0 (.cst (.int 2)) (.idx (.idx (.own 0) (.cst (.int 0))) (.idx (.own 0) (.cst (.int 1))))) <|
  .seq (.setO 0 (.cst (.int 1)) (.bin .add (.idx (.own 0) (.cst (.int 1))) (.cst (.int 1)))) <|
  .skip) (.seq (.ifs (.cmp .eq (.idx (.own 0) (.cst (.int 2))) (.cst (.int 0))) (.seq (.ret (.callO 15 0 (.cons (.var 1) (.nil)))) <| .skip) (.skip)) <|
  .skip)) <|
  .seq (.asg 2 (.bin .mod (.blt .int (.cons (.idx (.own 0) (.cst (.int 2))) (.nil))) (.var 1))) <|
  .seq (.setO 0 (.cst (.int 2)) (.bin .fdiv (.idx (.own 0) (.cst (.int 2))) (.var 1))) <|
  .seq (.ret (.var 2)) <| .skip
def f__law_draw : Fn := { name := "_law_draw", N := ["bag", "wide", "found"], np := 2, own := true, body := b__law_draw }
def b__law_alike : S :=
  .seq (.ifs (.isi (.var 1) [.b "list", .b "tuple"]) (.seq (.ifs (.or (.not (.isi (.var 0) [.b "list", .b "tuple"])) (.cmp .ne (.isi (.var 0) [.b "list"]) (.isi (.var 1) [.b "list"]))) (.seq (.ret (.cst (.bl false))) <| .skip) (.skip)) <|
  .seq (.ifs (.cmp .ne (.blt .len (.cons (.var 0) (.nil))) (.blt .len (.cons (.var 1) (.nil)))) (.seq (.ret (.cst (.bl false))) <| .skip) (.skip)) <|
  .seq (.ret (.blt .all (.cons (.comp (.call 17 (.cons (.idx (.var 0) (.var 2)) (.cons (.idx (.var 1) (.var 2)) (.nil)))) [2] true (.rng1 (.blt .len (.cons (.var 1) (.nil)))) (.noe)) (.nil)))) <|
  .skip) (.skip)) <|
  .seq (.ifs (.or (.cmp .ne (.isi (.var 0) [.b "bool"]) (.isi (.var 1) [.b "bool"])) (.cmp .ne (.isi (.var 0) [.b "int"]) (.isi (.var 1) [.b "int"]))) (.seq (.ret (.cst (.bl false))) <| .skip) (.skip)) <|
  .seq (.ret (.and (.cmp .eq (.isi (.var 0) [.b "str"]) (.isi (.var 1) [.b "str"])) (.cmp .eq (.var 0) (.var 1)))) <|
  .skip
def f__law_alike : Fn := { name := "_law_alike", N := ["found", "due", "k"], np := 2, body := b__law_alike }
def b__law_common : S :=
  .seq (.whl (.cmp .gt (.var 1) (.cst (.int 0))) (.seq (.unp [0, 1] (.tup (.cons (.var 1) (.cons (.bin .mod (.blt .int (.cons (.var 0) (.nil))) (.var 1)) (.nil))))) <|
  .skip)) <|
  .seq (.ret (.var 0)) <| .skip
def f__law_common : Fn := { name := "_law_common", N := ["one", "two"], np := 2, body := b__law_common }
def b__law_reduced : S :=
  .seq (.asg 1 (.cst (.int 0))) <| .seq (.for [2] true (.var 0) (.seq (.asg 1 (.call 18 (.cons (.var 2) (.cons (.var 1) (.nil))))) <| .skip)) <|
  .seq (.ret (.comp (.bin .fdiv (.var 2) (.var 1)) [2] true (.var 0) (.noe))) <|
  .skip
def f__law_reduced : Fn := { name := "_law_reduced", N := ["some", "found", "one"], np := 1, body := b__law_reduced }
def b__law_drawn : S :=
  .seq (.asgO 3 (.comp (.callO 16 0 (.cons (.idx (.lst (.cons (.cst (.int 2)) (.cons (.cst (.int 9)) (.cons (.var 2) (.nil))))) (.callO 16 0 (.cons (.cst (.int 3)) (.nil)))) (.nil))) [4] true (.rng1 (.var 1)) (.noe))) <|
  .seq (.ifs (.cmp .eq (.blt .sum (.cons (.own 3) (.nil))) (.cst (.int 0))) (.seq (.setO 3 (.callO 16 0 (.cons (.var 1) (.nil))) (.cst (.int 1))) <|
  .skip) (.skip)) <|
  .seq (.frz 3) <| .seq (.ret (.call 19 (.cons (.var 3) (.nil)))) <| .skip
def f__law_drawn : Fn := { name := "_law_drawn", N := ["bag", "many", "far", "some", "k"], np := 3, own := true, body := b__law_drawn }
def b_law : S :=
  .seq (.asgO 1 (.call 14 (.cons (.var 0) (.nil)))) <| .seq (.for [2] true (.rng1 (.cst (.int 8))) (.seq (.asg 3 (.callO 20 1 (.cons (.bin .add (.cst (.int 1)) (.callO 16 1 (.cons (.cst (.int 8)) (.nil)))) (.cons (.idx (.lst (.cons (.cst (.int 9)) (.cons (.bin .pow (.cst (.int 10)) (.cst (.int 30))) (.nil)))) (.callO 16 1 (.cons (.cst (.int 2)) (.nil)))) (.nil))))) <|
  .seq (.asg 4 (.mth .join (.cst (.str " ")) (.cons (.comp (.blt .str (.cons (.var 5) (.nil))) [5] true (.var 3) (.noe)) (.nil)))) <|
  .seq (.ifs (.not (.call 17 (.cons (.lst (.cons (.callK 8 (.cons (.var 3) (.nil)) [0]) (.cons (.callK 9 (.cons (.var 4) (.nil)) [0]) (.nil)))) (.cons (.lst (.cons (.var 4) (.cons (.var 3) (.nil)))) (.nil))))) (.seq (.ret (.cst (.bl false))) <| .skip) (.skip)) <|
  .seq (.asg 6 (.comp (.callO 16 1 (.cons (.cst (.int 8)) (.nil))) [7] true (.rng1 (.idx (.lst (.cons (.callO 16 1 (.cons (.cst (.int 6)) (.nil))) (.cons (.cst (.int 60)) (.nil)))) (.callO 16 1 (.cons (.cst (.int 2)) (.nil))))) (.noe))) <|
  .seq (.asg 4 (.ife (.cmp .ne (.var 6) (.lst (.nil))) (.mth .join (.cst (.str " ")) (.cons (.comp (.blt .str (.cons (.var 5) (.nil))) [5] true (.var 6) (.noe)) (.nil))) (.cst (.str "-")))) <|
  .seq (.unp [8, 9] (.tup (.cons (.blt .list (.cons (.var 6) (.nil))) (.cons (.tup (.cons (.cst (.int 3)) (.cons (.blt .list (.cons (.var 6) (.nil))) (.nil)))) (.nil))))) <|
  .seq (.ifs (.not (.call 17 (.cons (.lst (.cons (.callK 10 (.cons (.var 8) (.nil)) [0]) (.cons (.callK 11 (.cons (.var 4) (.nil)) [0]) (.nil)))) (.cons (.lst (.cons (.var 4) (.cons (.var 6) (.nil)))) (.nil))))) (.seq (.ret (.cst (.bl false))) <| .skip) (.skip)) <|
  .seq (.expr (.call 12 (.cons (.var 9) (.nil)))) <| .seq (.ifs (.or (.cmp .ne (.var 8) (.var 6)) (.cmp .ne (.var 9) (.tup (.cons (.cst (.int 3)) (.cons (.var 6) (.nil)))))) (.seq (.ret (.cst (.bl false))) <| .skip) (.skip)) <|
  .seq (.asg 10 (.callO 16 1 (.cons (.cst (.int 8)) (.nil)))) <| .seq (.asg 4 (.mth .join (.cst (.str " ")) (.cons (.comp (.blt .str (.cons (.var 5) (.nil))) [5] true (.bin .add (.lst (.cons (.var 10) (.nil))) (.var 6)) (.noe)) (.nil)))) <|
  .seq (.asg 11 (.lst (.cons (.callK 12 (.cons (.tup (.cons (.var 10) (.cons (.blt .list (.cons (.var 6) (.nil))) (.nil)))) (.nil)) [0]) (.cons (.callK 13 (.cons (.var 4) (.nil)) [0]) (.nil))))) <|
  .seq (.ifs (.not (.call 17 (.cons (.var 11) (.cons (.lst (.cons (.var 4) (.cons (.tup (.cons (.var 10) (.cons (.var 6) (.nil)))) (.nil)))) (.nil))))) (.seq (.ret (.cst (.bl false))) <| .skip) (.skip)) <|
  .seq (.spoil 12 5 (.cons (.call 9 (.cons (.cst (.str "1")) (.nil))) (.cons (.call 11 (.cons (.cst (.str "-")) (.nil))) (.cons (.call 11 (.cons (.cst (.str "3")) (.nil))) (.cons (.idx (.call 13 (.cons (.cst (.str "2 3")) (.nil))) (.cst (.int 1))) (.nil)))))) <|
  .seq (.asg 11 (.lst (.cons (.call 9 (.cons (.cst (.str "1")) (.nil))) (.cons (.call 11 (.cons (.cst (.str "-")) (.nil))) (.cons (.call 11 (.cons (.cst (.str "3")) (.nil))) (.cons (.call 13 (.cons (.cst (.str "2 3")) (.nil))) (.nil))))))) <|
  .seq (.ifs (.not (.call 17 (.cons (.var 11) (.cons (.lst (.cons (.lst (.cons (.cst (.int 1)) (.nil))) (.cons (.lst (.nil)) (.cons (.lst (.cons (.cst (.int 3)) (.nil))) (.cons (.tup (.cons (.cst (.int 2)) (.cons (.lst (.cons (.cst (.int 3)) (.nil))) (.nil)))) (.nil)))))) (.nil))))) (.seq (.ret (.cst (.bl false))) <| .skip) (.skip)) <|
  .skip)) <|
  .seq (.asg 11 (.lst (.cons (.call 8 (.cons (.lst (.cons (.cst (.int 17)) (.cons (.cst (.int 4)) (.cons (.cst (.int 6)) (.nil))))) (.nil))) (.cons (.call 10 (.cons (.lst (.nil)) (.nil))) (.cons (.call 10 (.cons (.lst (.cons (.cst (.int 1)) (.cons (.cst (.int 0)) (.nil)))) (.nil))) (.cons (.call 12 (.cons (.tup (.cons (.cst (.int 0)) (.cons (.lst (.nil)) (.nil)))) (.nil))) (.nil))))))) <|
  .seq (.asg 11 (.bin .add (.var 11) (.lst (.cons (.call 12 (.cons (.tup (.cons (.cst (.int 2)) (.cons (.lst (.cons (.cst (.int 0)) (.cons (.cst (.int 1)) (.nil)))) (.nil)))) (.nil))) (.nil))))) <|
  .seq (.ret (.call 17 (.cons (.bin .add (.var 11) (.lst (.cons (.call 13 (.cons (.cst (.str "7")) (.nil))) (.nil)))) (.cons (.lst (.cons (.cst (.str "17 4 6")) (.cons (.cst (.str "-")) (.cons (.cst (.str "1 0")) (.cons (.cst (.str "0")) (.cons (.cst (.str "2 0 1")) (.cons (.tup (.cons (.cst (.int 7)) (.cons (.lst (.nil)) (.nil)))) (.nil)))))))) (.nil))))) <|
  .skip
def f_law : Fn := { name := "law", N := ["script", "bag", "turn", "some", "shown", "one", "rest", "k", "handed", "said", "first", "told", "found"], np := 1, body := b_law }
def T : List Fn := [f_is_integer, f_common_divisor, f_divisor_of, f_are_parts, f_is_content, f_number_in, f_numbers_text, f_numbers_of, f_write_content, f_read_content, f_write_row, f_read_row, f_write_history, f_read_history, f__law_bag, f__law_stirred, f__law_draw, f__law_alike, f__law_common, f__law_reduced, f__law_drawn, f_law]
def iL : Nat := 21
def tops : List Nat := [5, 6, 7, 8, 9, 14, 15, 16, 17, 18, 19, 20, 21, 22, 24, 25, 26, 27, 28, 32, 33, 35]
def KW : List (Nat × List Nat × List Str) := [(9, [0], ["text"]), (8, [0], ["content"]), (11, [0], ["text"]), (10, [0], ["row"]), (13, [0], ["text"]), (12, [0], ["history"])]
def G : List (Str × D) := [("MOST_LIQUIDS", .int 8), ("DIGITS", .str "0123456789"), ("MOST_DIGITS", .int 30), ("MOST_ROW", .int 60)]
/-! ### the program's functions -/
theorem is_int {k : Nat} (n : Int) : Fs T (k + 1) 0 [.int n] [] = .ok (.bl true) [] := by
  rw [Fs_at (T := T) (i := 0) rfl rfl]
  show outF false (evS (Fs T k) b_is_integer [some (.int n)] []) = _
  unfold b_is_integer
  simp -implicitDefEqProofs [late, isiD, tyNames, tyB, outF]
theorem divisor {k e : Nat} {ns : List Nat} (he : e ≤ 4000) (hn : ∀ n ∈ ns, n < 2 ^ e) : Fs T (k + 2) 2 [.lst (LN ns)] [] = .ok (.int (gL ns : Nat)) [] := by
  rw [Fs_at (T := T) (i := 2) rfl rfl]
  show outF false (evS (Fs T (k + 1)) b_divisor_of [some (.lst (LN ns)), none, none] []) = _
  unfold b_divisor_of
  obtain ⟨η2, ω2, h1, g, c, rs, rfl, rfl, hr, hg1, _, hf⟩ := forGo_inv (body := evS (Fs T (k + 1)) (.seq (.asg 1 (.ife (.or (.cmp .ne (.var 1) (.cst (.int 0))) (.cmp .ne (.var 2) (.cst (.int 0)))) (.call 1 (.cons (.var 1) (.cons (.var 2) (.nil)))) (.cst (.int 0)))) <| .skip)) (tg := [2]) (one := true)
    (fun rest η ω => ∃ (g : Nat) (c : Option D) (rs : List Nat), η = [some (.lst (LN ns)), some (.int g), c] ∧ ω = [] ∧ rest = LN rs ∧ g < 2 ^ e ∧ (∀ n ∈ rs, n < 2 ^ e) ∧ rs.foldl (fun g x => Nat.gcd x g) g = gL ns)
    (by
      rintro x rest η ω ⟨g, c, rs, rfl, rfl, hr, hg1, hrs, hf⟩
      cases rs with
      | nil => cases hr
      | cons z rs =>
        cases hr
        have hz := hrs z (by simp)
        have hcall : Fs T (k + 1) 1 [.int (g : Int), .int (z : Int)] [] = .ok (.int (Nat.gcd z g : Nat)) [] := by
          have := cdiv_ok (T := T) (i := 1) (k := k) (a := (g : Int)) (b := (z : Int)) (n := e + e) rfl (by
            rw [Nat.pow_add, Int.natAbs_natCast, Int.natAbs_natCast]
            exact Nat.mul_lt_mul'' hg1 hz) (by omega)
          rw [this, Int.natAbs_natCast, Int.natAbs_natCast, Nat.gcd_comm]
        refine ⟨rfl, _, rfl, [some (.lst (LN ns)), some (.int (Nat.gcd z g : Nat)), some (.int z)], [], ?_, Nat.gcd z g, _, rs, rfl, rfl, rfl, gL_lt [z] g hg1 (fun n h => by rw [List.mem_singleton.mp h]; exact hz), fun n h => hrs n (List.mem_cons_of_mem _ h), hf⟩
        by_cases hg0 : g = 0
        · subst hg0
          by_cases hz0 : z = 0
          · subst hz0
            simp -implicitDefEqProofs [late, cmpD, eqD_int]
          · have hz1 : (z : Int) ≠ 0 := by omega
            simp -implicitDefEqProofs [late, cmpD, eqD_int, hz0] at hcall ⊢
            simp -implicitDefEqProofs [hcall]
        · simp -implicitDefEqProofs [late, cmpD, eqD_int, hg0, hcall])
    (LN ns) [some (.lst (LN ns)), some (.int ((0 : Nat) : Int)), none] [] ⟨0, none, ns, rfl, rfl, rfl, Nat.pow_pos (by decide), hn, rfl⟩
  have hrs : rs = [] := by cases rs with
    | nil => rfl
    | cons _ _ => cases hr
  subst hrs
  have hge : g = gL ns := hf
  subst hge
  rw [evS_seq, evS_asg, ev_cst, Out.on_ok, if_neg (by simp [look]), andThen_nx]
  show outF false (evS (Fs T (k + 1)) _ [some (.lst (LN ns)), some (.int ((0 : Nat) : Int)), none] _) = _
  have hv : ∀ s c : Option D, ev (Fs T (k + 1)) (.var 0) [some (.lst (LN ns)), s, c] [] = .ok (.lst (LN ns)) [] := fun _ _ => rfl
  rw [evS_seq, evS_for, hv, Out.on_ok]
  simp -implicitDefEqProofs only [itemsD, onS_some]
  rw [h1]
  simp -implicitDefEqProofs [outF]
theorem parts {k : Nat} {ns : List Nat} (h1 : 1 ≤ ns.length) (h8 : ns.length ≤ 8) (hs : 0 < ns.sum) : Fs T (k + 2) 3 [.lst (LN ns)] [] = .ok (.bl true) [] := by
  rw [Fs_at (T := T) (i := 3) rfl rfl]
  show outF false (evS (Fs T (k + 1)) b_are_parts [some (.lst (LN ns)), none] []) = _
  unfold b_are_parts
  have hcomp : ev (Fs T (k + 1)) (.comp (.and (.call 0 (.cons (.var 1) (.nil))) (.cmp .ge (.var 1) (.cst (.int 0)))) [1] true (.var 0) (.noe)) [some (.lst (LN ns)), none] [] = .ok (.lst (List.replicate ns.length (.bl true))) [] := by
    rw [ev_comp]
    have hv : ev (Fs T (k + 1)) (.var 0) [some (.lst (LN ns)), none] [] = .ok (.lst (LN ns)) [] := rfl
    rw [hv]
    simp -implicitDefEqProofs only [Out.bnd_ok, itemsD]
    rw [compGo_map (fun _ => .bl true) rfl (LN ns) [] (fun x hx => by
      obtain ⟨z, hz, rfl⟩ := List.mem_map.mp hx
      refine ⟨_, rfl, ?_⟩
      simp -implicitDefEqProofs [late, isNoe, ctake, ctest, is_int, cmpD, leD]) (by rw [LN_len]; simp only [List.length_nil]; exact Nat.le_trans (by omega) small_sz)]
    simp only [Out.bnd_ok, List.nil_append]
    congr 2
    rw [List.map_const', LN_len]
  have e1 : (1 : Int) ≤ (ns.length : Int) := by omega
  have e2 : (ns.length : Int) ≤ 8 := by omega
  have e3 : (0 : Int) < ((ns.sum : Nat) : Int) := by omega
  simp -implicitDefEqProofs [late, isiD, tyNames, tyB, bltD, len1D, lenD, LN_len, cmpD, leD, ltD, e1, e2, e3, hcomp, allD, boolL_true, sum_LN, outF]
  exact hs
theorem content {k e : Nat} {ns : List Nat} (h1 : 1 ≤ ns.length) (h8 : ns.length ≤ 8) (he : e ≤ 4000) (hn : ∀ n ∈ ns, n < 2 ^ e) (hg : gL ns = 1) : Fs T (k + 3) 4 [.lst (LN ns)] [] = .ok (.bl true) [] := by
  rw [Fs_at (T := T) (i := 4) rfl rfl]
  show outF false (evS (Fs T (k + 2)) b_is_content [some (.lst (LN ns))] []) = _
  unfold b_is_content
  have hs : 0 < ns.sum := by
    by_cases h : ns.sum = 0
    · exfalso
      have : ∀ ns : List Nat, ns.sum = 0 → ∀ a, ns.foldl (fun g x => Nat.gcd x g) a = a := by
        intro ns
        induction ns with
        | nil => intro _ a; rfl
        | cons n ns ih =>
          intro h a
          simp only [List.sum_cons] at h
          have h0 : n = 0 := by omega
          subst h0
          simp only [List.foldl_cons, Nat.gcd_zero_left]
          exact ih (by omega) a
      have := this ns h 0
      unfold gL at hg
      omega
    · omega
  have e1 := parts (k := k) h1 h8 hs
  have e2 := divisor (k := k) he hn
  rw [hg] at e2
  simp -implicitDefEqProofs [late, e1, e2, cmpD, eqD_int, outF]
def dgt : Str := "0123456789"
theorem sign_in {c : Nat} (h : 48 ≤ c ∧ c ≤ 57) : inD (.str ⟨#[c]⟩) (.str dgt) = some true := by
  have : c = 48 ∨ c = 49 ∨ c = 50 ∨ c = 51 ∨ c = 52 ∨ c = 53 ∨ c = 54 ∨ c = 55 ∨ c = 56 ∨ c = 57 := by omega
  rcases this with rfl | rfl | rfl | rfl | rfl | rfl | rfl | rfl | rfl | rfl <;> decide +kernel
theorem filterMap_none {α β : Type} (l : List α) : l.filterMap (fun _ => (none : Option β)) = [] := by
  induction l with
  | nil => rfl
  | cons x l ih => rw [List.filterMap_cons]; exact ih
theorem eqD_nil : eqD (.lst []) (.lst []) = some true := by decide +kernel
theorem number_in {k n : Nat} (h : n < 10 ^ 30) : Fs T (k + 1) 5 [.str (tx n)] [] = .ok (.int n) [] := by
  rw [Fs_at (T := T) (i := 5) rfl rfl]
  show outF false (evS (Fs T k) b_number_in [some (.str (tx n)), none] []) = _
  unfold b_number_in
  have hl := tx_len h (by decide)
  have hl1 : 1 ≤ (tx n).length := by
    have := tx_ne n
    have e : (tx n).length = ((tx n).cps.toList).length := by rw [Array.length_toList]; rfl
    rw [e]
    exact List.length_pos_iff.mpr this
  have hsz : (tx n).length ≤ sizeLine := Nat.le_trans (Nat.le_trans hl (by decide)) small_sz
  have hcomp : ev (Fs T k) (.comp (.var 1) [1] true (.var 0) (.cmp .notin (.var 1) (.glo "DIGITS" (.str "0123456789")))) [some (.str (tx n)), none] [] = .ok (.lst []) [] := by
    rw [ev_comp]
    have hv : ev (Fs T k) (.var 0) [some (.str (tx n)), none] [] = .ok (.str (tx n)) [] := rfl
    rw [hv]
    simp -implicitDefEqProofs only [Out.bnd_ok, itemsD]
    rw [compGo_filter (fun _ => none) rfl _ [] (fun x hx => by
      obtain ⟨c, hc, rfl⟩ := List.mem_map.mp hx
      refine ⟨_, rfl, ?_⟩
      have := sign_in (tx_digits n c hc)
      have e : inD (.str ⟨#[c]⟩) (.str "0123456789") = some true := this
      simp -implicitDefEqProofs [late, isNoe, ctake, ctest, cmpD, e, tru]) (by
        rw [List.length_map, Array.length_toList]
        have : (tx n).cps.size ≤ sizeLine := hsz
        simpa using this)]
    rw [filterMap_none]; rfl
  obtain ⟨c, r, hcr⟩ : ∃ c r, (tx n).cps.toList = c :: r := by
    cases q : (tx n).cps.toList with
    | nil => exact absurd q (tx_ne n)
    | cons c r => exact ⟨c, r, rfl⟩
  have hix : idxD (.str (tx n)) (.int 0) = some (.str ⟨#[c]⟩) := by
    show (if (tx n).length ≤ sizeLine then (atI (tx n).cps.toList 0).map fun c => D.str ⟨#[c]⟩ else none) = _
    rw [if_pos hsz, hcr]; simp [atI, ixN]
  have hc := tx_digits n c (by rw [hcr]; simp)
  have ok1 : PyData.strOk ⟨#[c]⟩ = true := by
    unfold PyData.strOk
    rw [← Array.all_toList, List.all_eq_true]
    intro d hd
    rw [List.mem_singleton.mp hd]
    exact decide_eq_true (by omega)
  have ok0 : PyData.strOk ("0" : Str) = true := by decide +kernel
  have e1 : (1 : Int) ≤ ((tx n).length : Int) := by omega
  have e2 : ((tx n).length : Int) ≤ 30 := by omega
  have hcond : ev (Fs T k) (.and (.cmp .eq (.idx (.var 0) (.cst (.int 0))) (.cst (.str "0"))) (.cmp .ne (.var 0) (.cst (.str "0")))) [some (.str (tx n)), none] [] = .ok (.bl false) [] := by
    by_cases hz : (⟨#[c]⟩ : Str) = "0"
    · have c48 : c = 48 := by
        have : (⟨#[c]⟩ : Str) = ⟨#[48]⟩ := hz.trans (by decide +kernel)
        simpa using this
      have hr := tx_nought (n := n) (r := r) (by rw [hcr, c48])
      have hx : tx n = "0" := by
        have e : (tx n).cps.toList = [48] := by rw [hcr, c48, hr]
        have e2 : (tx n).cps = #[48] := by
          apply Array.ext'
          rw [e]
        have : tx n = ⟨#[48]⟩ := by
          cases q : tx n with
          | mk a => rw [q] at e2; cases e2; rfl
        rw [this]; decide +kernel
      have b1 : ((⟨#[c]⟩ : Str) == "0") = true := beq_iff_eq.mpr hz
      have b2 : (tx n == "0") = true := beq_iff_eq.mpr hx
      simp -implicitDefEqProofs only [ev_and, ev_cmp, ev_idx, ev_var, ev_cst, late, opd2_e, opd_n, snap_n, cmpD, Out.bnd_ok, Out.of_some, List.getElem?_cons_zero, Option.getD_some, Option.bind_some, hix, eqD_str ok1 ok0, eqD_str (tx_ok n) ok0, b1, b2, Option.map_some, onB_t, Bool.not_true]
    · have b1 : ((⟨#[c]⟩ : Str) == "0") = false := by simpa using hz
      simp -implicitDefEqProofs only [ev_and, ev_cmp, ev_idx, ev_var, ev_cst, late, opd2_e, opd_n, snap_n, cmpD, Out.bnd_ok, Out.of_some, List.getElem?_cons_zero, Option.getD_some, Option.bind_some, hix, eqD_str ok1 ok0, b1, Option.map_some, onB_f]
  have hint : bltD .int [.str (tx n)] = some (.int n) := by
    show (if (tx n).length ≤ 640 then (PySem.intText? (tx n)).map D.int else none) = _
    rw [if_pos (by omega), tx_int h]; rfl
  have hlen : bltD .len [.str (tx n)] = some (.int ((tx n).length : Int)) := by
    show ((if (tx n).length ≤ sizeLine then some (tx n).length else none).map fun n => D.int (n : Int)) = _
    rw [if_pos hsz]; rfl
  have hz0 : (0 : Nat) ≤ sizeLine := Nat.zero_le _
  rw [evS_seq, ifs_eq _ _ _ _ _ _ [] false (by
    simp -implicitDefEqProofs [late, hlen, cmpD, leD, e1, e2, hcomp, eqD_nil, hz0, -ev_comp])]
  rw [if_neg Bool.false_ne_true, evS_skip, andThen_nx, evS_seq, evS_ret, ev_ife, hcond]
  simp -implicitDefEqProofs [late, hint, outF]
theorem numbers_text {k : Nat} {ns : List Nat} (hl : ns.length ≤ 1000) (h : ∀ n ∈ ns, n < 10 ^ 30) : Fs T (k + 1) 6 [.lst (LN ns)] [] = .ok (.str (Txt.join sp (ns.map tx))) [] := by
  rw [Fs_at (T := T) (i := 6) rfl rfl]
  show outF false (evS (Fs T k) b_numbers_text [some (.lst (LN ns)), none] []) = _
  unfold b_numbers_text
  have hcomp : ev (Fs T k) (.comp (.blt .str (.cons (.var 1) (.nil))) [1] true (.var 0) (.noe)) [some (.lst (LN ns)), none] [] = .ok (.lst ((ns.map tx).map .str)) [] := by
    rw [ev_comp]
    have hv : ev (Fs T k) (.var 0) [some (.lst (LN ns)), none] [] = .ok (.lst (LN ns)) [] := rfl
    rw [hv]
    simp -implicitDefEqProofs only [Out.bnd_ok, itemsD]
    rw [compGo_map (fun d => match d with
      | .int z => .str (tx z.toNat)
      | d => d) rfl (LN ns) [] (fun x hx => by
      obtain ⟨z, hz, rfl⟩ := List.mem_map.mp hx
      refine ⟨_, rfl, ?_⟩
      have e : bltD .str [.int (z : Int)] = some (.str (tx z)) := str_tx (h z hz)
      simp -implicitDefEqProofs [late, isNoe, ctake, ctest, e]) (by rw [LN_len]; simp only [List.length_nil]; exact Nat.le_trans (by omega) small_sz)]
    simp only [Out.bnd_ok, List.nil_append]
    congr 2
    unfold LN
    rw [List.map_map, List.map_map]
    rfl
  have hstr : ∀ xs : List Str, strL (xs.map .str) = some xs := by
    intro xs
    induction xs with
    | nil => rfl
    | cons x xs ih => show (strL _).map _ = _; rw [ih]; rfl
  have hj : joinD (.str " ") [.lst ((ns.map tx).map .str)] = some (.str (Txt.join sp (ns.map tx))) := by
    show ((strL _).bind fun ys => if joinOk sp ys then some (D.str (Txt.join sp ys)) else none) = _
    rw [hstr]
    show (if joinOk sp (ns.map tx) then _ else _) = _
    rw [if_pos (joinOk_tx hl h)]
  rw [evS_seq, evS_ret, ev_mth]
  simp -implicitDefEqProofs only [late, opd_n, ev_cst, Out.bnd_ok, snap_n, mtOk, if_true, evs_cons, evs_nil, hcomp, Out.of_some, Option.bind_some, mtD, hj, Out.on_ok, andThen_rt, outF]
def W (ns : List Nat) : List D := (ns.map tx).map .str
theorem numbers_of {k : Nat} {ns : List Nat} {most : Int} {bd : D} (hl : ns.length ≤ 1000) (h : ∀ n ∈ ns, n < 10 ^ 30) (hm : (ns.length : Int) ≤ most) (hb : bd = .non ∨ ∃ B : Int, bd = .int B ∧ ∀ n ∈ ns, (n : Int) < B) : Fs T (k + 2) 7 [.lst (W ns), .int most, bd] [] = .ok (.lst (LN ns)) [] := by
  rw [Fs_at (T := T) (i := 7) rfl rfl]
  show outF false (evS (Fs T (k + 1)) b_numbers_of [some (.lst (W ns)), some (.int most), some bd, none, none, none, none] []) = _
  unfold b_numbers_of
  obtain ⟨η2, ω2, h1, done, todo, x4, x5, x6, hns, hr, rfl, rfl⟩ := forGo_inv (body := evS (Fs T (k + 1)) (.seq (.asg 6 (.call 5 (.cons (.var 5) (.nil)))) <| .seq (.ifs (.or (.isN (.var 6)) (.or (.cmp .eq (.var 4) (.var 1)) (.and (.notN (.var 2)) (.cmp .ge (.var 6) (.var 2))))) (.seq (.never) <| .skip) (.skip)) <|
      .seq (.app 3 (.var 6)) <| .skip)) (tg := [4, 5]) (one := false)
    (fun rest η ω => ∃ (done todo : List Nat) (x4 x5 x6 : Option D), ns = done ++ todo ∧ rest = enumFrom done.length (W todo) ∧ η = [some (.lst (W ns)), some (.int most), some bd, none, x4, x5, x6] ∧ ω = [(3, LN done)])
    (by
      rintro x rest η ω ⟨done, todo, x4, x5, x6, hns, hr, rfl, rfl⟩
      cases todo with
      | nil => cases hr
      | cons z todo =>
        have hr' : x :: rest = .tup [.int (done.length : Int), .str (tx z)] :: enumFrom (done.length + 1) (W todo) := hr
        cases hr'
        have hz : z ∈ ns := by rw [hns]; simp
        have hcall := number_in (k := k) (h z hz)
        have hlt : done.length < ns.length := by rw [hns]; simp
        have hne : ¬ ((done.length : Int) = most) := by omega
        refine ⟨by simp [look], _, rfl, [some (.lst (W ns)), some (.int most), some bd, none, some (.int (done.length : Int)), some (.str (tx z)), some (.int z)], [(3, LN (done ++ [z]))], ?_, done ++ [z], todo, _, _, _, by rw [hns]; simp, by simp, rfl, rfl⟩
        have hq : LN (done ++ [z]) = LN done ++ [.int (z : Int)] := by unfold LN; rw [List.map_append]; rfl
        have hsz : (LN done).length < sizeLine := by rw [LN_len]; exact Nat.lt_of_lt_of_le (by omega) small_sz
        have hcond : ev (Fs T (k + 1)) (.or (.isN (.var 6)) (.or (.cmp .eq (.var 4) (.var 1)) (.and (.notN (.var 2)) (.cmp .ge (.var 6) (.var 2))))) [some (.lst (W ns)), some (.int most), some bd, none, some (.int (done.length : Int)), some (.str (tx z)), some (.int z)] [(3, LN done)] = .ok (.bl false) [(3, LN done)] := by
          rcases hb with rfl | ⟨B, rfl, hB⟩
          · simp -implicitDefEqProofs [late, Mp.isNon, cmpD, eqD_int, hne]
          · have hzB : ¬ (B ≤ (z : Int)) := by have := hB z hz; omega
            simp -implicitDefEqProofs [late, Mp.isNon, cmpD, eqD_int, hne, leD, hzB]
        have s1 : evS (Fs T (k + 1)) (.asg 6 (.call 5 (.cons (.var 5) (.nil)))) [some (.lst (W ns)), some (.int most), some bd, none, some (.int (done.length : Int)), some (.str (tx z)), x6] [(3, LN done)] = .nx [some (.lst (W ns)), some (.int most), some bd, none, some (.int (done.length : Int)), some (.str (tx z)), some (.int z)] [(3, LN done)] := by
          simp -implicitDefEqProofs [late, hcall, look]
        show evS (Fs T (k + 1)) _ [some (.lst (W ns)), some (.int most), some bd, none, some (.int (done.length : Int)), some (.str (tx z)), x6] _ = _
        rw [evS_seq, s1, andThen_nx, evS_seq, ifs_eq _ _ _ _ _ _ _ _ hcond, if_neg Bool.false_ne_true, evS_skip, andThen_nx]
        simp -implicitDefEqProofs [look, popS, hsz, put, hq])
    (enumFrom 0 (W ns)) [some (.lst (W ns)), some (.int most), some bd, none, none, none, none] [(3, [])] ⟨[], ns, none, none, none, rfl, rfl, rfl, rfl⟩
  have ht : todo = [] := by
    cases todo with
    | nil => rfl
    | cons z t => cases hr
  subst ht
  have hd : done = ns := by rw [hns]; simp
  subst hd
  have hz0 : (0 : Nat) ≤ sizeLine := Nat.zero_le _
  have s0 : evS (Fs T (k + 1)) (.asgO 3 (.lst (.nil))) [some (.lst (W done)), some (.int most), some bd, none, none, none, none] [] = .nx [some (.lst (W done)), some (.int most), some bd, none, none, none, none] [(3, [])] := by
    simp -implicitDefEqProofs [isLst, put, hz0]
  rw [evS_seq, s0, andThen_nx, evS_seq, evS_for]
  have hit : ev (Fs T (k + 1)) (.enm (.var 0)) [some (.lst (W done)), some (.int most), some bd, none, none, none, none] [(3, [])] = .ok (.lst (enumFrom 0 (W done))) [(3, [])] := by
    simp -implicitDefEqProofs [onL]
  rw [hit, Out.on_ok]
  simp -implicitDefEqProofs only [itemsD, onS_some]
  rw [h1]
  simp -implicitDefEqProofs [popS, look, outF]
theorem sp_len : sp.length = 1 := by decide +kernel
/-- a text of numbers, split -/
theorem splitD_tx {ns : List Nat} (hn : ns ≠ []) (hl : ns.length ≤ 1000) (h : ∀ n ∈ ns, n < 10 ^ 30) : splitD (.str (Txt.join sp (ns.map tx))) [.str " "] = some (.lst (W ns)) := by
  have h1 : (sp.length == 0) = false := by rw [sp_len]; rfl
  have h2 : (Txt.join sp (ns.map tx)).length + 2 ≤ sizeLine := Nat.le_trans (Nat.add_le_add_right (join_len hl h) 2) (by decide)
  show (if (sp.length == 0) = false ∧ (Txt.join sp (ns.map tx)).length + 2 ≤ sizeLine then some (D.lst ((Txt.split (Txt.join sp (ns.map tx)) sp).map .str)) else none) = _
  rw [if_pos ⟨h1, h2⟩, split_tx hn]
  rfl
theorem write_content_ok {k : Nat} {ns : List Nat} (hl : ns.length ≤ 1000) (h : ∀ n ∈ ns, n < 10 ^ 30) : Fs T (k + 2) 8 [.lst (LN ns)] [] = .ok (.str (Txt.join sp (ns.map tx))) [] := by
  rw [Fs_at (T := T) (i := 8) rfl rfl]
  show outF false (evS (Fs T (k + 1)) b_write_content [some (.lst (LN ns))] []) = _
  unfold b_write_content
  simp -implicitDefEqProofs [late, numbers_text (k := k) hl h, outF]
theorem read_content_ok {k : Nat} {ns : List Nat} (h1 : 1 ≤ ns.length) (h8 : ns.length ≤ 8) (h : ∀ n ∈ ns, n < 10 ^ 30) (hg : gL ns = 1) : Fs T (k + 4) 9 [.str (Txt.join sp (ns.map tx))] [] = .ok (.lst (LN ns)) [] := by
  rw [Fs_at (T := T) (i := 9) rfl rfl]
  show outF false (evS (Fs T (k + 3)) b_read_content [some (.str (Txt.join sp (ns.map tx))), none, none] []) = _
  unfold b_read_content
  have hs := splitD_tx (ns := ns) (by intro e; rw [e] at h1; simp at h1) (by omega) h
  have hn := numbers_of (k := k + 1) (ns := ns) (most := 8) (bd := .non) (by omega) h (by omega) (.inl rfl)
  have hc := content (k := k) (e := 100) h1 h8 (by decide) (fun n hn => Nat.lt_trans (h n hn) (by decide +kernel)) hg
  simp -implicitDefEqProofs [late, mtOk, mtD, hs, hn, hc, outF]
theorem eqD_LN_nil (ns : List Nat) (hn : ns ≠ []) : eqD (.lst (LN ns)) (.lst []) = some false := by
  have hsh : shaped (.lst (LN ns)) = true := by
    have key : ∀ ns : List Nat, PyData.canLayAll0 (pys (LN ns)) = true ∧ PyData.depthAll (pys (LN ns)) ≤ 1 := by
      intro ns
      induction ns with
      | nil => exact ⟨rfl, by simp [LN, pys, PyData.depthAll]⟩
      | cons n ns ih =>
        obtain ⟨i1, i2⟩ := ih
        refine ⟨?_, ?_⟩
        · show (PyData.canLay0 (.int n) && PyData.canLayAll0 (pys (LN ns))) = true
          rw [i1]; rfl
        · have : pys (LN (n :: ns)) = .int n :: pys (LN ns) := rfl
          rw [this]
          simp [PyData.depthAll, PyData.depth]
          omega
    obtain ⟨k1, k2⟩ := key ns
    unfold shaped SeqAt.shaped
    have e : D.py (.lst (LN ns)) = .list (pys (LN ns)) := rfl
    rw [e]
    simp [PyData.canLay0, PyData.depth, k1]
    omega
  unfold eqD
  rw [hsh]
  have h2 : shaped (.lst []) = true := by decide +kernel
  rw [h2]
  cases ns with
  | nil => exact absurd rfl hn
  | cons n ns => rfl
theorem write_row_ok {k : Nat} {ns : List Nat} (hl : ns.length ≤ 1000) (h : ∀ n ∈ ns, n < 10 ^ 30) : Fs T (k + 2) 10 [.lst (LN ns)] [] = .ok (.str (if ns = [] then "-" else Txt.join sp (ns.map tx))) [] := by
  rw [Fs_at (T := T) (i := 10) rfl rfl]
  show outF false (evS (Fs T (k + 1)) b_write_row [some (.lst (LN ns))] []) = _
  unfold b_write_row
  have hz0 : (0 : Nat) ≤ sizeLine := Nat.zero_le _
  by_cases hn : ns = []
  · subst hn
    have e : LN [] = [] := rfl
    simp -implicitDefEqProofs [late, e, cmpD, eqD_nil, hz0, outF]
  · simp -implicitDefEqProofs [late, cmpD, eqD_LN_nil ns hn, hz0, numbers_text (k := k) hl h, outF, hn]
theorem read_row_ok {k : Nat} {ns : List Nat} (h1 : 1 ≤ ns.length) (hl : ns.length ≤ 60) (h : ∀ n ∈ ns, n < 8) : Fs T (k + 3) 11 [.str (Txt.join sp (ns.map tx))] [] = .ok (.lst (LN ns)) [] := by
  rw [Fs_at (T := T) (i := 11) rfl rfl]
  show outF false (evS (Fs T (k + 2)) b_read_row [some (.str (Txt.join sp (ns.map tx))), none] []) = _
  unfold b_read_row
  have h30 : ∀ n ∈ ns, n < 10 ^ 30 := fun n hn => Nat.lt_trans (h n hn) (by decide +kernel)
  have hs := splitD_tx (ns := ns) (by intro e; rw [e] at h1; simp at h1) (by omega) h30
  have hn := numbers_of (k := k) (ns := ns) (most := 60) (bd := .int 8) (by omega) h30 (by omega) (.inr ⟨8, rfl, fun n hn => by have := h n hn; omega⟩)
  cases ns with
  | nil => simp at h1
  | cons n ns =>
    have hix : idxD (.lst (W (n :: ns))) (.int 0) = some (.str (tx n)) := by
      show atI (.str (tx n) :: W ns) 0 = _
      simp [atI, ixN]
    have okm : PyData.strOk ("-" : Str) = true := by decide +kernel
    have hne : (tx n == ("-" : Str)) = false := by
      rw [beq_eq_false_iff_ne]
      intro e
      have : 45 ∈ (tx n).cps.toList := by rw [e]; decide +kernel
      have := tx_digits n 45 this
      omega
    generalize hJ : Txt.join sp ((n :: ns).map tx) = J at *
    generalize hW : W (n :: ns) = Wn at *
    simp -implicitDefEqProofs [late, mtOk, mtD, hs, hn, hix, cmpD, eqD_str (tx_ok n) okm, hne, outF]
theorem read_row_dash {k : Nat} : Fs T (k + 3) 11 [.str "-"] [] = .ok (.lst []) [] := by
  rw [Fs_at (T := T) (i := 11) rfl rfl]
  show outF false (evS (Fs T (k + 2)) b_read_row [some (.str "-"), none] []) = _
  unfold b_read_row
  have hs : splitD (.str "-") [.str " "] = some (.lst [.str "-"]) := by kernel_rfl
  have hix : idxD (.lst [.str "-"]) (.int 0) = some (.str "-") := rfl
  have heq : eqD (.str "-") (.str "-") = some true := by decide +kernel
  have hz0 : (0 : Nat) ≤ sizeLine := Nat.zero_le _
  simp -implicitDefEqProofs [late, mtOk, mtD, hs, hix, cmpD, heq, bltD, len1D, lenD, ltD, hz0, outF]
theorem write_history_ok {k : Nat} {f : Nat} {ns : List Nat} (hl : ns.length ≤ 900) (h : ∀ n ∈ f :: ns, n < 10 ^ 30) : Fs T (k + 2) 12 [.tup [.int f, .lst (LN ns)]] [] = .ok (.str (Txt.join sp ((f :: ns).map tx))) [] := by
  rw [Fs_at (T := T) (i := 12) rfl rfl]
  show outF false (evS (Fs T (k + 1)) b_write_history [some (.tup [.int f, .lst (LN ns)]), none, none] []) = _
  unfold b_write_history
  have hn := numbers_text (k := k) (ns := f :: ns) (by simp only [List.length_cons]; omega) h
  have e : LN (f :: ns) = .int f :: LN ns := rfl
  rw [e] at hn
  have hsz : (LN ns).length + 1 ≤ sizeLine := by rw [LN_len]; exact Nat.le_trans (by omega) small_sz
  simp -implicitDefEqProofs [late, look, bindTg, bindMany, splD, hsz, outF] at hn ⊢
  simp -implicitDefEqProofs [hn]
theorem read_history_ok {k : Nat} {f : Nat} {ns : List Nat} (hl : ns.length ≤ 60) (h : ∀ n ∈ f :: ns, n < 8) : Fs T (k + 3) 13 [.str (Txt.join sp ((f :: ns).map tx))] [] = .ok (.tup [.int f, .lst (LN ns)]) [] := by
  rw [Fs_at (T := T) (i := 13) rfl rfl]
  show outF false (evS (Fs T (k + 2)) b_read_history [some (.str (Txt.join sp ((f :: ns).map tx))), none] []) = _
  unfold b_read_history
  have h30 : ∀ n ∈ f :: ns, n < 10 ^ 30 := fun n hn => Nat.lt_trans (h n hn) (by decide +kernel)
  have hs := splitD_tx (ns := f :: ns) (by simp) (by simp only [List.length_cons]; omega) h30
  have hn := numbers_of (k := k) (ns := f :: ns) (most := 61) (bd := .int 8) (by simp only [List.length_cons]; omega) h30 (by simp only [List.length_cons]; omega) (.inr ⟨8, rfl, fun n hn => by have := h n hn; omega⟩)
  have e : LN (f :: ns) = .int f :: LN ns := rfl
  have hix : idxD (.lst (LN (f :: ns))) (.int 0) = some (.int f) := by
    rw [e]
    show atI (.int f :: LN ns) 0 = _
    simp [atI, ixN]
  have hsl : slcD (.lst (LN (f :: ns))) (.int 1) .non = some (.lst (LN ns)) := by
    rw [e]
    show slcO (.lst (.int f :: LN ns)) (some 1) none = _
    simp [slcO, Mp.cutD, HT.sIx]
  have h2 : 2 ≤ sizeLine := by decide
  generalize hJ : Txt.join sp ((f :: ns).map tx) = J at *
  generalize hW : W (f :: ns) = Wn at *
  generalize hLN : LN (f :: ns) = Ln at *
  simp -implicitDefEqProofs [late, mtOk, mtD, hs, hn, hix, hsl, Mp.part, isNoe, h2, outF]
/-! ### the law -/
theorem Lk.data {m : Nat} {x : D} (h : Lk m x) : PyData.canLay0 x.py = true ∧ PyData.depth x.py ≤ m + 1 ∧ PyData.eqv x.py x.py = true := by
  have key : ∀ (m : Nat) (xs : List D), (∀ x ∈ xs, PyData.canLay0 x.py = true ∧ PyData.depth x.py ≤ m + 1 ∧ PyData.eqv x.py x.py = true) → PyData.canLayAll0 (pys xs) = true ∧ PyData.depthAll (pys xs) ≤ m + 1 ∧ PyData.eqvAll (pys xs) (pys xs) = true := by
    intro m xs
    induction xs with
    | nil => intro _; exact ⟨rfl, by simp [pys, PyData.depthAll], rfl⟩
    | cons x xs ih =>
      intro h
      obtain ⟨a1, a2, a3⟩ := h x (by simp)
      obtain ⟨b1, b2, b3⟩ := ih fun y hy => h y (List.mem_cons_of_mem _ hy)
      have e : pys (x :: xs) = x.py :: pys xs := rfl
      rw [e]
      refine ⟨?_, ?_, ?_⟩
      · show (PyData.canLay0 x.py && PyData.canLayAll0 (pys xs)) = true
        rw [a1, b1]; rfl
      · simp only [PyData.depthAll]
        omega
      · show (PyData.eqv x.py x.py && PyData.eqvAll (pys xs) (pys xs)) = true
        rw [a3, b3]; rfl
  induction h with
  | int m i => exact ⟨rfl, by simp [D.py, PyData.depth], by simp [D.py, PyData.eqv]⟩
  | str m x hx => exact ⟨hx, by simp [D.py, PyData.depth], by simp [D.py, PyData.eqv]⟩
  | lst m xs hl h ih =>
    obtain ⟨b1, b2, b3⟩ := key m xs ih
    have e : D.py (.lst xs) = .list (pys xs) := rfl
    rw [e]
    exact ⟨b1, by simp only [PyData.depth]; omega, by simp only [PyData.eqv]; exact b3⟩
  | tup m xs hl h ih =>
    obtain ⟨b1, b2, b3⟩ := key m xs ih
    have e : D.py (.tup xs) = .tuple (pys xs) := rfl
    rw [e]
    exact ⟨b1, by simp only [PyData.depth]; omega, by simp only [PyData.eqv]; exact b3⟩
theorem Lk.eqD {m : Nat} {x : D} (h : Lk m x) (hm : m ≤ 60) : Mp.eqD x x = some true := by
  obtain ⟨h1, h2, h3⟩ := Lk.data h
  have hs : shaped x = true := by
    unfold shaped SeqAt.shaped
    rw [h1]
    simp
    omega
  unfold Mp.eqD
  rw [hs, h3]; rfl
theorem Lk_LN {m : Nat} {ns : List Nat} (hl : ns.length ≤ 1000) : Lk (m + 1) (.lst (LN ns)) := .lst m _ (by rw [LN_len]; exact hl) fun x hx => by
  obtain ⟨z, _, rfl⟩ := List.mem_map.mp hx
  exact .int m _
theorem strsE {Φ : Phi} {η : Eta} {ω : Om} {it : E} {ns : List Nat} (hit : ev Φ it η ω = .ok (.lst (LN ns)) ω) (h5 : 5 < η.length) (free : (look ω 5).isSome = false) (hl : ns.length ≤ 1000) (h : ∀ n ∈ ns, n < 10 ^ 30) :
    ev Φ (.mth .join (.cst (.str " ")) (.cons (.comp (.blt .str (.cons (.var 5) (.nil))) [5] true it (.noe)) (.nil))) η ω = .ok (.str (Txt.join sp (ns.map tx))) ω := by
  have hcomp : ev Φ (.comp (.blt .str (.cons (.var 5) (.nil))) [5] true it (.noe)) η ω = .ok (.lst ((ns.map tx).map .str)) ω := by
    rw [ev_comp, hit]
    simp -implicitDefEqProofs only [Out.bnd_ok, itemsD]
    rw [compGo_map (fun d => match d with
      | .int z => .str (tx z.toNat)
      | d => d) (by simp [free]) (LN ns) [] (fun x hx => by
      obtain ⟨z, hz, rfl⟩ := List.mem_map.mp hx
      refine ⟨_, rfl, ?_⟩
      have e : bltD .str [.int (z : Int)] = some (.str (tx z)) := str_tx (h z hz)
      have g : (η.set 5 (some (.int (z : Int))))[5]? = some (some (.int (z : Int))) := List.getElem?_set_self h5
      simp -implicitDefEqProofs only [late, isNoe, ctake, ctest, Out.bnd_ok, ev_blt, evs_cons, evs_nil, opd_n, ev_var, g, Option.getD_some, Out.of_some, snap_n, Option.bind_some, e, Int.toNat_natCast]) (by rw [LN_len]; simp only [List.length_nil]; exact Nat.le_trans (by omega) small_sz)]
    simp only [Out.bnd_ok, List.nil_append]
    congr 2
    unfold LN
    rw [List.map_map, List.map_map]
    rfl
  have hstr : ∀ xs : List Str, strL (xs.map .str) = some xs := by
    intro xs
    induction xs with
    | nil => rfl
    | cons x xs ih => show (strL _).map _ = _; rw [ih]; rfl
  have hj : joinD (.str " ") [.lst ((ns.map tx).map .str)] = some (.str (Txt.join sp (ns.map tx))) := by
    show ((strL _).bind fun ys => if joinOk sp ys then some (D.str (Txt.join sp ys)) else none) = _
    rw [hstr]
    show (if joinOk sp (ns.map tx) then _ else _) = _
    rw [if_pos (joinOk_tx hl h)]
  rw [ev_mth]
  simp -implicitDefEqProofs only [late, opd_n, ev_cst, Out.bnd_ok, snap_n, mtOk, if_true, evs_cons, evs_nil, hcomp, Out.of_some, Option.bind_some, mtD, hj]
theorem hS : T[15]? = some f_stir := rfl
theorem hD : T[16]? = some (f_draw 15) := rfl
theorem hA : T[17]? = some (f_alike 17) := rfl
theorem draw8 {n i : Nat} {η : Eta} {w : Int} {b : List D} {r : Om} (hw : 0 < w) (hw2 : w < 100) (hb : Bag (n + 400) b) :
    ∃ (v : Nat) (b' : List D), ev (Fs T 11) (.callO 16 i (.cons (.cst (.int w)) .nil)) η ((i, b) :: r) = .ok (.int v) ((i, b') :: r) ∧ (v : Int) < w ∧ Bag n b' := by
  obtain ⟨v, b', e1, e2, e3, e4⟩ := drawC (T := T) (k := 9) (η := η) (r := r) (i := i) hS hD hw (lt_9000 (e := 7) (Int.lt_of_lt_of_le hw2 (by decide)) (by decide)) hb
  obtain ⟨v, rfl⟩ := Int.eq_ofNat_of_zero_le e2
  exact ⟨v, b', e1, e3, e4⟩
/-- the rest of a history -/
theorem rests {n N : Nat} {it : E} {b b0 : List D} {s : D} {x2 x3 x4 x5 x6 x7 x8 x9 x10 x11 x12 : Option D} (hN : N ≤ 60) (hit : ev (Fs T 11) it [some s, none, x2, x3, x4, x5, x6, x7, x8, x9, x10, x11, x12] [(1, b0)] = .ok (.lst (iotaD 0 N)) [(1, b)]) (hb : Bag (n + 400 * N) b) :
    ∃ (rs : List Nat) (b' : List D), ev (Fs T 11) (.comp (.callO 16 1 (.cons (.cst (.int 8)) (.nil))) [7] true it (.noe)) [some s, none, x2, x3, x4, x5, x6, x7, x8, x9, x10, x11, x12] [(1, b0)] = .ok (.lst (LN rs)) [(1, b')] ∧ Bag n b' ∧ rs.length = N ∧ ∀ x ∈ rs, x < 8 := by
  rw [ev_comp, hit]
  simp -implicitDefEqProofs only [Out.bnd_ok, itemsD]
  obtain ⟨ys, ω2, h1, rs, b1, hy, hω, h2, h3, h4⟩ := compGo_inv (body := ctake (ctest (isNoe .noe) (ev (Fs T 11) .noe)) (ev (Fs T 11) (.callO 16 1 (.cons (.cst (.int 8)) (.nil))))) (tg := [7]) (one := true) (η := [some s, none, x2, x3, x4, x5, x6, x7, x8, x9, x10, x11, x12])
    (fun rest acc ω => ∃ (rs : List Nat) (b : List D), acc = LN rs ∧ ω = [(1, b)] ∧ Bag (n + 400 * rest.length) b ∧ rs.length + rest.length = N ∧ ∀ x ∈ rs, x < 8)
    (by
      rintro xs acc ω ⟨rs, b, _, rfl, _⟩
      simp [look])
    (by
      rintro x r acc ω ⟨rs, b, rfl, rfl, h1, h2, h3⟩
      obtain ⟨v, b', q1, q2, q3⟩ := draw8 (n := n + 400 * r.length) (i := 1) (η := [some s, none, x2, x3, x4, x5, x6, some x, x8, x9, x10, x11, x12]) (w := 8) (r := []) (by decide) (by decide) (by simpa [Nat.mul_add, Nat.add_assoc] using h1)
      refine ⟨_, rfl, .int v, [(1, b')], ?_, rs ++ [v], b', ?_, rfl, q3, ?_, fun y hy => ?_⟩
      · show (Out.bnd (Out.ok true _) _) = _
        rw [Out.bnd_ok]
        show (Out.bnd (ev (Fs T 11) _ [some s, none, x2, x3, x4, x5, x6, some x, x8, x9, x10, x11, x12] _) _) = _
        rw [q1]
        rfl
      · unfold LN; rw [List.map_append]; rfl
      · simp only [List.length_append, List.length_cons, List.length_nil] at h2 ⊢; omega
      · rcases List.mem_append.mp hy with z | z
        · exact h3 y z
        · rw [List.mem_singleton.mp z]; omega)
    (iotaD 0 N) [] [(1, b)] (by rw [iota_len]; simp only [List.length_nil]; exact Nat.le_trans (by omega) small_sz) ⟨[], b, rfl, rfl, by rw [iota_len]; exact hb, by rw [iota_len]; simp, fun x hx => by cases hx⟩
  rw [h1]
  subst hy
  subst hω
  exact ⟨rs, b1, rfl, by simpa using h2, by simpa using h3, h4⟩
theorem hC : T[18]? = some f_common := rfl
theorem hR : T[19]? = some (f_reduced 18) := rfl
theorem hDr : T[20]? = some (f_drawn 16 19) := rfl
def lawBody : S := match b_law with
  | .seq _ (.seq (.for _ _ _ b) _) => b
  | _ => .skip
def lawEnd : S := match b_law with
  | .seq _ (.seq _ e) => e
  | _ => .skip
theorem law_shape : b_law = .seq (.asgO 1 (.call 14 (.cons (.var 0) (.nil)))) (.seq (.for [2] true (.rng1 (.cst (.int 8))) lawBody) lawEnd) := rfl
/-- a test that is not met -/
theorem if_no {Φ : Phi} {c : E} {a : S} {η : Eta} {ω ω' : Om} (h : ev Φ c η ω = .ok (.bl false) ω') : evS Φ (.ifs c a .skip) η ω = .nx η ω' := by
  rw [ifs_eq _ _ _ _ _ _ _ _ h, if_neg Bool.false_ne_true, evS_skip]
theorem alike2 {x : D} {m : Nat} (h : Lk m x) (hm : m ≤ 10) : Fs T 11 17 [x, x] [] = .ok (.bl true) [] := by
  have := alike_ok (T := T) (ai := 17) hA m (10 - m) x h
  have e : 10 - m + m + 1 = 11 := by omega
  rwa [e] at this
theorem turn_ok {n : Nat} {s : D} {b : List D} {x2 x3 x4 x5 x6 x7 x8 x9 x10 x11 x12 : Option D} (hb : Bag (n + 40000) b) :
    ∃ (y3 y4 y6 y8 y9 y10 y11 : Option D) (b' : List D), evS (Fs T 11) lawBody [some s, none, x2, x3, x4, x5, x6, x7, x8, x9, x10, x11, x12] [(1, b)] = .nx [some s, none, x2, y3, y4, none, y6, x7, y8, y9, y10, y11, none] [(1, b')] ∧ Bag n b' := by
  -- what is drawn: a content
  obtain ⟨v1, b1, e1, h1, hb1⟩ := draw8 (n := n + 39600) (i := 1) (η := [some s, none, x2, x3, x4, x5, x6, x7, x8, x9, x10, x11, x12]) (w := 8) (r := []) (by decide) (by decide) (by simpa using hb)
  obtain ⟨v2, b2, e2, h2, hb2⟩ := draw8 (n := n + 39200) (i := 1) (η := [some s, none, x2, x3, x4, x5, x6, x7, x8, x9, x10, x11, x12]) (w := 2) (r := []) (by decide) (by decide) (by simpa using hb1)
  have hpow : op2D .pow (.int 10) (.int 30) = some (.int (10 ^ 30)) := pow_int ⟨by decide, by decide⟩
  obtain ⟨d, e3, hd⟩ := pick2 (a := .int 9) (b := .int (10 ^ 30)) (v := (v2 : Int)) (by omega) h2
  obtain ⟨far, hfar, hf9, hf30⟩ : ∃ far : Nat, d = .int (far : Int) ∧ 9 ≤ far ∧ far ≤ 10 ^ 30 := by
    rcases hd with rfl | rfl
    · exact ⟨9, rfl, by decide, by decide +kernel⟩
    · exact ⟨10 ^ 30, by congr 1, by decide +kernel, Nat.le_refl _⟩
  subst hfar
  obtain ⟨ms, b3, e4, hb3, hml, hmg, hmf⟩ := drawn_ok (T := T) (st := 15) (dr := 16) (rd := 19) (ci := 18) (i := 20) (k := 8) (n := n + 30000) (m := 1 + v1) (far := far) (e := 100) (b := b2) hS hD hC hR hDr (by omega) (by omega) hf9 (Nat.lt_of_le_of_lt hf30 (by decide +kernel)) (by decide) (hb2.mono (by omega))
  have hms : ∀ x ∈ ms, x < 10 ^ 30 := fun x hx => Nat.lt_of_lt_of_le (hmf x hx) hf30
  have hsz : 2 ≤ sizeLine := by decide
  have s1 : evS (Fs T 11) (.asg 3 (.callO 20 1 (.cons (.bin .add (.cst (.int 1)) (.callO 16 1 (.cons (.cst (.int 8)) (.nil)))) (.cons (.idx (.lst (.cons (.cst (.int 9)) (.cons (.bin .pow (.cst (.int 10)) (.cst (.int 30))) (.nil)))) (.callO 16 1 (.cons (.cst (.int 2)) (.nil)))) (.nil))))) [some s, none, x2, x3, x4, x5, x6, x7, x8, x9, x10, x11, x12] [(1, b)] = .nx [some s, none, x2, some (.lst (LN ms)), x4, x5, x6, x7, x8, x9, x10, x11, x12] [(1, b3)] := by
    have hm1 : (1 : Int) + (v1 : Int) = ((1 + v1 : Nat) : Int) := by omega
    rw [evS_asg, ev_callO]
    generalize (10 : Int) ^ 30 = z30 at *
    simp -implicitDefEqProofs [late, e1, e2, e3, hpow, hsz, -ev_callO, hm1, -Int.natCast_add, e4, look]
  -- its text
  have s2 : evS (Fs T 11) (.asg 4 (.mth .join (.cst (.str " ")) (.cons (.comp (.blt .str (.cons (.var 5) (.nil))) [5] true (.var 3) (.noe)) (.nil)))) [some s, none, x2, some (.lst (LN ms)), x4, x5, x6, x7, x8, x9, x10, x11, x12] [(1, b3)] = .nx [some s, none, x2, some (.lst (LN ms)), some (.str (Txt.join sp (ms.map tx))), x5, x6, x7, x8, x9, x10, x11, x12] [(1, b3)] := by
    rw [evS_asg, strsE (ns := ms) rfl (by simp) (by simp [look]) (by omega) hms, Out.on_ok, if_neg (by simp [look])]
    rfl
  generalize hJ : Txt.join sp (ms.map tx) = J at *
  have okJ : PyData.strOk J = true := by rw [← hJ]; exact join_ok ms hms
  have hw := write_content_ok (k := 9) (ns := ms) (by omega) hms
  have hr := read_content_ok (k := 7) (ns := ms) (by omega) (by omega) hms hmg
  rw [hJ] at hw hr
  have lk1 : Lk 2 (.lst [.str J, .lst (LN ms)]) := .lst 1 _ (by simp) fun x hx => by
    rcases List.mem_cons.mp hx with rfl | hx
    · exact .str 1 J okJ
    · rw [List.mem_singleton.mp hx]; exact Lk_LN (by omega)
  have s3 : evS (Fs T 11) (.ifs (.not (.call 17 (.cons (.lst (.cons (.callK 8 (.cons (.var 3) (.nil)) [0]) (.cons (.callK 9 (.cons (.var 4) (.nil)) [0]) (.nil)))) (.cons (.lst (.cons (.var 4) (.cons (.var 3) (.nil)))) (.nil))))) (.seq (.ret (.cst (.bl false))) <| .skip) (.skip)) [some s, none, x2, some (.lst (LN ms)), some (.str J), x5, x6, x7, x8, x9, x10, x11, x12] [(1, b3)] = .nx [some s, none, x2, some (.lst (LN ms)), some (.str J), x5, x6, x7, x8, x9, x10, x11, x12] [(1, b3)] := by
    refine if_no ?_
    simp -implicitDefEqProofs [late, perm, hw, hr, hsz, alike2 lk1 (by decide)]
  -- the rest of a history
  obtain ⟨u1, c1, q1, k1, hc1⟩ := draw8 (n := n + 29000) (i := 1) (η := [some s, none, x2, some (.lst (LN ms)), some (.str J), x5, x6, x7, x8, x9, x10, x11, x12]) (w := 6) (r := []) (by decide) (by decide) (hb3.mono (by omega))
  obtain ⟨u2, c2, q2, k2, hc2⟩ := draw8 (n := n + 28000) (i := 1) (η := [some s, none, x2, some (.lst (LN ms)), some (.str J), x5, x6, x7, x8, x9, x10, x11, x12]) (w := 2) (r := []) (by decide) (by decide) (hc1.mono (by omega))
  obtain ⟨d2, q3, hd2⟩ := pick2 (a := .int (u1 : Int)) (b := .int 60) (v := (u2 : Int)) (by omega) k2
  obtain ⟨N, hN, hN60⟩ : ∃ N : Nat, d2 = .int (N : Int) ∧ N ≤ 60 := by
    rcases hd2 with rfl | rfl
    · exact ⟨u1, rfl, by omega⟩
    · exact ⟨60, rfl, by decide⟩
  subst hN
  have hit : ev (Fs T 11) (.rng1 (.idx (.lst (.cons (.callO 16 1 (.cons (.cst (.int 6)) (.nil))) (.cons (.cst (.int 60)) (.nil)))) (.callO 16 1 (.cons (.cst (.int 2)) (.nil))))) [some s, none, x2, some (.lst (LN ms)), some (.str J), x5, x6, x7, x8, x9, x10, x11, x12] [(1, b3)] = .ok (.lst (iotaD 0 N)) [(1, c2)] := by
    have hrg : (-RNG < (N : Int) ∧ (N : Int) < RNG) := by unfold RNG; omega
    simp -implicitDefEqProofs [late, q1, q2, q3, hsz, -ev_callO, hrg]
  obtain ⟨rs, c3, q4, hc3, hrl, hr8⟩ := rests (n := n + 1000) hN60 hit (hc2.mono (by omega))
  have hr30 : ∀ x ∈ rs, x < 10 ^ 30 := fun x hx => Nat.lt_trans (hr8 x hx) (by decide +kernel)
  have s4 : evS (Fs T 11) (.asg 6 (.comp (.callO 16 1 (.cons (.cst (.int 8)) (.nil))) [7] true (.rng1 (.idx (.lst (.cons (.callO 16 1 (.cons (.cst (.int 6)) (.nil))) (.cons (.cst (.int 60)) (.nil)))) (.callO 16 1 (.cons (.cst (.int 2)) (.nil))))) (.noe))) [some s, none, x2, some (.lst (LN ms)), some (.str J), x5, x6, x7, x8, x9, x10, x11, x12] [(1, b3)] = .nx [some s, none, x2, some (.lst (LN ms)), some (.str J), x5, some (.lst (LN rs)), x7, x8, x9, x10, x11, x12] [(1, c3)] := by
    rw [evS_asg, q4, Out.on_ok, if_neg (by simp [look])]
    rfl
  -- its text
  have s5 : ∃ J2 : Str, PyData.strOk J2 = true ∧ (if rs = [] then ("-" : Str) else Txt.join sp (rs.map tx)) = J2 ∧ evS (Fs T 11) (.asg 4 (.ife (.cmp .ne (.var 6) (.lst (.nil))) (.mth .join (.cst (.str " ")) (.cons (.comp (.blt .str (.cons (.var 5) (.nil))) [5] true (.var 6) (.noe)) (.nil))) (.cst (.str "-")))) [some s, none, x2, some (.lst (LN ms)), some (.str J), x5, some (.lst (LN rs)), x7, x8, x9, x10, x11, x12] [(1, c3)] = .nx [some s, none, x2, some (.lst (LN ms)), some (.str J2), x5, some (.lst (LN rs)), x7, x8, x9, x10, x11, x12] [(1, c3)] := by
    have hz0 : (0 : Nat) ≤ sizeLine := Nat.zero_le _
    by_cases hn : rs = []
    · subst hn
      have hc : ev (Fs T 11) (.cmp .ne (.var 6) (.lst (.nil))) [some s, none, x2, some (.lst (LN ms)), some (.str J), x5, some (.lst (LN [])), x7, x8, x9, x10, x11, x12] [(1, c3)] = .ok (.bl false) [(1, c3)] := by
        have e : LN [] = [] := rfl
        simp -implicitDefEqProofs [late, e, cmpD, eqD_nil, hz0]
      refine ⟨"-", by decide +kernel, if_pos rfl, ?_⟩
      rw [evS_asg, ev_ife, hc, Out.bnd_ok, onB_f, ev_cst, Out.on_ok, if_neg (by simp [look])]
      rfl
    · have hc : ev (Fs T 11) (.cmp .ne (.var 6) (.lst (.nil))) [some s, none, x2, some (.lst (LN ms)), some (.str J), x5, some (.lst (LN rs)), x7, x8, x9, x10, x11, x12] [(1, c3)] = .ok (.bl true) [(1, c3)] := by
        simp -implicitDefEqProofs [late, cmpD, eqD_LN_nil rs hn, hz0]
      refine ⟨Txt.join sp (rs.map tx), join_ok rs hr30, if_neg hn, ?_⟩
      rw [evS_asg, ev_ife, hc, Out.bnd_ok, onB_t, strsE (ns := rs) rfl (by simp) (by simp [look]) (by omega) hr30, Out.on_ok, if_neg (by simp [look])]
      rfl
  obtain ⟨J2, okJ2, eJ2, s5⟩ := s5
  have hwr := write_row_ok (k := 9) (ns := rs) (by omega) hr30
  rw [eJ2] at hwr
  have hrr : Fs T 11 11 [.str J2] [] = .ok (.lst (LN rs)) [] := by
    by_cases hn : rs = []
    · subst hn
      rw [if_pos rfl] at eJ2
      rw [← eJ2]
      exact read_row_dash (k := 8)
    · rw [if_neg hn] at eJ2
      rw [← eJ2]
      exact read_row_ok (k := 8) (by
        cases rs with
        | nil => exact absurd rfl hn
        | cons _ _ => simp) (by omega) hr8
  have s6 : evS (Fs T 11) (.unp [8, 9] (.tup (.cons (.blt .list (.cons (.var 6) (.nil))) (.cons (.tup (.cons (.cst (.int 3)) (.cons (.blt .list (.cons (.var 6) (.nil))) (.nil)))) (.nil))))) [some s, none, x2, some (.lst (LN ms)), some (.str J2), x5, some (.lst (LN rs)), x7, x8, x9, x10, x11, x12] [(1, c3)] = .nx [some s, none, x2, some (.lst (LN ms)), some (.str J2), x5, some (.lst (LN rs)), x7, some (.lst (LN rs)), some (.tup [.int 3, .lst (LN rs)]), x10, x11, x12] [(1, c3)] := by
    simp -implicitDefEqProofs [late, bltD, listD, hsz, look, bindTg, bindMany]
  have lk2 : Lk 2 (.lst [.str J2, .lst (LN rs)]) := .lst 1 _ (by simp) fun x hx => by
    rcases List.mem_cons.mp hx with rfl | hx
    · exact .str 1 J2 okJ2
    · rw [List.mem_singleton.mp hx]; exact Lk_LN (by omega)
  have s7 : evS (Fs T 11) (.ifs (.not (.call 17 (.cons (.lst (.cons (.callK 10 (.cons (.var 8) (.nil)) [0]) (.cons (.callK 11 (.cons (.var 4) (.nil)) [0]) (.nil)))) (.cons (.lst (.cons (.var 4) (.cons (.var 6) (.nil)))) (.nil))))) (.seq (.ret (.cst (.bl false))) <| .skip) (.skip)) [some s, none, x2, some (.lst (LN ms)), some (.str J2), x5, some (.lst (LN rs)), x7, some (.lst (LN rs)), some (.tup [.int 3, .lst (LN rs)]), x10, x11, x12] [(1, c3)] = .nx [some s, none, x2, some (.lst (LN ms)), some (.str J2), x5, some (.lst (LN rs)), x7, some (.lst (LN rs)), some (.tup [.int 3, .lst (LN rs)]), x10, x11, x12] [(1, c3)] := by
    refine if_no ?_
    simp -implicitDefEqProofs [late, perm, hwr, hrr, hsz, alike2 lk2 (by decide)]
  have hw3 := write_history_ok (k := 9) (f := 3) (ns := rs) (by omega) (fun x hx => by
    rcases List.mem_cons.mp hx with rfl | hx
    · decide +kernel
    · exact hr30 x hx)
  have s8 : evS (Fs T 11) (.expr (.call 12 (.cons (.var 9) (.nil)))) [some s, none, x2, some (.lst (LN ms)), some (.str J2), x5, some (.lst (LN rs)), x7, some (.lst (LN rs)), some (.tup [.int 3, .lst (LN rs)]), x10, x11, x12] [(1, c3)] = .nx [some s, none, x2, some (.lst (LN ms)), some (.str J2), x5, some (.lst (LN rs)), x7, some (.lst (LN rs)), some (.tup [.int 3, .lst (LN rs)]), x10, x11, x12] [(1, c3)] := by
    generalize hJ3 : Txt.join sp ((3 :: rs).map tx) = J3 at *
    have hw3' : Fs T 11 12 [.tup [.int 3, .lst (LN rs)]] [] = .ok (.str J3) [] := hw3
    simp -implicitDefEqProofs [late, hw3']
  have eq1 := Lk.eqD (Lk_LN (m := 0) (ns := rs) (by omega)) (by decide)
  have lk3 : ∀ f : Nat, Lk 2 (.tup [.int (f : Int), .lst (LN rs)]) := fun f => .tup 1 _ (by simp) fun x hx => by
    rcases List.mem_cons.mp hx with rfl | hx
    · exact .int 1 _
    · rw [List.mem_singleton.mp hx]; exact Lk_LN (by omega)
  have eq2 : eqD (.tup [.int 3, .lst (LN rs)]) (.tup [.int 3, .lst (LN rs)]) = some true := Lk.eqD (lk3 3) (by decide)
  have s9 : evS (Fs T 11) (.ifs (.or (.cmp .ne (.var 8) (.var 6)) (.cmp .ne (.var 9) (.tup (.cons (.cst (.int 3)) (.cons (.var 6) (.nil)))))) (.seq (.ret (.cst (.bl false))) <| .skip) (.skip)) [some s, none, x2, some (.lst (LN ms)), some (.str J2), x5, some (.lst (LN rs)), x7, some (.lst (LN rs)), some (.tup [.int 3, .lst (LN rs)]), x10, x11, x12] [(1, c3)] = .nx [some s, none, x2, some (.lst (LN ms)), some (.str J2), x5, some (.lst (LN rs)), x7, some (.lst (LN rs)), some (.tup [.int 3, .lst (LN rs)]), x10, x11, x12] [(1, c3)] := by
    refine if_no ?_
    simp -implicitDefEqProofs [late, cmpD, eq1, eq2, hsz]
  obtain ⟨f, c4, q5, hf8, hc4⟩ := draw8 (n := n) (i := 1) (η := [some s, none, x2, some (.lst (LN ms)), some (.str J2), x5, some (.lst (LN rs)), x7, some (.lst (LN rs)), some (.tup [.int 3, .lst (LN rs)]), x10, x11, x12]) (w := 8) (r := []) (by decide) (by decide) (hc3.mono (by omega))
  have s10 : evS (Fs T 11) (.asg 10 (.callO 16 1 (.cons (.cst (.int 8)) (.nil)))) [some s, none, x2, some (.lst (LN ms)), some (.str J2), x5, some (.lst (LN rs)), x7, some (.lst (LN rs)), some (.tup [.int 3, .lst (LN rs)]), x10, x11, x12] [(1, c3)] = .nx [some s, none, x2, some (.lst (LN ms)), some (.str J2), x5, some (.lst (LN rs)), x7, some (.lst (LN rs)), some (.tup [.int 3, .lst (LN rs)]), some (.int (f : Int)), x11, x12] [(1, c4)] := by
    rw [evS_asg, q5, Out.on_ok, if_neg (by simp [look])]
    rfl
  have hfr8 : ∀ x ∈ f :: rs, x < 8 := fun x hx => by
    rcases List.mem_cons.mp hx with rfl | hx
    · omega
    · exact hr8 x hx
  have hfr30 : ∀ x ∈ f :: rs, x < 10 ^ 30 := fun x hx => Nat.lt_trans (hfr8 x hx) (by decide +kernel)
  have s11 : evS (Fs T 11) (.asg 4 (.mth .join (.cst (.str " ")) (.cons (.comp (.blt .str (.cons (.var 5) (.nil))) [5] true (.bin .add (.lst (.cons (.var 10) (.nil))) (.var 6)) (.noe)) (.nil)))) [some s, none, x2, some (.lst (LN ms)), some (.str J2), x5, some (.lst (LN rs)), x7, some (.lst (LN rs)), some (.tup [.int 3, .lst (LN rs)]), some (.int (f : Int)), x11, x12] [(1, c4)] = .nx [some s, none, x2, some (.lst (LN ms)), some (.str (Txt.join sp ((f :: rs).map tx))), x5, some (.lst (LN rs)), x7, some (.lst (LN rs)), some (.tup [.int 3, .lst (LN rs)]), some (.int (f : Int)), x11, x12] [(1, c4)] := by
    have hadd : op2D .add (.lst [.int (f : Int)]) (.lst (LN rs)) = some (.lst (LN (f :: rs))) := by
      show (if _ ≤ sizeLine then _ else _) = _
      rw [if_pos (by rw [LN_len]; exact Nat.le_trans (by simp only [List.length_cons, List.length_nil]; omega) small_sz)]
      rfl
    have h1s : 1 ≤ sizeLine := by decide
    rw [evS_asg, strsE (ns := f :: rs) (by simp -implicitDefEqProofs [late, h1s, hadd]) (by simp) (by simp [look]) (by simp only [List.length_cons]; omega) hfr30, Out.on_ok, if_neg (by simp [look])]
    rfl
  have hwh := write_history_ok (k := 9) (f := f) (ns := rs) (by omega) hfr30
  have hrh := read_history_ok (k := 8) (f := f) (ns := rs) (by omega) hfr8
  have okJ4 := join_ok (f :: rs) hfr30
  generalize hJ4 : Txt.join sp ((f :: rs).map tx) = J4 at *
  have s12 : evS (Fs T 11) (.asg 11 (.lst (.cons (.callK 12 (.cons (.tup (.cons (.var 10) (.cons (.blt .list (.cons (.var 6) (.nil))) (.nil)))) (.nil)) [0]) (.cons (.callK 13 (.cons (.var 4) (.nil)) [0]) (.nil))))) [some s, none, x2, some (.lst (LN ms)), some (.str J4), x5, some (.lst (LN rs)), x7, some (.lst (LN rs)), some (.tup [.int 3, .lst (LN rs)]), some (.int (f : Int)), x11, x12] [(1, c4)] = .nx [some s, none, x2, some (.lst (LN ms)), some (.str J4), x5, some (.lst (LN rs)), x7, some (.lst (LN rs)), some (.tup [.int 3, .lst (LN rs)]), some (.int (f : Int)), some (.lst [.str J4, .tup [.int (f : Int), .lst (LN rs)]]), x12] [(1, c4)] := by
    simp -implicitDefEqProofs [late, perm, bltD, listD, hsz, hwh, hrh, look]
  have lk4 : Lk 3 (.lst [.str J4, .tup [.int (f : Int), .lst (LN rs)]]) := .lst 2 _ (by simp) fun x hx => by
    rcases List.mem_cons.mp hx with rfl | hx
    · exact .str 2 J4 okJ4
    · rw [List.mem_singleton.mp hx]; exact lk3 f
  have s13 : evS (Fs T 11) (.ifs (.not (.call 17 (.cons (.var 11) (.cons (.lst (.cons (.var 4) (.cons (.tup (.cons (.var 10) (.cons (.var 6) (.nil)))) (.nil)))) (.nil))))) (.seq (.ret (.cst (.bl false))) <| .skip) (.skip)) [some s, none, x2, some (.lst (LN ms)), some (.str J4), x5, some (.lst (LN rs)), x7, some (.lst (LN rs)), some (.tup [.int 3, .lst (LN rs)]), some (.int (f : Int)), some (.lst [.str J4, .tup [.int (f : Int), .lst (LN rs)]]), x12] [(1, c4)] = .nx [some s, none, x2, some (.lst (LN ms)), some (.str J4), x5, some (.lst (LN rs)), x7, some (.lst (LN rs)), some (.tup [.int 3, .lst (LN rs)]), some (.int (f : Int)), some (.lst [.str J4, .tup [.int (f : Int), .lst (LN rs)]]), x12] [(1, c4)] := by
    refine if_no ?_
    simp -implicitDefEqProofs [late, hsz, alike2 lk4 (by decide)]
  -- what is read is new
  have s14 : evS (Fs T 11) (.spoil 12 5 (.cons (.call 9 (.cons (.cst (.str "1")) (.nil))) (.cons (.call 11 (.cons (.cst (.str "-")) (.nil))) (.cons (.call 11 (.cons (.cst (.str "3")) (.nil))) (.cons (.idx (.call 13 (.cons (.cst (.str "2 3")) (.nil))) (.cst (.int 1))) (.nil)))))) [some s, none, x2, some (.lst (LN ms)), some (.str J4), x5, some (.lst (LN rs)), x7, some (.lst (LN rs)), some (.tup [.int 3, .lst (LN rs)]), some (.int (f : Int)), some (.lst [.str J4, .tup [.int (f : Int), .lst (LN rs)]]), x12] [(1, c4)] = .nx [some s, none, x2, some (.lst (LN ms)), some (.str J4), none, some (.lst (LN rs)), x7, some (.lst (LN rs)), some (.tup [.int 3, .lst (LN rs)]), some (.int (f : Int)), some (.lst [.str J4, .tup [.int (f : Int), .lst (LN rs)]]), none] [(1, c4)] := by
    kernel_rfl
  have s15 : evS (Fs T 11) (.asg 11 (.lst (.cons (.call 9 (.cons (.cst (.str "1")) (.nil))) (.cons (.call 11 (.cons (.cst (.str "-")) (.nil))) (.cons (.call 11 (.cons (.cst (.str "3")) (.nil))) (.cons (.call 13 (.cons (.cst (.str "2 3")) (.nil))) (.nil))))))) [some s, none, x2, some (.lst (LN ms)), some (.str J4), none, some (.lst (LN rs)), x7, some (.lst (LN rs)), some (.tup [.int 3, .lst (LN rs)]), some (.int (f : Int)), some (.lst [.str J4, .tup [.int (f : Int), .lst (LN rs)]]), none] [(1, c4)] = .nx [some s, none, x2, some (.lst (LN ms)), some (.str J4), none, some (.lst (LN rs)), x7, some (.lst (LN rs)), some (.tup [.int 3, .lst (LN rs)]), some (.int (f : Int)), some (.lst [.lst [.int 1], .lst [], .lst [.int 3], .tup [.int 2, .lst [.int 3]]]), none] [(1, c4)] := by
    kernel_rfl
  have s16 : evS (Fs T 11) (.ifs (.not (.call 17 (.cons (.var 11) (.cons (.lst (.cons (.lst (.cons (.cst (.int 1)) (.nil))) (.cons (.lst (.nil)) (.cons (.lst (.cons (.cst (.int 3)) (.nil))) (.cons (.tup (.cons (.cst (.int 2)) (.cons (.lst (.cons (.cst (.int 3)) (.nil))) (.nil)))) (.nil)))))) (.nil))))) (.seq (.ret (.cst (.bl false))) <| .skip) (.skip)) [some s, none, x2, some (.lst (LN ms)), some (.str J4), none, some (.lst (LN rs)), x7, some (.lst (LN rs)), some (.tup [.int 3, .lst (LN rs)]), some (.int (f : Int)), some (.lst [.lst [.int 1], .lst [], .lst [.int 3], .tup [.int 2, .lst [.int 3]]]), none] [(1, c4)] = .nx [some s, none, x2, some (.lst (LN ms)), some (.str J4), none, some (.lst (LN rs)), x7, some (.lst (LN rs)), some (.tup [.int 3, .lst (LN rs)]), some (.int (f : Int)), some (.lst [.lst [.int 1], .lst [], .lst [.int 3], .tup [.int 2, .lst [.int 3]]]), none] [(1, c4)] := by
    kernel_rfl
  refine ⟨some (.lst (LN ms)), some (.str J4), some (.lst (LN rs)), some (.lst (LN rs)), some (.tup [.int 3, .lst (LN rs)]), some (.int (f : Int)), some (.lst [.lst [.int 1], .lst [], .lst [.int 3], .tup [.int 2, .lst [.int 3]]]), c4, ?_, hc4⟩
  show evS (Fs T 11) (.seq _ (.seq _ (.seq _ (.seq _ (.seq _ (.seq _ (.seq _ (.seq _ (.seq _ (.seq _ (.seq _ (.seq _ (.seq _ (.seq _ (.seq _ (.seq _ .skip)))))))))))))))) _ _ = _
  rw [evS_seq, s1, andThen_nx, evS_seq, s2, andThen_nx, evS_seq, s3, andThen_nx, evS_seq, s4, andThen_nx, evS_seq, s5, andThen_nx, evS_seq, s6, andThen_nx, evS_seq, s7, andThen_nx, evS_seq, s8, andThen_nx, evS_seq, s9, andThen_nx, evS_seq, s10, andThen_nx, evS_seq, s11, andThen_nx, evS_seq, s12, andThen_nx, evS_seq, s13, andThen_nx, evS_seq, s14, andThen_nx, evS_seq, s15, andThen_nx, evS_seq, s16, andThen_nx, evS_skip]
theorem math (ns : List Int) (h1 : ns.length ≤ 63) (h2 : ∀ z ∈ ns, Builtin.Int.intBits z ≤ 1048576) : Fs T 12 iL [.scr ns] [] = .ok (.bl true) [] := by
  have hi : iL = 21 := rfl
  rw [hi, Fs_at (T := T) (i := 21) (k := 11) rfl rfl]
  show outF false (evS (Fs T 11) b_law [some (.scr ns), none, none, none, none, none, none, none, none, none, none, none, none] []) = _
  rw [law_shape]
  obtain ⟨b, hb1, hb2⟩ := bag_ok (T := T) (bg := 14) (k := 10) (ns := ns) rfl h1
  have s0 : evS (Fs T 11) (.asgO 1 (.call 14 (.cons (.var 0) (.nil)))) [some (.scr ns), none, none, none, none, none, none, none, none, none, none, none, none] [] = .nx [some (.scr ns), none, none, none, none, none, none, none, none, none, none, none, none] [(1, b)] := by
    simp -implicitDefEqProofs [late, hb1, isLst, put]
  rw [evS_seq, s0, andThen_nx, evS_seq, evS_for]
  have hit : ev (Fs T 11) (.rng1 (.cst (.int 8))) [some (.scr ns), none, none, none, none, none, none, none, none, none, none, none, none] [(1, b)] = .ok (.lst (iotaD 0 8)) [(1, b)] := by kernel_rfl
  rw [hit, Out.on_ok]
  simp -implicitDefEqProofs only [itemsD, onS_some]
  obtain ⟨η2, ω2, hl, x2, x3, x4, x5, x6, x7, x8, x9, x10, x11, x12, b2, rfl, rfl, _⟩ := forGo_inv (body := evS (Fs T 11) lawBody) (tg := [2]) (one := true)
    (fun rest η ω => ∃ (x2 x3 x4 x5 x6 x7 x8 x9 x10 x11 x12 : Option D) (b : List D), η = [some (.scr ns), none, x2, x3, x4, x5, x6, x7, x8, x9, x10, x11, x12] ∧ ω = [(1, b)] ∧ Bag (40000 * rest.length) b)
    (by
      rintro x rest η ω ⟨x2, x3, x4, x5, x6, x7, x8, x9, x10, x11, x12, b, rfl, rfl, hb⟩
      obtain ⟨y3, y4, y6, y8, y9, y10, y11, b', e1, e2⟩ := turn_ok (n := 40000 * rest.length) (s := .scr ns) (x2 := some x) (x3 := x3) (x4 := x4) (x5 := x5) (x6 := x6) (x7 := x7) (x8 := x8) (x9 := x9) (x10 := x10) (x11 := x11) (x12 := x12) (by simpa [Nat.mul_add] using hb)
      exact ⟨by simp [look], _, rfl, _, _, e1, _, _, _, _, _, _, _, _, _, _, _, _, rfl, rfl, e2⟩)
    (iotaD 0 8) _ _ ⟨none, none, none, none, none, none, none, none, none, none, none, b, rfl, rfl, hb2.mono (by rw [iota_len]; decide)⟩
  rw [hl, andThen_nx]
  kernel_rfl
end MpK

set_option maxRecDepth 1000000
namespace MpK
open PySem PySem.Spec PyProof.Rows L2 Mp

def sts : List Stmt := tops.map fun i => PySem.Challenge.pw_topups_k55_texts_written_and_read.main.body.getD i (.Pass ⟨0, 0, 0, 0⟩)
theorem chk : chkT T sts G [] KW = true := by kernel_rfl
abbrev lawR : PySem.W.OpenLaw := PySem.Challenge.rw_topups_k55_texts_written_and_read
abbrev R : PySem.W.OpenRow := PySem.W.OpenLaw.row lawR
def fn : List He.DefD := fnL T sts
def fa : List He.Fa := faL T G []
abbrev hk : PySem.W.Hook := He.hookD 4 fa fn
def ob (s : PySem.W.SharedT) : He.AlD := He.obsDG 4 fa fn (HandSHeadRun.getT s)
theorem ob_eq (s : PySem.W.SharedT) : ob s = hk.obs s.abs := He.obsDG_eq (HandSHeadRun.getT_eq s)
def loose : List Str := (["PotError", "InvalidText", "MOST_LIQUIDS", "is_integer", "common_divisor", "divisor_of", "are_parts", "is_content", "DIGITS", "MOST_DIGITS", "MOST_ROW", "number_in", "numbers_text", "numbers_of", "write_content", "read_content", "write_row", "read_row", "write_history", "read_history", "_law_bag", "_law_stirred", "_law_draw", "_law_alike", "_law_common", "_law_simple", "_law_held", "_law_point", "_law_reduced", "_law_drawn"] : List Str) ++ (["_law_behind"] : List Str)
theorem run (w : World) : HandSHeadRun.RunEq R (PySem.W.view R.prog [35]) hk ob 4000 loose w := by
  intro os
  kernel_rfl
theorem hKW : ∀ e ∈ KW, ∃ f st, T[e.1]? = some f ∧ sts[e.1]? = some st ∧ KwOk (defArgs st) f.ps e.2.2 e.2.1 := by
  intro e he
  simp only [KW, List.mem_cons, List.mem_nil_iff, or_false] at he
  rcases he with rfl | rfl | rfl | rfl | rfl | rfl <;> refine ⟨_, _, rfl, rfl, ?_⟩
  all_goals
    intro x qual body scope kV doc pm an cdv ct ws hl
    rcases ws with _ | ⟨w0, _ | ⟨w1, _ | ⟨w2, _ | ⟨w3, _ | ⟨w4, _ | ⟨w5, r⟩⟩⟩⟩⟩⟩
    all_goals first | exact absurd hl (by decide) | kernel_rfl

end MpK
open PySem PySem.W PySem.Calls PyProof.Rows
theorem PySem.Challenge.cw_topups_k55_texts_written_and_read_holds : PySem.Challenge.rw_topups_k55_texts_written_and_read.Holds := by
  w_on; o_law
  refine HandSHeadRun.head_any (r := OpenLaw.row PySem.Challenge.rw_topups_k55_texts_written_and_read) (q := view (OpenLaw.row PySem.Challenge.rw_topups_k55_texts_written_and_read).prog [35]) (H := MpK.hk) (ob := MpK.ob) (M := 4000) (loose := MpK.loose) (d := HandSHeadRun.topDef (OpenLaw.row PySem.Challenge.rw_topups_k55_texts_written_and_read).prog 35) (kwd := []) MpK.ob_eq
    (by kernel_rfl) (fun s => by kernel_rfl) MpK.run (by kernel_rfl) (by kernel_rfl) (by kernel_rfl) (by rfl) (by first | assumption | decide +kernel) (by decide +kernel) ⟨rfl, rfl, rfl, rfl, rfl, by decide +kernel⟩ ?hw ?hc
  case hw => w_witness2
  case hc =>
    refine LamX.walk_ofTsE (l := PySem.Challenge.rw_topups_k55_texts_written_and_read) (n := 63) (k := 12) (x := "script") (CX := fun w => L2.CX (PySem.Challenge.rw_topups_k55_texts_written_and_read).prog w) rfl (by decide) (by kernel_rfl) ⟨rfl, by decide, by decide⟩ ?F (fun w => Mp.cx_no)
    intro w mg fa h Y G hmg0
    obtain ⟨K, KX, c⟩ := Y
    have hmg : mg ("law" : PySem.Str) = some (.ref fa) := by
      have e : (HandSHeadRun.topDef (OpenLaw.row PySem.Challenge.rw_topups_k55_texts_written_and_read).prog 35).name = ("law" : PySem.Str) := by kernel_rfl
      rw [← e]
      exact hmg0
    exact ⟨K, KX, Mp.lawAt (iL := MpK.iL) (fL := MpK.f_law) MpK.chk KX G c MpK.hKW rfl rfl rfl rfl hmg MpK.math⟩
