import PyProof.Rows.All
import HandS.ForMost
import HandS.Wide
import HandS.TupAny
import HandS.IsInst
import HandS.CallSlots
import HandS.CallLocal
import HandS.Defaults
import HandS.Exc
import HandS.SortRule
import HandS.SortInts
import HandS.Conv
import HandS.Head0
import HandS.Head1
import HandS.Head2
import HandS.HeadEnd
import HandS.HeadHook1
import HandS.HeadHook2
import PySem.Challenge.RW_orrery_k77_conditions_over_time_are_righ
/-! A small evaluator over plain data, for the programs of this work. By an AI agent. -/
set_option linter.all false
namespace Ev

/-- a value by content; fn: a def; ref: a thing of the store -/
inductive D where
  | non | bl (b : Bool) | int (i : Int) | str (s : List Nat)
  | tup (xs : List D) | lst (xs : List D)
  | obj (c : Nat) (fs : List (Nat × D))
  | dct (kvs : List (D × D))
  | fn (f : Nat) | ref (n : Nat)
  deriving Inhabited

inductive Cell where
  | inst (c : Nat) (fs : List (Nat × D)) | dct (kvs : List (D × D))
abbrev Sto := List Cell

/-- a result -/
inductive R (α : Type) where
  | ok (a : α) (S : Sto) | exc (c : Nat) (fs : List (Nat × D)) (S : Sto) | bad
def R.bnd {α β : Type} : R α → (α → Sto → R β) → R β
  | .ok a S, f => f a S
  | .exc c fs S, _ => .exc c fs S
  | .bad, _ => .bad
@[simp] theorem R.bnd_ok {α β : Type} (a : α) (S : Sto) (f : α → Sto → R β) : (R.ok a S).bnd f = f a S := rfl
@[simp] theorem R.bnd_exc {α β : Type} (c : Nat) (fs : List (Nat × D)) (S : Sto) (f : α → Sto → R β) : (R.exc c fs S : R α).bnd f = .exc c fs S := rfl
@[simp] theorem R.bnd_bad {α β : Type} (f : α → Sto → R β) : (R.bad : R α).bnd f = .bad := rfl
/-- a partial answer on values -/
def R.of {α : Type} : Option α → Sto → R α
  | some a, S => .ok a S
  | none, _ => .bad
@[simp] theorem R.of_some {α : Type} (a : α) (S : Sto) : R.of (some a) S = .ok a S := rfl
@[simp] theorem R.of_none {α : Type} (S : Sto) : R.of (none : Option α) S = .bad := rfl
/-- what a def hands back: a value, or a list of its own -/
inductive Ret where
  | v (d : D) | l (xs : List D)
def Ret.d : Ret → D
  | .v d => d
  | .l xs => .lst xs
@[simp] theorem Ret.d_v (d : D) : (Ret.v d).d = d := rfl
@[simp] theorem Ret.d_l (xs : List D) : (Ret.l xs).d = .lst xs := rfl

/-- a slot: a value; a list of the def's own; an instance that is being made -/
inductive Sl where
  | v (d : D) | l (xs : List D) | o (c : Nat) (fs : List (Nat × D))
abbrev Env := List (Option Sl)
def Env.get : Env → Nat → Option Sl
  | [], _ => none
  | a :: _, 0 => a
  | _ :: r, n + 1 => Env.get r n
def Env.put : Env → Nat → Option Sl → Env
  | [], _, _ => []
  | _ :: r, 0, s => s :: r
  | a :: r, n + 1, s => a :: Env.put r n s
@[simp] theorem Env.get_nil (i : Nat) : Env.get [] i = none := rfl
@[simp] theorem Env.get_zero (a : Option Sl) (r : Env) : Env.get (a :: r) 0 = a := rfl
@[simp] theorem Env.get_succ (a : Option Sl) (r : Env) (n : Nat) : Env.get (a :: r) (n + 1) = Env.get r n := rfl
@[simp] theorem Env.put_nil (i : Nat) (s : Option Sl) : Env.put [] i s = [] := rfl
@[simp] theorem Env.put_zero (a s : Option Sl) (r : Env) : Env.put (a :: r) 0 s = s :: r := rfl
@[simp] theorem Env.put_succ (a s : Option Sl) (r : Env) (n : Nat) : Env.put (a :: r) (n + 1) s = a :: Env.put r n s := rfl

/-! ### values -/
/-- the sizes that are served -/
def line : Nat := 16777216
mutual
def eqD : D → D → Bool
  | .non, d => match d with | .non => true | _ => false
  | .bl a, d => match d with | .bl b => a == b | .int j => (if a then 1 else 0) == j | _ => false
  | .int i, d => match d with | .int j => i == j | .bl b => i == (if b then 1 else 0) | _ => false
  | .str x, d => match d with | .str y => decide (x = y) | _ => false
  | .tup xs, d => match d with | .tup ys => eqL xs ys | _ => false
  | .lst xs, d => match d with | .lst ys => eqL xs ys | _ => false
  | .obj _ _, _ => false
  | .dct _, _ => false
  | .fn _, _ => false
  | .ref _, _ => false
def eqL : List D → List D → Bool
  | [], ys => match ys with | [] => true | _ => false
  | x :: xs, ys => match ys with | [] => false | y :: ys => eqD x y && eqL xs ys
end
/-! data of at most so many levels -/
mutual
def shp : D → Nat → Bool
  | .non, _ => true
  | .bl _, _ => true
  | .int _, _ => true
  | .str s, _ => s.all (· < 1114112)
  | .tup xs, n => match n with | 0 => false | n + 1 => shpL xs n
  | .lst xs, n => match n with | 0 => false | n + 1 => shpL xs n
  | .obj _ _, _ => false
  | .dct _, _ => false
  | .fn _, _ => false
  | .ref _, _ => false
def shpL : List D → Nat → Bool
  | [], _ => true
  | x :: xs, n => shp x n && shpL xs n
end
/-- flat: no object -/
def flat : D → Bool
  | .non => true | .bl _ => true | .int _ => true | .str _ => true
  | _ => false
/-- an int and a truth value -/
def mix (a b : D) : Bool := match a, b with | .int _, .bl _ => true | .bl _, .int _ => true | _, _ => false
/-- a == b -/
def eqV (a b : D) : Option Bool :=
  if flat a && flat b && !mix a b then some (eqD a b) else if shp a 60 && shp b 60 then some (eqD a b) else none

inductive Cmp where
  | lt | le | gt | ge | eq | ne | inn | nin
inductive Bop where
  | add | sub | mul | fdiv | mod | pow
inductive Ty where
  | list | tuple | int | bool
def tyIs : Ty → D → Option Bool
  | t, .lst _ => some (match t with | .list => true | _ => false)
  | t, .tup _ => some (match t with | .tuple => true | _ => false)
  | t, .int _ => some (match t with | .int => true | _ => false)
  | t, .bl _ => some (match t with | .int => true | .bool => true | _ => false)
  | _, .str _ => some false
  | _, .non => some false
  | _, _ => none

def inL (x : D) (ys : List D) : Option Bool := if flat x && ys.all flat then some (ys.any fun y => eqD y x) else none
def inV (x y : D) : Option Bool := match y with
  | .lst ys => inL x ys
  | .tup ys => inL x ys
  | .str s => match x with | .str [c] => some (decide (c ∈ s)) | _ => none
  | _ => none
def ltV (a b : D) : Option Bool := match a, b with | .int i, .int j => some (decide (i < j)) | .str x, .str y => some (decide (x < y)) | _, _ => none
def leV (a b : D) : Option Bool := match a, b with | .int i, .int j => some (decide (i ≤ j)) | .str x, .str y => some (!decide (y < x)) | _, _ => none
def cmpV (o : Cmp) (a b : D) : Option Bool := match o with
  | .lt => ltV a b
  | .le => leV a b
  | .gt => ltV b a
  | .ge => leV b a
  | .eq => eqV a b
  | .ne => (eqV a b).map (!·)
  | .inn => inV a b
  | .nin => (inV a b).map (!·)
def mulOk (i j : Int) : Bool := decide (-(2 ^ 64) < i ∧ i < 2 ^ 64) || decide (-(2 ^ 64) < j ∧ j < 2 ^ 64) || decide (i.natAbs.log2 + j.natAbs.log2 < 1000000)
def addV (a b : D) : Option D := match a, b with
    | .int i, .int j => some (.int (i + j))
    | .str x, .str y => if x.length + y.length ≤ line then some (.str (x ++ y)) else none
    | .tup x, .tup y => if x.length + y.length ≤ line then some (.tup (x ++ y)) else none
    | _, _ => none
def subV (a b : D) : Option D := match a, b with | .int i, .int j => some (.int (i - j)) | _, _ => none
def mulV (a b : D) : Option D := match a, b with | .int i, .int j => if mulOk i j then some (.int (i * j)) else none | _, _ => none
def fdivV (a b : D) : Option D := match a, b with | .int i, .int j => if decide (0 < j) && decide (j.natAbs.log2 < 9000) then some (.int (i / j)) else none | _, _ => none
def modV (a b : D) : Option D := match a, b with | .int i, .int j => if 0 < j then some (.int (i % j)) else none | _, _ => none
def powV (a b : D) : Option D := match a, b with | .int i, .int j => if decide (0 ≤ j) && decide (j ≤ 1000000) && decide (i.natAbs < 2 ^ 64) then some (.int (i ^ j.toNat)) else none | _, _ => none
def binV (o : Bop) (a b : D) : Option D := match o with
  | .add => addV a b
  | .sub => subV a b
  | .mul => mulV a b
  | .fdiv => fdivV a b
  | .mod => modV a b
  | .pow => powV a b
def augV (o : Bop) (a b : D) : Option D := match o, a, b with
  | .add, .int i, .int j => some (.int (i + j))
  | .add, .str x, .str y => if x.length + y.length ≤ line then some (.str (x ++ y)) else none
  | _, _, _ => none
def negV : D → Option D
  | .int i => some (.int (-i))
  | _ => none
def notV : D → Option D
  | .bl b => some (.bl (!b))
  | _ => none
def absV : D → Option D
  | .int i => some (.int (if i < 0 then -i else i))
  | _ => none
def intV : D → Option D
  | .int i => some (.int i)
  | .bl b => some (.int (if b then 1 else 0))
  | _ => none
def maxV (a b : D) : Option D := match a, b with
  | .int i, .int j => some (.int (if j > i then j else i))
  | _, _ => none
def minV (a b : D) : Option D := match a, b with
  | .int i, .int j => some (.int (if j < i then j else i))
  | _, _ => none
/-- a value's truth -/
def truV : D → Option Bool
  | .non => some false
  | .bl b => some b
  | .int i => some (i != 0)
  | .str s => if s.length ≤ line then some (!s.isEmpty) else none
  | .tup xs => some (!xs.isEmpty)
  | .lst xs => some (!xs.isEmpty)
  | _ => none
def isNon : D → Bool
  | .non => true
  | _ => false
def seqV : D → Option (List D)
  | .tup xs => some xs
  | .lst xs => some xs
  | _ => none
def lenV : D → Option D
  | .str s => if s.length ≤ line then some (.int s.length) else none
  | .tup xs => some (.int xs.length)
  | .lst xs => some (.int xs.length)
  | _ => none
/-- place i of n -/
def ixN (n : Nat) (i : Int) : Option Nat := if 0 ≤ i then (if i < n then some i.toNat else none) else if -(n : Int) ≤ i then some (i + n).toNat else none
def atI {α : Type} (xs : List α) (i : Int) : Option α := (ixN xs.length i).bind fun j => xs[j]?
def idxV (a i : D) : Option D := match a, i with
  | .tup xs, .int i => atI xs i
  | .lst xs, .int i => atI xs i
  | .str s, .int i => if s.length ≤ line then (atI s i).map fun c => .str [c] else none
  | _, _ => none
def sIx (n d : Nat) : Option Int → Nat
  | none => d
  | some i => if i < 0 then (i + (n : Int)).toNat else min i.toNat n
def cutL {α : Type} (xs : List α) (lo hi : Option Int) : List α := (xs.drop (sIx xs.length 0 lo)).take (sIx xs.length xs.length hi - sIx xs.length 0 lo)
def cutV (a : D) (lo hi : Option Int) : Option D := match a with
  | .tup xs => some (.tup (cutL xs lo hi))
  | .str s => if s.length ≤ line then some (.str (cutL s lo hi)) else none
  | _ => none
def fldV (a : D) (f : Nat) : Option D := match a with
  | .obj _ fs => fs.lookup f
  | _ => none
def intOf : D → Option Int
  | .int i => some i
  | _ => none
def intsOf : List D → Option (List Int)
  | [] => some []
  | x :: xs => match intOf x, intsOf xs with | some i, some r => some (i :: r) | _, _ => none
def pairOf : D → Option (Int × Int)
  | .tup [.int a, .int b] => some (a, b)
  | _ => none
def pairsOf : List D → Option (List (Int × Int))
  | [] => some []
  | x :: xs => match pairOf x, pairsOf xs with | some i, some r => some (i :: r) | _, _ => none
def maxI : List Int → Int
  | [] => 0
  | x :: xs => xs.foldl (fun a b => if b > a then b else a) x
def minI : List Int → Int
  | [] => 0
  | x :: xs => xs.foldl (fun a b => if b < a then b else a) x
def maxLV (a : D) : Option D := match a with
  | .lst (x :: xs) => (intsOf (x :: xs)).map fun r => .int (maxI r)
  | _ => none
def minLV (a : D) : Option D := match a with
  | .lst (x :: xs) => (intsOf (x :: xs)).map fun r => .int (minI r)
  | _ => none
def sumV (a : D) : Option D := match a with
  | .lst xs => (intsOf xs).map fun r => .int r.sum
  | _ => none
/-- sorting, stable -/
def ins {α : Type} (lt : α → α → Bool) (x : α) : List α → List α
  | [] => [x]
  | y :: ys => if lt y x then y :: ins lt x ys else x :: y :: ys
def sortBy {α : Type} (lt : α → α → Bool) : List α → List α
  | [] => []
  | x :: xs => ins lt x (sortBy lt xs)
def ltPair (x y : Int × Int) : Bool := decide (x.1 < y.1) || (decide (x.1 = y.1) && decide (x.2 < y.2))
def pairD (p : Int × Int) : D := .tup [.int p.1, .int p.2]
def sortedV (a : D) : Option (List D) := match a with
  | .lst xs => match intsOf xs with
    | some r => some ((sortBy (fun a b => decide (a < b)) r).map .int)
    | none => match pairsOf xs with
      | some r => some ((sortBy ltPair r).map pairD)
      | none => none
  | _ => none

/-! ### syntax -/
/-- a target -/
inductive Tg where
  | nm (i : Nat) | tp (is : List Nat)
mutual
inductive E where
  | var (i : Nat) | int (n : Int) | str (s : List Nat) | bl (b : Bool) | non | cst (n : Nat) | fnc (f : Nat)
  | bin (o : Bop) (a b : E) | neg (a : E) | not (a : E)
  | cmp (o : Cmp) (a b : B) | chain (o p : Cmp) (a b c : E)
  | isn (a : E) | isnn (a : E)
  | and (a b : E) | or (a b : E) | ite (t : T) (a b : E)
  | tup (as : Es) | frz (l : L)
  | idx (a : B) (i : E) | slice (a : E) (lo hi : Oe)
  | fld (a : E) (f : Nat)
  | call (f : Nat) (as : Es) | callv (i : Nat) (as : Es) | mk (c : Nat) (as : Es) | meth (f : Nat) (o : E) (as : Es)
  | len (a : B) | max2 (a b : E) | min2 (a b : E) | maxL (a : B) | minL (a : B) | sum (a : B)
  | abs (a : E) | toInt (a : E) | isi (a : B) (t : Ty) | tupof (a : B)
/-- an operand that may be a list of the def's own -/
inductive B where
  | e (x : E) | b (i : Nat)
inductive Es where
  | nil | cons (x : E) (xs : Es)
inductive Oe where
  | no | yes (x : E)
/-- a test -/
inductive T where
  | tru (x : B) | cmp (o : Cmp) (a b : B) | chain (o p : Cmp) (a b c : E) | isn (a : E) | isnn (a : E) | and (a b : T) | or (a b : T) | not (a : T)
/-- a new list -/
inductive L where
  | disp (as : Es) | comp (tg : Tg) (it : It) (c : Ot) (e : E) (own : List Nat)
  | slice (a : B) (lo hi : Oe) | cat (a b : B) | lof (a : B) | sorted (a : B) | call (f : Nat) (as : Es) | lrng (a b : E)
/-- what is walked -/
inductive It where
  | seq (x : B) | rng1 (a : E) | rng2 (a b : E) | str (a : E) | zip (a b : B)
inductive Ot where
  | no | yes (t : T)
end
inductive S where
  | pass | never
  | asg (tg : Tg) (e : E) | asgL (i : Nat) (l : L) | aug (i : Nat) (o : Bop) (e : E)
  | app (i : Nat) (e : E) | setL (i : Nat) (x e : E) | setF (f : Nat) (e : E)
  | ret (e : E) | retl (i : Nat) | retm (l : L) | retn
  | ite (t : T) (a b : S) | loop (tg : Tg) (it : It) (b : S) (cl : List Nat) | whl (t : T) (b : S) (cl : List Nat)
  | brk | cnt | seq (a b : S) | ex (e : E) | fz (i : Nat) | clr (is : List Nat)

/-! ### evaluation -/
/-- the defs: a call, an instance made -/
structure Fns where
  call : Nat → List D → Sto → R Ret
  make : Nat → List D → Sto → R D
  cst : Nat → Option D
  mcls : Nat → Nat
  flds : Nat → List Nat
def fill (ρ : Env) : List Nat → List D → Option Env
  | [], [] => some ρ
  | i :: is, x :: xs => fill (ρ.put i (some (.v x))) is xs
  | _, _ => none
def setTg (ρ : Env) : Tg → D → Option Env
  | .nm i, x => some (ρ.put i (some (.v x)))
  | .tp is, x => match x with
    | .tup xs => fill ρ is xs
    | _ => none
def clear (ρ : Env) : List Nat → Env
  | [] => ρ
  | i :: is => clear (ρ.put i none) is
@[simp] theorem clear_nil (ρ : Env) : clear ρ [] = ρ := rfl
@[simp] theorem clear_cons (ρ : Env) (i : Nat) (is : List Nat) : clear ρ (i :: is) = clear (ρ.put i none) is := rfl
/-- the items of a comprehension, one by one; none: left out -/
def compL (f : D → Sto → R (Option D)) : List D → List D → Sto → R (List D)
  | [], acc, S => .ok acc S
  | x :: xs, acc, S => match f x S with
    | .ok none S1 => compL f xs acc S1
    | .ok (some y) S1 => if acc.length < line then compL f xs (acc ++ [y]) S1 else .bad
    | _ => .bad
def small (i : Int) : Bool := decide (-(2 ^ 62) ≤ i) && decide (i < 2 ^ 62)
def rangeL (lo : Int) (n : Nat) : List D := (List.range n).map fun (k : Nat) => D.int (lo + (k : Int))
def zipL : List D → List D → List D
  | x :: xs, y :: ys => .tup [x, y] :: zipL xs ys
  | _, _ => []
def fld! (d : D) (c : Nat) : Bool := match d with | .obj e _ => decide (e = c) | _ => false
mutual
def evE (F : Fns) : E → Env → Sto → R D
  | .var i, ρ, S => match ρ.get i with | some (.v d) => .ok d S | _ => .bad
  | .int n, _, S => .ok (.int n) S
  | .str s, _, S => .ok (.str s) S
  | .bl b, _, S => .ok (.bl b) S
  | .non, _, S => .ok .non S
  | .cst n, _, S => R.of (F.cst n) S
  | .fnc f, _, S => .ok (.fn f) S
  | .bin o a b, ρ, S => (evE F a ρ S).bnd fun x S => (evE F b ρ S).bnd fun y S => R.of (binV o x y) S
  | .neg a, ρ, S => (evE F a ρ S).bnd fun x S => R.of (negV x) S
  | .not a, ρ, S => (evE F a ρ S).bnd fun x S => R.of (notV x) S
  | .cmp o a b, ρ, S => (evB F a ρ S).bnd fun x S => (evB F b ρ S).bnd fun y S => R.of ((cmpV o x y).map .bl) S
  | .chain o p a b c, ρ, S => (evE F a ρ S).bnd fun x S => (evE F b ρ S).bnd fun y S => (R.of (cmpV o x y) S).bnd fun k S =>
      if k then (evE F c ρ S).bnd fun z S => R.of ((cmpV p y z).map .bl) S else .ok (.bl false) S
  | .isn a, ρ, S => (evE F a ρ S).bnd fun x S => .ok (.bl (isNon x)) S
  | .isnn a, ρ, S => (evE F a ρ S).bnd fun x S => .ok (.bl (!isNon x)) S
  | .and a b, ρ, S => (evE F a ρ S).bnd fun x S => match x with | .bl true => evE F b ρ S | .bl false => .ok (.bl false) S | _ => .bad
  | .or a b, ρ, S => (evE F a ρ S).bnd fun x S => match x with | .bl true => .ok (.bl true) S | .bl false => evE F b ρ S | _ => .bad
  | .ite t a b, ρ, S => (evT F t ρ S).bnd fun k S => if k then evE F a ρ S else evE F b ρ S
  | .tup as, ρ, S => (evEs F as ρ S).bnd fun xs S => if xs.length ≤ line then .ok (.tup xs) S else .bad
  | .frz l, ρ, S => (evL F l ρ S).bnd fun xs S => .ok (.lst xs) S
  | .idx a i, ρ, S => (evB F a ρ S).bnd fun x S => (evE F i ρ S).bnd fun y S => R.of (idxV x y) S
  | .slice a lo hi, ρ, S => (evE F a ρ S).bnd fun x S => (evOe F lo ρ S).bnd fun l S => (evOe F hi ρ S).bnd fun h S => R.of (cutV x l h) S
  | .fld a f, ρ, S => (evE F a ρ S).bnd fun x S => R.of (fldV x f) S
  | .call f as, ρ, S => (evEs F as ρ S).bnd fun xs S => (F.call f xs S).bnd fun r S => .ok r.d S
  | .callv i as, ρ, S => match ρ.get i with
    | some (.v (.fn f)) => (evEs F as ρ S).bnd fun xs S => (F.call f xs S).bnd fun r S => .ok r.d S
    | _ => .bad
  | .mk c as, ρ, S => (evEs F as ρ S).bnd fun xs S => F.make c xs S
  | .meth f o as, ρ, S => (evE F o ρ S).bnd fun x S => if fld! x (F.mcls f) then (evEs F as ρ S).bnd fun xs S => (F.call f (x :: xs) S).bnd fun r S => .ok r.d S else .bad
  | .len a, ρ, S => (evB F a ρ S).bnd fun x S => R.of (lenV x) S
  | .max2 a b, ρ, S => (evE F a ρ S).bnd fun x S => (evE F b ρ S).bnd fun y S => R.of (maxV x y) S
  | .min2 a b, ρ, S => (evE F a ρ S).bnd fun x S => (evE F b ρ S).bnd fun y S => R.of (minV x y) S
  | .maxL a, ρ, S => (evB F a ρ S).bnd fun x S => R.of (maxLV x) S
  | .minL a, ρ, S => (evB F a ρ S).bnd fun x S => R.of (minLV x) S
  | .sum a, ρ, S => (evB F a ρ S).bnd fun x S => R.of (sumV x) S
  | .abs a, ρ, S => (evE F a ρ S).bnd fun x S => R.of (absV x) S
  | .toInt a, ρ, S => (evE F a ρ S).bnd fun x S => R.of (intV x) S
  | .isi a t, ρ, S => (evB F a ρ S).bnd fun x S => R.of ((tyIs t x).map .bl) S
  | .tupof a, ρ, S => (evB F a ρ S).bnd fun x S => R.of ((seqV x).map .tup) S
def evB (F : Fns) : B → Env → Sto → R D
  | .e x, ρ, S => evE F x ρ S
  | .b i, ρ, S => match ρ.get i with | some (.l xs) => .ok (.lst xs) S | _ => .bad
def evEs (F : Fns) : Es → Env → Sto → R (List D)
  | .nil, _, S => .ok [] S
  | .cons x xs, ρ, S => (evE F x ρ S).bnd fun d S => (evEs F xs ρ S).bnd fun ds S => .ok (d :: ds) S
def evOe (F : Fns) : Oe → Env → Sto → R (Option Int)
  | .no, _, S => .ok none S
  | .yes x, ρ, S => (evE F x ρ S).bnd fun d S => R.of ((intOf d).map some) S
def evT (F : Fns) : T → Env → Sto → R Bool
  | .tru x, ρ, S => (evB F x ρ S).bnd fun d S => R.of (truV d) S
  | .cmp o a b, ρ, S => (evB F a ρ S).bnd fun x S => (evB F b ρ S).bnd fun y S => R.of (cmpV o x y) S
  | .chain o p a b c, ρ, S => (evE F a ρ S).bnd fun x S => (evE F b ρ S).bnd fun y S => (R.of (cmpV o x y) S).bnd fun k S =>
      if k then (evE F c ρ S).bnd fun z S => R.of (cmpV p y z) S else .ok false S
  | .isn a, ρ, S => (evE F a ρ S).bnd fun x S => .ok (isNon x) S
  | .isnn a, ρ, S => (evE F a ρ S).bnd fun x S => .ok (!isNon x) S
  | .and a b, ρ, S => (evT F a ρ S).bnd fun k S => if k then evT F b ρ S else .ok false S
  | .or a b, ρ, S => (evT F a ρ S).bnd fun k S => if k then .ok true S else evT F b ρ S
  | .not a, ρ, S => (evT F a ρ S).bnd fun k S => .ok (!k) S
def evL (F : Fns) : L → Env → Sto → R (List D)
  | .disp as, ρ, S => (evEs F as ρ S).bnd fun xs S => if xs.length ≤ line then .ok xs S else .bad
  | .comp tg it c e own, ρ, S => (evIt F it ρ S).bnd fun xs S => compL (fun x S =>
      match setTg (clear ρ own) tg x with
      | some ρ1 => (evOt F c ρ1 S).bnd fun k S => if k then (evE F e ρ1 S).bnd fun y S => .ok (some y) S else .ok none S
      | none => .bad) xs [] S
  | .slice a lo hi, ρ, S => (evB F a ρ S).bnd fun x S => (evOe F lo ρ S).bnd fun l S => (evOe F hi ρ S).bnd fun h S => match x with | .lst xs => .ok (cutL xs l h) S | _ => .bad
  | .cat a b, ρ, S => (evB F a ρ S).bnd fun x S => (evB F b ρ S).bnd fun y S => match x, y with | .lst xs, .lst ys => if xs.length + ys.length ≤ line then .ok (xs ++ ys) S else .bad | _, _ => .bad
  | .lof a, ρ, S => (evB F a ρ S).bnd fun x S => R.of (seqV x) S
  | .sorted a, ρ, S => (evB F a ρ S).bnd fun x S => R.of (sortedV x) S
  | .call f as, ρ, S => (evEs F as ρ S).bnd fun xs S => (F.call f xs S).bnd fun r S => match r with | .l ys => .ok ys S | _ => .bad
  | .lrng a b, ρ, S => (evE F a ρ S).bnd fun x S => (evE F b ρ S).bnd fun y S => match x, y with | .int i, .int j => if (small i && small j) && decide ((j - i).toNat ≤ line) then .ok (rangeL i (j - i).toNat) S else .bad | _, _ => .bad
def evIt (F : Fns) : It → Env → Sto → R (List D)
  | .seq x, ρ, S => (evB F x ρ S).bnd fun d S => R.of (seqV d) S
  | .rng1 a, ρ, S => (evE F a ρ S).bnd fun x S => match x with | .int j => if small j then .ok (rangeL 0 j.toNat) S else .bad | _ => .bad
  | .rng2 a b, ρ, S => (evE F a ρ S).bnd fun x S => (evE F b ρ S).bnd fun y S => match x, y with | .int i, .int j => if small i && small j then .ok (rangeL i (j - i).toNat) S else .bad | _, _ => .bad
  | .str a, ρ, S => (evE F a ρ S).bnd fun x S => match x with | .str s => .ok (s.map fun c => .str [c]) S | _ => .bad
  | .zip a b, ρ, S => (evB F a ρ S).bnd fun x S => (evB F b ρ S).bnd fun y S => match x, y with | .lst xs, .lst ys => .ok (zipL xs ys) S | _, _ => .bad
def evOt (F : Fns) : Ot → Env → Sto → R Bool
  | .no, _, S => .ok true S
  | .yes t, ρ, S => evT F t ρ S
end

/-- how a statement ends -/
inductive O where
  | next (ρ : Env) (S : Sto) | ret (r : Ret) (S : Sto) | brk (ρ : Env) (S : Sto) | cnt (ρ : Env) (S : Sto)
  | exc (c : Nat) (fs : List (Nat × D)) (ρ : Env) (S : Sto) | bad
/-- from an expression to a statement -/
def R.st {α : Type} (ρ : Env) : R α → (α → Sto → O) → O
  | .ok a S, f => f a S
  | .exc c fs S, _ => .exc c fs ρ S
  | .bad, _ => .bad
@[simp] theorem R.st_ok {α : Type} (ρ : Env) (a : α) (S : Sto) (f : α → Sto → O) : (R.ok a S).st ρ f = f a S := rfl
@[simp] theorem R.st_exc {α : Type} (ρ : Env) (c : Nat) (fs : List (Nat × D)) (S : Sto) (f : α → Sto → O) : (R.exc c fs S : R α).st ρ f = .exc c fs ρ S := rfl
@[simp] theorem R.st_bad {α : Type} (ρ : Env) (f : α → Sto → O) : (R.bad : R α).st ρ f = .bad := rfl
def O.sq : O → (Env → Sto → O) → O
  | .next ρ S, f => f ρ S
  | o, _ => o
@[simp] theorem O.sq_next (ρ : Env) (S : Sto) (f : Env → Sto → O) : (O.next ρ S).sq f = f ρ S := rfl
@[simp] theorem O.sq_ret (r : Ret) (S : Sto) (f : Env → Sto → O) : (O.ret r S).sq f = .ret r S := rfl
@[simp] theorem O.sq_brk (ρ : Env) (S : Sto) (f : Env → Sto → O) : (O.brk ρ S).sq f = .brk ρ S := rfl
@[simp] theorem O.sq_cnt (ρ : Env) (S : Sto) (f : Env → Sto → O) : (O.cnt ρ S).sq f = .cnt ρ S := rfl
@[simp] theorem O.sq_exc (c : Nat) (fs : List (Nat × D)) (ρ : Env) (S : Sto) (f : Env → Sto → O) : (O.exc c fs ρ S).sq f = .exc c fs ρ S := rfl
@[simp] theorem O.sq_bad (f : Env → Sto → O) : O.bad.sq f = .bad := rfl
/-- behind a turn: go on, or leave -/
def O.turn (cl : List Nat) : O → (Env → Sto → O) → O
  | .next ρ S, f => f (clear ρ cl) S
  | .cnt ρ S, f => f (clear ρ cl) S
  | .brk ρ S, _ => .next (clear ρ cl) S
  | .ret r S, _ => .ret r S
  | .exc c fs ρ S, _ => .exc c fs ρ S
  | .bad, _ => .bad
@[simp] theorem O.turn_next (cl : List Nat) (ρ : Env) (S : Sto) (f : Env → Sto → O) : (O.next ρ S).turn cl f = f (clear ρ cl) S := rfl
@[simp] theorem O.turn_cnt (cl : List Nat) (ρ : Env) (S : Sto) (f : Env → Sto → O) : (O.cnt ρ S).turn cl f = f (clear ρ cl) S := rfl
@[simp] theorem O.turn_brk (cl : List Nat) (ρ : Env) (S : Sto) (f : Env → Sto → O) : (O.brk ρ S).turn cl f = .next (clear ρ cl) S := rfl
@[simp] theorem O.turn_ret (cl : List Nat) (r : Ret) (S : Sto) (f : Env → Sto → O) : (O.ret r S).turn cl f = .ret r S := rfl
@[simp] theorem O.turn_exc (cl : List Nat) (c : Nat) (fs : List (Nat × D)) (ρ : Env) (S : Sto) (f : Env → Sto → O) : (O.exc c fs ρ S).turn cl f = .exc c fs ρ S := rfl
@[simp] theorem O.turn_bad (cl : List Nat) (f : Env → Sto → O) : O.bad.turn cl f = .bad := rfl
def forL (body : D → Env → Sto → O) (cl : List Nat) : List D → Env → Sto → O
  | [], ρ, S => .next ρ S
  | x :: xs, ρ, S => (body x ρ S).turn cl fun ρ S => forL body cl xs ρ S
def whlL (test : Env → Sto → R Bool) (body : Env → Sto → O) (cl : List Nat) : Nat → Env → Sto → O
  | 0, _, _ => .bad
  | n + 1, ρ, S => (test ρ S).st ρ fun k S => if k then (body ρ S).turn cl fun ρ S => whlL test body cl n ρ S else .next ρ S
/-- the turns of a while that are served -/
def turns : Nat := 1000000
/-- a for's list is a value -/
def itOk : It → Bool
  | .seq (.e _) => true
  | .seq (.b _) => false
  | .zip (.e _) (.e _) => true
  | .zip _ _ => false
  | _ => true
def evS (F : Fns) : S → Env → Sto → O
  | .pass, ρ, S => .next ρ S
  | .never, _, _ => .bad
  | .asg tg e, ρ, S => (evE F e ρ S).st ρ fun x S => match setTg ρ tg x with | some ρ => .next ρ S | none => .bad
  | .asgL i l, ρ, S => (evL F l ρ S).st ρ fun xs S => .next (ρ.put i (some (.l xs))) S
  | .aug i o e, ρ, S => match ρ.get i with
    | some (.v x) => (evE F e ρ S).st ρ fun y S => match augV o x y with | some z => .next (ρ.put i (some (.v z))) S | none => .bad
    | _ => .bad
  | .app i e, ρ, S => match ρ.get i with
    | some (.l xs) => (evE F e ρ S).st ρ fun y S => if xs.length < line then .next (ρ.put i (some (.l (xs ++ [y])))) S else .bad
    | _ => .bad
  | .setL i x e, ρ, S => match ρ.get i with
    | some (.l xs) => (evE F e ρ S).st ρ fun y S => (evE F x ρ S).st ρ fun k S => match k with
      | .int k => match ixN xs.length k with | some j => .next (ρ.put i (some (.l (xs.set j y)))) S | none => .bad
      | _ => .bad
    | _ => .bad
  | .setF f e, ρ, S => (evE F e ρ S).st ρ fun y S => match ρ.get 0 with
    | some (.o c fs) => if (fs.lookup f).isNone && decide (fs.length < 100) && (F.flds c).contains f then .next (ρ.put 0 (some (.o c (fs ++ [(f, y)])))) S else .bad
    | _ => .bad
  | .ret e, ρ, S => (evE F e ρ S).st ρ fun x S => .ret (.v x) S
  | .retl i, ρ, S => match ρ.get i with | some (.l xs) => .ret (.l xs) S | _ => .bad
  | .retm l, ρ, S => (evL F l ρ S).st ρ fun xs S => .ret (.l xs) S
  | .retn, _, S => .ret (.v .non) S
  | .ite t a b, ρ, S => (evT F t ρ S).st ρ fun k S => if k then evS F a ρ S else evS F b ρ S
  | .loop tg it b cl, ρ, S => if itOk it then (evIt F it ρ S).st ρ fun xs S => forL (fun x ρ S => match setTg ρ tg x with | some ρ => evS F b ρ S | none => .bad) cl xs ρ S else .bad
  | .whl t b cl, ρ, S => whlL (evT F t) (evS F b) cl turns ρ S
  | .brk, ρ, S => .brk ρ S
  | .cnt, ρ, S => .cnt ρ S
  | .seq a b, ρ, S => (evS F a ρ S).sq fun ρ S => evS F b ρ S
  | .ex e, ρ, S => (evE F e ρ S).st ρ fun _ S => .next ρ S
  | .fz i, ρ, S => match ρ.get i with | some (.l xs) => .next (ρ.put i (some (.v (.lst xs)))) S | _ => .bad
  | .clr is, ρ, S => .next (clear ρ is) S

/-! ### the program -/
/-- a def: its parameters, its slots, the values of its last parameters where they are left out, its body -/
structure Def where
  np : Nat
  ns : Nat
  dfl : List D
  body : S
structure Tbl where
  fn : Nat → Option Def
  /-- a class: its __init__ -/
  init : Nat → Option Nat
  cst : Nat → Option D
  mcls : Nat → Nat
  /-- a class: its attributes -/
  flds : Nat → List Nat
def argsOf (d : Def) (xs : List D) : Option (List D) :=
  if xs.length ≤ d.np ∧ d.np ≤ xs.length + d.dfl.length then some (xs ++ d.dfl.drop (d.dfl.length - (d.np - xs.length))) else none
def envOf (ns : Nat) (ss : List Sl) : Env := ss.map some ++ List.replicate (ns - ss.length) none
def O.end : O → R Ret
  | .next _ S => .ok (.v .non) S
  | .ret r S => .ok r S
  | .exc c fs _ S => .exc c fs S
  | _ => .bad
def O.made (c : Nat) : O → R D
  | .next ρ S => match ρ.get 0 with | some (.o e fs) => if e = c then .ok (.obj c fs) S else .bad | _ => .bad
  | .exc c fs _ S => .exc c fs S
  | _ => .bad
/-- a def's body at its parameters' values -/
def callD (F : Fns) (d : Def) (ys : List D) (S : Sto) : R Ret := (evS F d.body (envOf d.ns (ys.map .v)) S).end
/-- __init__ of the class c -/
def makeD (F : Fns) (d : Def) (c : Nat) (ys : List D) (S : Sto) : R D := (evS F d.body (envOf d.ns (.o c [] :: ys.map .v)) S).made c
def fns (T : Tbl) : Nat → Fns
  | 0 => ⟨fun _ _ _ => .bad, fun _ _ _ => .bad, T.cst, T.mcls, T.flds⟩
  | k + 1 => {
      call := fun f xs S => match T.fn f with
        | some d => match argsOf d xs with
          | some ys => callD (fns T k) d ys S
          | none => .bad
        | none => .bad
      make := fun c xs S => match T.init c with
        | some f => match T.fn f with
          | some d => match argsOf d (.non :: xs) with
            | some (_ :: ys) => makeD (fns T k) d c ys S
            | _ => .bad
          | none => .bad
        | none => .bad
      cst := T.cst
      mcls := T.mcls
      flds := T.flds }
end Ev

set_option linter.all false
set_option maxRecDepth 100000
/-! The row's own text against the evaluator's. -/
namespace Snd
open PySem PySem.Spec PyProof.Rows L2

/-- names: a def's global, a class's, a field's, a method's, a constant's -/
structure Nm where
  fn : Nat → Str
  gl : Nat → Bool
  gc : Nat → Bool
  gm : Nat → Bool
  cl : Nat → Str
  fl : Nat → Str
  ms : Nat → Str
  cs : Nat → Str

def okName (x : Str) : Bool := decide ((x == ("__debug__" : Str)) = false) && decide ((x == ("__classdict__" : Str)) = false)
def visB (N : List Str) (sc : Scope) (i : Nat) (x : Str) : Bool := decide (N[i]? = some x) && okName x && (decide (sc.names.lookup x = some .local) || decide (sc.names.lookup x = some .cell) || decide (sc.names.lookup x = some .free))
def glbB (sc : Scope) (x : Str) : Bool := decide (sc.names.lookup x = some .globalImplicit) && okName x
def opOf : Ev.Bop → Operator
  | .add => .Add | .sub => .Sub | .mul => .Mult | .fdiv => .FloorDiv | .mod => .Mod | .pow => .Pow
def cmpOf : Ev.Cmp → CmpOp
  | .lt => .Lt | .le => .LtE | .gt => .Gt | .ge => .GtE | .eq => .Eq | .ne => .NotEq | .inn => .In | .nin => .NotIn
def tyOf : Ev.Ty → Str
  | .list => "list" | .tuple => "tuple" | .int => "int" | .bool => "bool"
/-- the forms that are read -/
def plain : Expr → Bool
  | .BoolOp .. | .BinOp .. | .UnaryOp .. | .IfExp .. | .ListComp .. | .Compare .. | .Call .. | .Constant .. | .Attribute .. | .Subscript .. | .Name .. | .List .. | .Tuple .. => true
  | _ => false
/-- .. whose test is their value's truth -/
def plainT : Expr → Bool
  | .BinOp .. | .Call .. | .Attribute .. | .Subscript .. | .Name .. => true
  | _ => false
/-- .. whose attribute is read plainly -/
def abOk : Expr → Bool
  | .Name .. | .Attribute .. | .Subscript .. => true
  | .Call _ (_ :: _) _ _ => true
  | _ => false
/-- .. whose method is called plainly -/
def mbOk : Expr → Bool
  | .Name .. | .Attribute .. | .Subscript .. => true
  | _ => false
/-- a comprehension's target -/
def tgC (N : List Str) (sc : Scope) (i : Nat) : Expr → Bool
  | .Name x _ => decide (N[i]? = some x) && decide (sc.names.lookup x = some .local)
  | _ => false
def tgsC (N : List Str) (sc : Scope) : List Nat → List Expr → Bool
  | [], [] => true
  | i :: is, e :: es => tgC N sc i e && tgsC N sc is es
  | _, _ => false
def chkTgC (N : List Str) (sc : Scope) : Ev.Tg → Expr → Bool
  | .nm i, e => tgC N sc i e
  | .tp is, e => match e with | .Tuple es _ _ => tgsC N sc is es | _ => false
/-- a statement's -/
def tgS (N : List Str) (sc : Scope) (i : Nat) : Expr → Bool
  | .Name x _ => decide (N[i]? = some x) && (decide (sc.names.lookup x = some .local) || decide (sc.names.lookup x = some .cell))
  | _ => false
def tgsS (N : List Str) (sc : Scope) : List Nat → List Expr → Bool
  | [], [] => true
  | i :: is, e :: es => tgS N sc i e && tgsS N sc is es
  | _, _ => false
def chkTgS (N : List Str) (sc : Scope) : Ev.Tg → Expr → Bool
  | .nm i, e => tgS N sc i e
  | .tp is, e => match e with | .Tuple es _ _ => tgsS N sc is es | _ => false
/-- a built-in's call by its name -/
def bltB (sc : Scope) (x : Str) (e : Expr) : Bool := match e with
  | .Name y _ => decide (y = x) && glbB sc y
  | _ => false
def tgIn (own : List Nat) : Ev.Tg → Bool
  | .nm i => own.contains i
  | .tp is => is.all fun i => own.contains i
def ownOf (N : List Str) (is : List Nat) : List (Str × Nat) := is.map fun i => (N.getD i Str.empty, i)
mutual
def chkE (nm : Nm) (N : List Str) : Ev.E → Scope → Expr → Bool
  | .var i, sc, e => match e with | .Name x _ => visB N sc i x | _ => false
  | .int n, _, e => match e with | .Constant (.int m) _ _ => decide (m = n) | _ => false
  | .str s, _, e => match e with | .Constant (.str x) _ _ => decide (x = ⟨s.toArray⟩) | _ => false
  | .bl b, _, e => match e with | .Constant (.bool c) _ _ => decide (c = b) | _ => false
  | .non, _, e => match e with | .Constant .none _ _ => true | _ => false
  | .cst n, sc, e => match e with | .Name x _ => decide (x = nm.cs n) && glbB sc x | _ => false
  | .fnc f, sc, e => match e with | .Name x _ => (decide (x = nm.fn f) && nm.gl f) && glbB sc x | _ => false
  | .bin o a b, sc, e => match e with | .BinOp l op r _ => decide (op = opOf o) && (chkE nm N a sc l && chkE nm N b sc r) | _ => false
  | .neg a, sc, e => match e with | .UnaryOp .USub x _ => chkE nm N a sc x | _ => false
  | .not a, sc, e => match e with | .UnaryOp .Not x _ => chkE nm N a sc x | _ => false
  | .cmp o a b, sc, e => match e with | .Compare l [op] [r] _ => decide (op = cmpOf o) && (chkB nm N a sc l && chkB nm N b sc r) | _ => false
  | .chain o p a b c, sc, e => match e with | .Compare l [op, op'] [m, r] _ => (decide (op = cmpOf o) && decide (op' = cmpOf p)) && (chkE nm N a sc l && (chkE nm N b sc m && chkE nm N c sc r)) | _ => false
  | .isn a, sc, e => match e with | .Compare l [.Is] [.Constant .none _ _] _ => chkE nm N a sc l | _ => false
  | .isnn a, sc, e => match e with | .Compare l [.IsNot] [.Constant .none _ _] _ => chkE nm N a sc l | _ => false
  | .and a b, sc, e => match e with | .BoolOp .And (x :: y :: r) pos => chkE nm N a sc x && (match r with | [] => chkE nm N b sc y | _ => chkE nm N b sc (.BoolOp .And (y :: r) pos)) | _ => false
  | .or a b, sc, e => match e with | .BoolOp .Or (x :: y :: r) pos => chkE nm N a sc x && (match r with | [] => chkE nm N b sc y | _ => chkE nm N b sc (.BoolOp .Or (y :: r) pos)) | _ => false
  | .ite t a b, sc, e => match e with | .IfExp c x y _ => chkT nm N t sc c && (chkE nm N a sc x && chkE nm N b sc y) | _ => false
  | .tup as, sc, e => match e with | .Tuple es _ _ => chkEs nm N as sc es | _ => false
  | .frz l, sc, e => chkL nm N l sc e
  | .idx a i, sc, e => match e with | .Subscript x y _ => chkB nm N a sc x && chkE nm N i sc y | _ => false
  | .slice a lo hi, sc, e => match e with | .Subscript x (.Slice l h none _) _ => chkE nm N a sc x && (chkOe nm N lo sc l && chkOe nm N hi sc h) | _ => false
  | .fld a f, sc, e => match e with | .Attribute x g _ => decide (g = nm.fl f) && (abOk x && chkE nm N a sc x) | _ => false
  | .call f as, sc, e => match e with | .Call (.Name x _) es [] _ => ((decide (x = nm.fn f) && nm.gl f) && glbB sc x) && chkEs nm N as sc es | _ => false
  | .callv i as, sc, e => match e with | .Call (.Name x _) es [] _ => visB N sc i x && (!es.isEmpty && chkEs nm N as sc es) | _ => false
  | .mk c as, sc, e => match e with | .Call (.Name x _) es [] _ => ((decide (x = nm.cl c) && nm.gc c) && glbB sc x) && chkEs nm N as sc es | _ => false
  | .meth f o as, sc, e => match e with | .Call (.Attribute x m apos) es [] pos => ((decide (m = nm.ms f) && nm.gm f) && (mbOk x && (decide (es.length < 30) && (apos.endLine == pos.line)))) && (chkE nm N o sc x && chkEs nm N as sc es) | _ => false
  | .len a, sc, e => match e with | .Call f [y] [] _ => bltB sc "len" f && chkB nm N a sc y | _ => false
  | .max2 a b, sc, e => match e with | .Call f [x, y] [] _ => bltB sc "max" f && (chkE nm N a sc x && chkE nm N b sc y) | _ => false
  | .min2 a b, sc, e => match e with | .Call f [x, y] [] _ => bltB sc "min" f && (chkE nm N a sc x && chkE nm N b sc y) | _ => false
  | .maxL a, sc, e => match e with | .Call f [y] [] _ => bltB sc "max" f && chkB nm N a sc y | _ => false
  | .minL a, sc, e => match e with | .Call f [y] [] _ => bltB sc "min" f && chkB nm N a sc y | _ => false
  | .sum a, sc, e => match e with | .Call f [y] [] _ => bltB sc "sum" f && chkB nm N a sc y | _ => false
  | .abs a, sc, e => match e with | .Call f [y] [] _ => bltB sc "abs" f && chkE nm N a sc y | _ => false
  | .toInt a, sc, e => match e with | .Call f [y] [] _ => bltB sc "int" f && chkE nm N a sc y | _ => false
  | .isi a t, sc, e => match e with | .Call f [y, c] [] _ => (bltB sc "isinstance" f && bltB sc (tyOf t) c) && chkB nm N a sc y | _ => false
  | .tupof a, sc, e => match e with | .Call f [y] [] _ => bltB sc "tuple" f && chkB nm N a sc y | _ => false
def chkB (nm : Nm) (N : List Str) : Ev.B → Scope → Expr → Bool
  | .e x, sc, e => chkE nm N x sc e
  | .b i, sc, e => match e with | .Name x _ => visB N sc i x | _ => false
def chkEs (nm : Nm) (N : List Str) : Ev.Es → Scope → List Expr → Bool
  | .nil, _, es => match es with | [] => true | _ => false
  | .cons x xs, sc, es => match es with | e :: es => chkE nm N x sc e && chkEs nm N xs sc es | _ => false
def chkOe (nm : Nm) (N : List Str) : Ev.Oe → Scope → Option Expr → Bool
  | .no, _, e => match e with | none => true | _ => false
  | .yes x, sc, e => match e with | some e => chkE nm N x sc e | _ => false
def chkT (nm : Nm) (N : List Str) : Ev.T → Scope → Expr → Bool
  | .tru x, sc, e => plainT e && chkB nm N x sc e
  | .cmp o a b, sc, e => match e with | .Compare l [op] [r] _ => decide (op = cmpOf o) && (chkB nm N a sc l && chkB nm N b sc r) | _ => false
  | .chain o p a b c, sc, e => match e with | .Compare l [op, op'] [m, r] _ => (decide (op = cmpOf o) && decide (op' = cmpOf p)) && (chkE nm N a sc l && (chkE nm N b sc m && chkE nm N c sc r)) | _ => false
  | .isn a, sc, e => match e with | .Compare l [.Is] [.Constant .none _ _] _ => chkE nm N a sc l | _ => false
  | .isnn a, sc, e => match e with | .Compare l [.IsNot] [.Constant .none _ _] _ => chkE nm N a sc l | _ => false
  | .and a b, sc, e => match e with | .BoolOp .And (x :: y :: r) pos => chkT nm N a sc x && (match r with | [] => chkT nm N b sc y | _ => chkT nm N b sc (.BoolOp .And (y :: r) pos)) | _ => false
  | .or a b, sc, e => match e with | .BoolOp .Or (x :: y :: r) pos => chkT nm N a sc x && (match r with | [] => chkT nm N b sc y | _ => chkT nm N b sc (.BoolOp .Or (y :: r) pos)) | _ => false
  | .not a, sc, e => match e with | .UnaryOp .Not x _ => chkT nm N a sc x | _ => false
def chkL (nm : Nm) (N : List Str) : Ev.L → Scope → Expr → Bool
  | .disp as, sc, e => match e with | .List es _ => chkEs nm N as sc es | _ => false
  | .comp tg it c x own, sc, e => match e with
    | .ListComp elt [⟨tgt, iter, ifs, 0⟩] scope _ => blkC N sc scope (ownOf N own) && (tgIn own tg && (chkTgC N (relS scope sc) tg tgt && (chkIt nm N it sc tgt iter && (chkOt nm N c (relS scope sc) ifs && chkE nm N x (relS scope sc) elt))))
    | _ => false
  | .slice a lo hi, sc, e => match e with | .Subscript x (.Slice l h none _) _ => chkB nm N a sc x && (chkOe nm N lo sc l && chkOe nm N hi sc h) | _ => false
  | .cat a b, sc, e => match e with | .BinOp l .Add r _ => chkB nm N a sc l && chkB nm N b sc r | _ => false
  | .lof a, sc, e => match e with | .Call f [y] [] _ => bltB sc "list" f && chkB nm N a sc y | _ => false
  | .sorted a, sc, e => match e with | .Call f [y] [] _ => bltB sc "sorted" f && chkB nm N a sc y | _ => false
  | .call f as, sc, e => match e with | .Call (.Name x _) es [] _ => ((decide (x = nm.fn f) && nm.gl f) && glbB sc x) && chkEs nm N as sc es | _ => false
  | .lrng a b, sc, e => match e with | .Call f [.Call g [x, y] [] _] [] _ => (bltB sc "list" f && bltB sc "range" g) && (chkE nm N a sc x && chkE nm N b sc y) | _ => false
def chkIt (nm : Nm) (N : List Str) : Ev.It → Scope → Expr → Expr → Bool
  | .seq x, sc, _, e => chkB nm N x sc e
  | .rng1 a, sc, _, e => match e with | .Call f [y] [] _ => bltB sc "range" f && chkE nm N a sc y | _ => false
  | .rng2 a b, sc, _, e => match e with | .Call f [x, y] [] _ => bltB sc "range" f && (chkE nm N a sc x && chkE nm N b sc y) | _ => false
  | .str a, sc, _, e => chkE nm N a sc e
  | .zip _ _, _, _, _ => false
def chkOt (nm : Nm) (N : List Str) : Ev.Ot → Scope → List Expr → Bool
  | .no, _, es => match es with | [] => true | _ => false
  | .yes t, sc, es => match es with | [e] => chkT nm N t sc e | _ => false
end
def slotB (N : List Str) (sc : Scope) (i : Nat) (e : Expr) : Bool := match e with
  | .Name x _ => visB N sc i x && (decide (sc.names.lookup x = some .local) || decide (sc.names.lookup x = some .cell))
  | _ => false
/-- no list comprehension -/
def noLc : Expr → Bool
  | .ListComp .. => false
  | _ => true
/-- name = [..] on one line -/
def lcB (sc : Scope) (x : Str) (px : Pos) (e : Expr) : Bool := match e with
  | .ListComp _ _ scope pos => decide (sc.names.lookup x = some .cell) || (decide (sc.names.lookup x = some .local) && ((px.line == pos.line) && !(scope.names.any fun (n, k) => n == x && (k == .local || k == .cell))))
  | _ => true
/-- no a, b = x, y -/
def noSw : Expr → Expr → Bool
  | .Tuple .., .Tuple .. => false
  | .List .., .Tuple .. => false
  | _, _ => true
def nilB (o : Option (List Stmt)) : Bool := match o with
  | some [] => true
  | _ => false
/-- what is left of the text behind the statement -/
def chkS (nm : Nm) (N : List Str) (sc : Scope) : Ev.S → List Stmt → Option (List Stmt)
  | .pass, sts => match sts with | .Pass _ :: r => some r | _ => none
  | .never, _ => some []
  | .asg tg e, sts => match sts with | .Assign [t] v _ :: r => if (noLc v && noSw t v) && (chkTgS N sc tg t && chkE nm N e sc v) then some r else none | _ => none
  | .asgL i l, sts => match sts with | .Assign [.Name x px] v _ :: r => if slotB N sc i (.Name x px) && (lcB sc x px v && chkL nm N l sc v) then some r else none | _ => none
  | .aug i o e, sts => match sts with | .AugAssign t op v _ :: r => if decide (op = opOf o) && (slotB N sc i t && chkE nm N e sc v) then some r else none | _ => none
  | .app i e, sts => match sts with | .Expr (.Call (.Attribute t m apos) [v] [] pos) _ :: r => if (decide (m = "append") && (apos.endLine == pos.line)) && (slotB N sc i t && chkE nm N e sc v) then some r else none | _ => none
  | .setL i x e, sts => match sts with | .Assign [.Subscript t k _] v _ :: r => if noLc v && (slotB N sc i t && (chkE nm N x sc k && chkE nm N e sc v)) then some r else none | _ => none
  | .setF f e, sts => match sts with | .Assign [.Attribute t g _] v _ :: r => if noLc v && (decide (g = nm.fl f) && (slotB N sc 0 t && chkE nm N e sc v)) then some r else none | _ => none
  | .ret e, sts => match sts with | .Return (some v) _ :: _ => if chkE nm N e sc v then some [] else none | _ => none
  | .retl i, sts => match sts with | .Return (some v) _ :: _ => if slotB N sc i v then some [] else none | _ => none
  | .retm l, sts => match sts with | .Return (some v) _ :: _ => if chkL nm N l sc v then some [] else none | _ => none
  | .retn, sts => match sts with | .Return none _ :: _ => some [] | _ => none
  | .ite t a b, sts => match sts with | .If c x y _ :: r => if chkT nm N t sc c && (nilB (chkS nm N sc a x) && nilB (chkS nm N sc b y)) then some r else none | _ => none
  | .loop tg it b _, sts => match sts with | .For t e x [] _ :: r => if chkTgS N sc tg t && (chkIt nm N it sc t e && nilB (chkS nm N sc b x)) then some r else none | _ => none
  | .whl t b _, sts => match sts with | .While c x [] _ :: r => if chkT nm N t sc c && nilB (chkS nm N sc b x) then some r else none | _ => none
  | .brk, sts => match sts with | .Break _ :: _ => some [] | _ => none
  | .cnt, sts => match sts with | .Continue _ :: _ => some [] | _ => none
  | .seq a b, sts => match chkS nm N sc a sts with | some r => chkS nm N sc b r | none => none
  | .ex e, sts => match sts with | .Expr v _ :: r => if noLc v && chkE nm N e sc v then some r else none | _ => none
  | .fz _, sts => some sts
  | .clr _, sts => some sts
end Snd

set_option Elab.async false
set_option linter.all false
set_option maxRecDepth 100000
/-! What the evaluator's values and places are in the abstract heap. -/
namespace Snd
open PySem PySem.Spec PyProof.Rows L2

structure Ad where
  fa : Nat → Addr
  ca : Nat → Addr
/-- the fixed things -/
structure Fx where
  K : PySem.W.Frag
  nm : Nm
  ad : Ad
  inj : ∀ i j, nm.fl i = nm.fl j → i = j

mutual
inductive Rep (Z : Fx) (th : List Addr) (G : Hp) : V → Ev.D → Prop
  | non : Rep Z th G .non .non
  | bl (b : Bool) : Rep Z th G (.bl b) (.bl b)
  | int (i : Int) : Rep Z th G (.int i) (.int i)
  | str (s : List Nat) : Rep Z th G (.str ⟨s.toArray⟩) (.str s)
  | tup {a : Addr} {vs : List V} {ds : List Ev.D} : SqT Z.K G a vs → Reps Z th G vs ds → Rep Z th G (.ref a) (.tup ds)
  | lst {a : Addr} {vs : List V} {ds : List Ev.D} : SqL Z.K G a vs → Reps Z th G vs ds → Rep Z th G (.ref a) (.lst ds)
  | obj {a dx : Addr} {vs : List (Str × V)} {c : Nat} {ds : List (Nat × Ev.D)} : Cls Z.K (Z.ad.ca c) → G a = some (.ins (Z.ad.ca c) dx vs) → G dx = some (.own a) → RepF Z th G (Z.ad.ca c) vs ds → Rep Z th G (.ref a) (.obj c ds)
  | fn (f : Nat) : PySem.W.keepIn Z.K (.ref (Z.ad.fa f)) = true → Rep Z th G (.ref (Z.ad.fa f)) (.fn f)
  | ref {n : Nat} {a : Addr} : th[n]? = some a → Rep Z th G (.ref a) (.ref n)
inductive Reps (Z : Fx) (th : List Addr) (G : Hp) : List V → List Ev.D → Prop
  | nil : Reps Z th G [] []
  | cons {v : V} {d : Ev.D} {vs : List V} {ds : List Ev.D} : Rep Z th G v d → Reps Z th G vs ds → Reps Z th G (v :: vs) (d :: ds)
inductive RepF (Z : Fx) (th : List Addr) (G : Hp) : Addr → List (Str × V) → List (Nat × Ev.D) → Prop
  | nil {C : Addr} : RepF Z th G C [] []
  | cons {C : Addr} {v : V} {f : Nat} {d : Ev.D} {vs : List (Str × V)} {ds : List (Nat × Ev.D)} : Rep Z th G v d → NoAttr Z.K C (Z.nm.fl f) → RepF Z th G C vs ds → RepF Z th G C ((Z.nm.fl f, v) :: vs) ((f, d) :: ds)
end

section
variable {Z : Fx} {th th' : List Addr} {G G' : Hp}
theorem sqT_mono {K : PySem.W.Frag} {a : Addr} {vs : List V} (h : ∀ a o, G a = some o → G' a = some o) (q : SqT K G a vs) : SqT K G' a vs := by
  rcases q with (q | ⟨o, q⟩) | q
  · exact .inl (.inl (h _ _ q))
  · exact .inl (.inr ⟨o, h _ _ q⟩)
  · exact .inr q
theorem sqL_mono {K : PySem.W.Frag} {a : Addr} {vs : List V} (h : ∀ a o, G a = some o → G' a = some o) (q : SqL K G a vs) : SqL K G' a vs := by
  rcases q with (q | ⟨o, q⟩) | q
  · exact .inl (.inl (h _ _ q))
  · exact .inl (.inr ⟨o, h _ _ q⟩)
  · exact .inr q
theorem th_mono (ht : ∃ t, th' = th ++ t) {n : Nat} {a : Addr} (q : th[n]? = some a) : th'[n]? = some a := by
  obtain ⟨t, rfl⟩ := ht
  rw [List.getElem?_append_left]
  · exact q
  · exact (List.getElem?_eq_some_iff.mp q).1
mutual
theorem Rep.mono (h : ∀ a o, G a = some o → G' a = some o) (ht : ∃ t, th' = th ++ t) : ∀ {v : V} {d : Ev.D}, Rep Z th G v d → Rep Z th' G' v d
  | _, _, .non => .non
  | _, _, .bl b => .bl b
  | _, _, .int i => .int i
  | _, _, .str s => .str s
  | _, _, .tup q r => .tup (sqT_mono h q) (Reps.mono h ht r)
  | _, _, .lst q r => .lst (sqL_mono h q) (Reps.mono h ht r)
  | _, _, .obj c q q2 r => .obj c (h _ _ q) (h _ _ q2) (RepF.mono h ht r)
  | _, _, .fn f h => .fn f h
  | _, _, .ref q => .ref (th_mono ht q)
theorem Reps.mono (h : ∀ a o, G a = some o → G' a = some o) (ht : ∃ t, th' = th ++ t) : ∀ {vs : List V} {ds : List Ev.D}, Reps Z th G vs ds → Reps Z th' G' vs ds
  | _, _, .nil => .nil
  | _, _, .cons q r => .cons (Rep.mono h ht q) (Reps.mono h ht r)
theorem RepF.mono (h : ∀ a o, G a = some o → G' a = some o) (ht : ∃ t, th' = th ++ t) {C : Addr} : ∀ {vs : List (Str × V)} {ds : List (Nat × Ev.D)}, RepF Z th G C vs ds → RepF Z th' G' C vs ds
  | _, _, .nil => .nil
  | _, _, .cons q n r => .cons (Rep.mono h ht q) n (RepF.mono h ht r)
end
theorem Reps.length : ∀ {vs : List V} {ds : List Ev.D}, Reps Z th G vs ds → vs.length = ds.length
  | _, _, .nil => rfl
  | _, _, .cons _ r => congrArg Nat.succ (Reps.length r)
theorem Reps.get : ∀ {vs : List V} {ds : List Ev.D} {i : Nat} {d : Ev.D}, Reps Z th G vs ds → ds[i]? = some d → ∃ v, vs[i]? = some v ∧ Rep Z th G v d
  | _, _, _, _, .nil, h => by simp at h
  | _, _, 0, _, .cons q _, h => by
    have e := Option.some.inj h
    subst e
    exact ⟨_, rfl, q⟩
  | _, _, i + 1, d, .cons _ r, h => Reps.get (i := i) r h
theorem Reps.append : ∀ {vs vs' : List V} {ds ds' : List Ev.D}, Reps Z th G vs ds → Reps Z th G vs' ds' → Reps Z th G (vs ++ vs') (ds ++ ds')
  | _, _, _, _, .nil, s => s
  | _, _, _, _, .cons q r, s => .cons q (Reps.append r s)
theorem Reps.drop : ∀ {vs : List V} {ds : List Ev.D} (n : Nat), Reps Z th G vs ds → Reps Z th G (vs.drop n) (ds.drop n)
  | _, _, 0, r => r
  | _, _, _ + 1, .nil => .nil
  | _, _, n + 1, .cons _ r => Reps.drop n r
theorem Reps.take : ∀ {vs : List V} {ds : List Ev.D} (n : Nat), Reps Z th G vs ds → Reps Z th G (vs.take n) (ds.take n)
  | _, _, 0, _ => .nil
  | _, _, _ + 1, .nil => .nil
  | _, _, n + 1, .cons q r => .cons q (Reps.take n r)
theorem Reps.set {v : V} {d : Ev.D} (q : Rep Z th G v d) : ∀ {vs : List V} {ds : List Ev.D} (n : Nat), Reps Z th G vs ds → Reps Z th G (vs.set n v) (ds.set n d)
  | _, _, _, .nil => .nil
  | _, _, 0, .cons _ r => .cons q r
  | _, _, n + 1, .cons p r => .cons p (Reps.set q n r)
theorem RepF.lookup {C : Addr} {f : Nat} {d : Ev.D} : ∀ {vs : List (Str × V)} {ds : List (Nat × Ev.D)}, RepF Z th G C vs ds → ds.lookup f = some d → ∃ v, vs.lookup (Z.nm.fl f) = some v ∧ Rep Z th G v d ∧ NoAttr Z.K C (Z.nm.fl f)
  | _, _, .nil, h => by cases h
  | _, _, .cons (f := g) (v := v) (d := e) q n r, h => by
    by_cases z : f = g
    · subst z
      rw [List.lookup_cons_self] at h
      cases h
      exact ⟨v, List.lookup_cons_self, q, n⟩
    · have z2 : (f == g) = false := by simpa using z
      have z3 : (Z.nm.fl f == Z.nm.fl g) = false := by
        rw [beq_eq_false_iff_ne]
        exact fun e => z (Z.inj _ _ e)
      rw [List.lookup_cons, z2] at h
      obtain ⟨w, h1, h2⟩ := RepF.lookup r h
      exact ⟨w, by rw [List.lookup_cons, z3]; exact h1, h2⟩
theorem RepF.noneAt {C : Addr} {x : Str} (hx : ¬ NoAttr Z.K C x) : ∀ {vs : List (Str × V)} {ds : List (Nat × Ev.D)}, RepF Z th G C vs ds → vs.lookup x = none
  | _, _, .nil => rfl
  | _, _, .cons (f := g) q n r => by
    have z : (x == Z.nm.fl g) = false := by
      rw [beq_eq_false_iff_ne]
      rintro rfl
      exact hx n
    rw [List.lookup_cons, z]
    exact RepF.noneAt hx r
theorem RepF.length {C : Addr} : ∀ {vs : List (Str × V)} {ds : List (Nat × Ev.D)}, RepF Z th G C vs ds → vs.length = ds.length
  | _, _, .nil => rfl
  | _, _, .cons _ _ r => congrArg Nat.succ (RepF.length r)
theorem RepF.putF {C : Addr} {f : Nat} {v : V} {d : Ev.D} (q : Rep Z th G v d) (n : NoAttr Z.K C (Z.nm.fl f)) : ∀ {vs : List (Str × V)} {ds : List (Nat × Ev.D)}, RepF Z th G C vs ds → ds.lookup f = none → RepF Z th G C (L2.putF (Z.nm.fl f) v vs) (ds ++ [(f, d)])
  | _, _, .nil, _ => .cons q n .nil
  | _, _, .cons (f := g) (v := w) (d := e) p m r, h => by
    by_cases z : f = g
    · subst z
      rw [List.lookup_cons_self] at h
      cases h
    · have z2 : (f == g) = false := by simpa using z
      rw [List.lookup_cons, z2] at h
      have z3 : ¬ Z.nm.fl g = Z.nm.fl f := fun e => z (Z.inj _ _ e).symm
      have ih := RepF.putF q n r h
      unfold L2.putF
      first
        | (rw [if_neg z3]; exact .cons p m ih)
        | (rw [if_neg (fun e => z3 e.symm)]; exact .cons p m ih)
end

/-! ### points -/
structure Pt where
  G : Hp
  th : List Addr
  H : Hp
  S : Ev.Sto
  /-- at an entry: the instance that is being made -/
  me : Addr := 0
/-- what was is as it was, but the store -/
structure Ext (p q : Pt) : Prop where
  g : ∀ a o, p.G a = some o → q.G a = some o
  t : ∃ t, q.th = p.th ++ t
  h : ∀ a o, p.H a = some o → a ∉ p.th → q.H a = some o ∧ a ∉ q.th ∧ (p.G a = none → q.G a = none)
theorem Ext.refl (p : Pt) : Ext p p := ⟨fun _ _ h => h, ⟨[], by simp⟩, fun _ _ h n => ⟨h, n, fun x => x⟩⟩
theorem Ext.trans {p q r : Pt} (x : Ext p q) (y : Ext q r) : Ext p r := by
  refine ⟨fun a o h => y.g a o (x.g a o h), ?_, fun a o h n => ?_⟩
  · obtain ⟨t, e⟩ := x.t
    obtain ⟨u, f⟩ := y.t
    exact ⟨t ++ u, by rw [f, e, List.append_assoc]⟩
  · obtain ⟨h1, n1, g1⟩ := x.h a o h n
    obtain ⟨h2, n2, g2⟩ := y.h a o h1 n1
    exact ⟨h2, n2, fun z => g2 (g1 z)⟩
def CellR (Z : Fx) (p : Pt) (a : Addr) : Ev.Cell → Prop
  | .inst c fs => ∃ dx vs, p.H a = some (.ins (Z.ad.ca c) dx vs) ∧ p.G dx = some (.own a) ∧ RepF Z p.th p.G (Z.ad.ca c) vs fs
  | .dct _ => False
structure GoodP (Z : Fx) (p : Pt) : Prop where
  sub : ∀ a o, p.G a = some o → p.H a = some o
  len : p.th.length = p.S.length
  nd : p.th.Nodup
  cell : ∀ (n : Nat) (a : Addr) (c : Ev.Cell), p.th[n]? = some a → p.S[n]? = some c → CellR Z p a c
  gone : ∀ a ∈ p.th, p.G a = none
section
variable {Z : Fx} {p q : Pt}
theorem GoodP.there (g : GoodP Z p) {a : Addr} (h : a ∈ p.th) : ∃ o, p.H a = some o := by
  obtain ⟨n, hn⟩ := List.getElem?_of_mem h
  have l : n < p.S.length := by
    rw [← g.len]
    exact (List.getElem?_eq_some_iff.mp hn).1
  have x := g.cell n a _ hn (List.getElem?_eq_getElem l)
  cases e : p.S[n] with
  | inst c fs =>
    rw [e] at x
    obtain ⟨dx, vs, x1, _⟩ := x
    exact ⟨_, x1⟩
  | dct kvs =>
    rw [e] at x
    exact x.elim
theorem CellR.step {a : Addr} {c : Ev.Cell} (x : CellR Z p a c) (e : Ext p q) (h : q.H a = p.H a) : CellR Z q a c := by
  cases c with
  | inst c fs =>
    obtain ⟨dx, vs, x1, x2, x3⟩ := x
    exact ⟨dx, vs, by rw [h]; exact x1, e.g _ _ x2, x3.mono e.g e.t⟩
  | dct kvs => exact x.elim
/-- a new thing for good -/
theorem GoodP.new (g : GoodP Z p) {a : Addr} {o : HO} (hn : p.H a = none) : GoodP Z { p with H := upd p.H a o, G := upd p.G a o } ∧ Ext p { p with H := upd p.H a o, G := upd p.G a o } := by
  have gn : p.G a = none := by
    cases e : p.G a with
    | none => rfl
    | some u => rw [g.sub _ _ e] at hn; cases hn
  have ne : ∀ b u, p.H b = some u → b ≠ a := fun b u h z => by rw [z, hn] at h; cases h
  have neG : ∀ b u, p.G b = some u → b ≠ a := fun b u h => ne b u (g.sub _ _ h)
  have ext : Ext p { p with H := upd p.H a o, G := upd p.G a o } := ⟨fun b u h => by show upd p.G a o b = _; rw [upd_ne (neG _ _ h)]; exact h, ⟨[], by simp⟩, fun b u h n => ⟨by show upd p.H a o b = _; rw [upd_ne (ne _ _ h)]; exact h, n, fun z => by show upd p.G a o b = _; rw [upd_ne (ne _ _ h)]; exact z⟩⟩
  refine ⟨⟨fun b u h => ?_, g.len, g.nd, fun n b c h1 h2 => ?_, fun b hb => ?_⟩, ext⟩
  · by_cases z : b = a
    · subst z
      have h' : upd p.G b o b = some u := h
      rw [upd_same] at h'
      show upd p.H b o b = _
      rw [upd_same]; exact h'
    · have h' : upd p.G a o b = some u := h
      rw [upd_ne z] at h'
      show upd p.H a o b = _
      rw [upd_ne z]; exact g.sub _ _ h'
  · obtain ⟨u, hu⟩ := g.there (List.mem_of_getElem? h1)
    exact (g.cell n b c h1 h2).step ext (upd_ne (ne _ _ hu))
  · obtain ⟨u, hu⟩ := g.there hb
    show upd p.G a o b = _
    rw [upd_ne (ne _ _ hu)]
    exact g.gone b hb
/-- a new thing of the def's own -/
theorem GoodP.own (g : GoodP Z p) {a : Addr} {o : HO} (hn : p.H a = none) : GoodP Z { p with H := upd p.H a o } ∧ Ext p { p with H := upd p.H a o } := by
  have ne : ∀ b u, p.H b = some u → b ≠ a := fun b u h z => by rw [z, hn] at h; cases h
  have ext : Ext p { p with H := upd p.H a o } := ⟨fun b u h => h, ⟨[], by simp⟩, fun b u h n => ⟨by show upd p.H a o b = _; rw [upd_ne (ne _ _ h)]; exact h, n, fun z => z⟩⟩
  refine ⟨⟨fun b u h => ?_, g.len, g.nd, fun n b c h1 h2 => ?_, g.gone⟩, ext⟩
  · have h' := g.sub b u h
    show upd p.H a o b = _
    rw [upd_ne (ne _ _ h')]; exact h'
  · obtain ⟨u, hu⟩ := g.there (List.mem_of_getElem? h1)
    exact (g.cell n b c h1 h2).step ext (upd_ne (ne _ _ hu))
/-- .. changed -/
theorem GoodP.mut (g : GoodP Z p) {a : Addr} {o : HO} (h1 : p.G a = none) (h2 : a ∉ p.th) : GoodP Z { p with H := upd p.H a o } := by
  refine ⟨fun b u h => ?_, g.len, g.nd, fun n b c h3 h4 => ?_, g.gone⟩
  · have z : b ≠ a := by rintro rfl; rw [h1] at h; cases h
    show upd p.H a o b = _
    rw [upd_ne z]; exact g.sub _ _ h
  · have z : b ≠ a := by rintro rfl; exact h2 (List.mem_of_getElem? h3)
    have x := g.cell n b c h3 h4
    cases c with
    | inst c fs =>
      obtain ⟨dx, vs, x1, x2, x3⟩ := x
      exact ⟨dx, vs, by show upd p.H a o b = _; rw [upd_ne z]; exact x1, x2, x3⟩
    | dct kvs => exact x.elim
/-- .. given away for good -/
theorem GoodP.give (g : GoodP Z p) {a : Addr} {o : HO} (h : p.H a = some o) (h1 : p.G a = none) (h2 : a ∉ p.th) : GoodP Z { p with G := upd p.G a o } ∧ ∀ b u, p.G b = some u → upd p.G a o b = some u := by
  have sub : ∀ b u, p.G b = some u → upd p.G a o b = some u := fun b u hb => by
    have z : b ≠ a := by rintro rfl; rw [h1] at hb; cases hb
    rw [upd_ne z]; exact hb
  refine ⟨⟨fun b u hb => ?_, g.len, g.nd, fun n b c h3 h4 => ?_, fun b hb => ?_⟩, sub⟩
  · have hb' : upd p.G a o b = some u := hb
    by_cases z : b = a
    · subst z
      rw [upd_same] at hb'
      rw [← hb']; exact h
    · rw [upd_ne z] at hb'
      exact g.sub _ _ hb'
  · have x := g.cell n b c h3 h4
    cases c with
    | inst c fs =>
      obtain ⟨dx, vs, x1, x2, x3⟩ := x
      exact ⟨dx, vs, x1, sub _ _ x2, x3.mono sub ⟨[], by simp⟩⟩
    | dct kvs => exact x.elim
  · have z : b ≠ a := by rintro rfl; exact h2 hb
    show upd p.G a o b = _
    rw [upd_ne z]; exact g.gone b hb
end

/-! ### slots -/
abbrev Pt.R (Z : Fx) (p : Pt) : V → Ev.D → Prop := Rep Z p.th p.G
abbrev Pt.Rs (Z : Fx) (p : Pt) : List V → List Ev.D → Prop := Reps Z p.th p.G
def SlR (Z : Fx) (p : Pt) (x : Option V) : Option Ev.Sl → Prop
  | some (.v d) => ∃ v, x = some v ∧ p.R Z v d
  | some (.l ds) => ∃ a vs, x = some (.ref a) ∧ p.H a = some (.lst vs) ∧ p.Rs Z vs ds ∧ p.G a = none ∧ a ∉ p.th
  | some (.o c fs) => ∃ a dx vs, x = some (.ref a) ∧ p.H a = some (.ins (Z.ad.ca c) dx vs) ∧ p.G dx = some (.own a) ∧ RepF Z p.th p.G (Z.ad.ca c) vs fs ∧ p.G a = none ∧ a ∉ p.th
  | none => True
def isOwn : Option Ev.Sl → Bool
  | some (.l _) => true
  | some (.o _ _) => true
  | _ => false
def sg (σ : L2.St) (i : Nat) : Option V := (σ[i]?).join
structure SR (Z : Fx) (E0 : Pt) (ρ : Ev.Env) (σ : L2.St) (p : Pt) : Prop where
  good : GoodP Z p
  ext : Ext E0 p
  slot : ∀ i, SlR Z p (sg σ i) (ρ.get i)
  own : ∀ i j a, isOwn (ρ.get i) = true → isOwn (ρ.get j) = true → sg σ i = some (.ref a) → sg σ j = some (.ref a) → i = j
  fresh : ∀ i a, isOwn (ρ.get i) = true → sg σ i = some (.ref a) → E0.H a = none
  len : ρ.length = σ.length
  me : ∀ i c fs, ρ.get i = some (.o c fs) → sg σ i = some (.ref E0.me)
theorem Env.put_length : ∀ (ρ : Ev.Env) (i : Nat) (s : Option Ev.Sl), (ρ.put i s).length = ρ.length
  | [], _, _ => rfl
  | _ :: _, 0, _ => rfl
  | _ :: r, n + 1, s => congrArg Nat.succ (Env.put_length r n s)
theorem Env.get_put : ∀ (ρ : Ev.Env) (i : Nat) (s : Option Ev.Sl) (j : Nat), (ρ.put i s).get j = if j = i ∧ i < ρ.length then s else ρ.get j
  | [], i, s, j => by
    rw [if_neg (by simp)]; rfl
  | a :: r, 0, s, 0 => by
    rw [if_pos ⟨rfl, by simp⟩]; rfl
  | a :: r, 0, s, j + 1 => by
    rw [if_neg (by simp)]; rfl
  | a :: r, n + 1, s, 0 => by
    rw [if_neg (by simp)]; rfl
  | a :: r, n + 1, s, j + 1 => by
    show (Ev.Env.put r n s).get j = _
    rw [Env.get_put r n s j]
    simp
theorem Env.get_lt : ∀ {ρ : Ev.Env} {i : Nat} {s : Ev.Sl}, ρ.get i = some s → i < ρ.length
  | [], _, _, h => by cases h
  | _ :: _, 0, _, _ => by simp
  | _ :: r, n + 1, _, h => by
    have := Env.get_lt (ρ := r) (i := n) h
    simp; omega
theorem sg_set (σ : L2.St) (i : Nat) (v : Option V) (j : Nat) : sg (σ.set i v) j = if j = i ∧ i < σ.length then v else sg σ j := by
  unfold sg
  by_cases h : j = i
  · subst h
    by_cases l : j < σ.length
    · rw [List.getElem?_set_self l, if_pos ⟨rfl, l⟩]; rfl
    · rw [if_neg (by simp; omega), List.getElem?_eq_none (by simp; omega), List.getElem?_eq_none (by omega)]
  · rw [if_neg (fun z => h z.1), List.getElem?_set_ne (fun z => h z.symm)]
section
variable {Z : Fx} {E0 p q : Pt} {ρ : Ev.Env} {σ : L2.St}
theorem SlR.step {x : Option V} {s : Option Ev.Sl} (h : SlR Z p x s) (e : Ext p q) : SlR Z q x s := by
  cases s with
  | none => trivial
  | some s =>
    cases s with
    | v d =>
      obtain ⟨v, h1, h2⟩ := h
      exact ⟨v, h1, h2.mono e.g e.t⟩
    | l ds =>
      obtain ⟨a, vs, h1, h2, h3, h4, h5⟩ := h
      obtain ⟨e1, e2, e3⟩ := e.h _ _ h2 h5
      exact ⟨a, vs, h1, e1, h3.mono e.g e.t, e3 h4, e2⟩
    | o c fs =>
      obtain ⟨a, dx, vs, h1, h2, h3, h4, h5, h6⟩ := h
      obtain ⟨e1, e2, e3⟩ := e.h _ _ h2 h6
      exact ⟨a, dx, vs, h1, e1, e.g _ _ h3, h4.mono e.g e.t, e3 h5, e2⟩
theorem SR.step (h : SR Z E0 ρ σ p) (g : GoodP Z q) (e : Ext p q) : SR Z E0 ρ σ q := ⟨g, h.ext.trans e, fun i => (h.slot i).step e, h.own, h.fresh, h.len, h.me⟩
/-- a value in a slot -/
theorem SR.put (h : SR Z E0 ρ σ p) (i : Nat) {v : V} {d : Ev.D} (r : p.R Z v d) : SR Z E0 (ρ.put i (some (.v d))) (σ.set i (some v)) p := by
  have iso : ∀ j, isOwn ((ρ.put i (some (.v d))).get j) = true → isOwn (ρ.get j) = true ∧ sg (σ.set i (some v)) j = sg σ j := fun j hj => by
    rw [Env.get_put] at hj
    rw [sg_set, ← h.len]
    by_cases z : j = i ∧ i < ρ.length
    · rw [if_pos z] at hj; cases hj
    · rw [if_neg z] at hj; rw [if_neg z]; exact ⟨hj, rfl⟩
  refine ⟨h.good, h.ext, fun j => ?_, fun j k a h1 h2 h3 h4 => ?_, fun j a h1 h2 => ?_, by rw [Env.put_length, List.length_set]; exact h.len, fun j c fs hj => ?_⟩
  · rw [Env.get_put, sg_set, ← h.len]
    by_cases z : j = i ∧ i < ρ.length
    · rw [if_pos z, if_pos z]; exact ⟨v, rfl, r⟩
    · rw [if_neg z, if_neg z]; exact h.slot j
  · obtain ⟨o1, e1⟩ := iso j h1
    obtain ⟨o2, e2⟩ := iso k h2
    rw [e1] at h3; rw [e2] at h4
    exact h.own j k a o1 o2 h3 h4
  · obtain ⟨o1, e1⟩ := iso j h1
    rw [e1] at h2
    exact h.fresh j a o1 h2
  · obtain ⟨o1, e1⟩ := iso j (by rw [hj]; rfl)
    rw [Env.get_put] at hj
    rw [e1]
    by_cases z : j = i ∧ i < ρ.length
    · rw [if_pos z] at hj; cases hj
    · rw [if_neg z] at hj; exact h.me j c fs hj
/-- a slot forgotten -/
theorem SR.drop (h : SR Z E0 ρ σ p) (i : Nat) : SR Z E0 (ρ.put i none) σ p := by
  have iso : ∀ j, isOwn ((ρ.put i none).get j) = true → isOwn (ρ.get j) = true := fun j hj => by
    rw [Env.get_put] at hj
    by_cases z : j = i ∧ i < ρ.length
    · rw [if_pos z] at hj; cases hj
    · rw [if_neg z] at hj; exact hj
  refine ⟨h.good, h.ext, fun j => ?_, fun j k a h1 h2 h3 h4 => h.own j k a (iso j h1) (iso k h2) h3 h4, fun j a h1 h2 => h.fresh j a (iso j h1) h2, by rw [Env.put_length]; exact h.len, fun j c fs hj => h.me j c fs (by
    rw [Env.get_put] at hj
    by_cases z : j = i ∧ i < ρ.length
    · rw [if_pos z] at hj; cases hj
    · rw [if_neg z] at hj; exact hj)⟩
  rw [Env.get_put]
  by_cases z : j = i ∧ i < ρ.length
  · rw [if_pos z]; trivial
  · rw [if_neg z]; exact h.slot j
theorem SR.clear (h : SR Z E0 ρ σ p) : ∀ is : List Nat, SR Z E0 (Ev.clear ρ is) σ p := fun is => by
  induction is generalizing ρ with
  | nil => exact h
  | cons i is ih => exact ih (h.drop i)
/-- a new list of the def's own in a slot: it lies at a, fresh for p, in q -/
theorem SR.putOwn (h : SR Z E0 ρ σ p) (i : Nat) {a : Addr} {vs : List V} {ds : List Ev.D} (e : Ext p q) (g : GoodP Z q) (hn : p.H a = none) (ha : q.H a = some (.lst vs)) (r : q.Rs Z vs ds) (h1 : q.G a = none) (h2 : a ∉ q.th) :
    SR Z E0 (ρ.put i (some (.l ds))) (σ.set i (some (.ref a))) q := by
  have hq := h.step g e
  have old : ∀ j b, isOwn (ρ.get j) = true → sg σ j = some (.ref b) → b ≠ a := fun j b hj hb z => by
    subst z
    have sl := h.slot j
    cases s : ρ.get j with
    | none => rw [s] at hj; cases hj
    | some s' =>
      rw [s] at hj sl
      cases s' with
      | v d => cases hj
      | l ds =>
        obtain ⟨a', vs, x1, x2, _⟩ := sl
        rw [hb] at x1; cases x1
        rw [hn] at x2; cases x2
      | o c fs =>
        obtain ⟨a', dx, vs, x1, x2, _⟩ := sl
        rw [hb] at x1; cases x1
        rw [hn] at x2; cases x2
  have e0 : E0.H a = none := by
    cases z : E0.H a with
    | none => rfl
    | some o =>
      by_cases m : a ∈ E0.th
      · exfalso
        obtain ⟨t, et⟩ := h.ext.t
        obtain ⟨u, hu⟩ := h.good.there (a := a) (by rw [et]; exact List.mem_append_left _ m)
        rw [hn] at hu; cases hu
      · obtain ⟨x, _⟩ := h.ext.h a o z m
        rw [hn] at x; cases x
  refine ⟨g, hq.ext, fun j => ?_, fun j k b o1 o2 e1 e2 => ?_, fun j b o1 e1 => ?_, by rw [Env.put_length, List.length_set]; exact h.len, fun j c fs hj => by
    rw [Env.get_put] at hj
    rw [sg_set, ← h.len]
    by_cases z : j = i ∧ i < ρ.length
    · rw [if_pos z] at hj; cases hj
    · rw [if_neg z] at hj ⊢; exact h.me j c fs hj⟩
  · rw [Env.get_put, sg_set, ← h.len]
    by_cases z : j = i ∧ i < ρ.length
    · rw [if_pos z, if_pos z]; exact ⟨a, vs, rfl, ha, r, h1, h2⟩
    · rw [if_neg z, if_neg z]; exact hq.slot j
  · rw [Env.get_put] at o1 o2
    rw [sg_set, ← h.len] at e1 e2
    by_cases z : j = i ∧ i < ρ.length
    · rw [if_pos z] at e1
      cases e1
      by_cases z2 : k = i ∧ i < ρ.length
      · rw [z.1, z2.1]
      · rw [if_neg z2] at o2 e2
        exact absurd rfl (old k a o2 e2)
    · rw [if_neg z] at o1 e1
      by_cases z2 : k = i ∧ i < ρ.length
      · rw [if_pos z2] at e2
        cases e2
        exact absurd rfl (old j a o1 e1)
      · rw [if_neg z2] at o2 e2
        exact h.own j k b o1 o2 e1 e2
  · rw [Env.get_put] at o1
    rw [sg_set, ← h.len] at e1
    by_cases z : j = i ∧ i < ρ.length
    · rw [if_pos z] at e1
      cases e1
      exact e0
    · rw [if_neg z] at o1 e1
      exact h.fresh j b o1 e1
/-- the heap at an own thing's place -/
theorem SR.atOwn (h : SR Z E0 ρ σ p) {i : Nat} {a : Addr} (o : isOwn (ρ.get i) = true) (e : sg σ i = some (.ref a)) : (∃ u, p.H a = some u) ∧ p.G a = none ∧ a ∉ p.th := by
  have sl := h.slot i
  cases s : ρ.get i with
  | none => rw [s] at o; cases o
  | some s' =>
    rw [s] at o sl
    cases s' with
    | v d => cases o
    | l ds =>
      obtain ⟨a', vs, x1, x2, _, x4, x5⟩ := sl
      rw [e] at x1; cases x1
      exact ⟨⟨_, x2⟩, x4, x5⟩
    | o c fs =>
      obtain ⟨a', dx, vs, x1, x2, _, _, x4, x5⟩ := sl
      rw [e] at x1; cases x1
      exact ⟨⟨_, x2⟩, x4, x5⟩
/-- an own thing changed in its place; s' is what the slot is then -/
theorem SR.mut (h : SR Z E0 ρ σ p) {i : Nat} {a : Addr} {o : HO} {s' : Ev.Sl} (oi : isOwn (ρ.get i) = true) (e : sg σ i = some (.ref a)) (os : isOwn (some s') = true)
    (hs : SlR Z { p with H := upd p.H a o } (some (.ref a)) (some s')) (ho : ∀ c fs, s' = .o c fs → ∃ c' fs', ρ.get i = some (.o c' fs') := by intro _ _ h; cases h) : SR Z E0 (ρ.put i (some s')) σ { p with H := upd p.H a o } := by
  obtain ⟨_, g1, t1⟩ := h.atOwn oi e
  have hi : i < ρ.length := by
    cases s : ρ.get i with
    | none => rw [s] at oi; cases oi
    | some _ => exact Env.get_lt s
  have iso : ∀ j, isOwn ((ρ.put i (some s')).get j) = true → isOwn (ρ.get j) = true := fun j hj => by
    rw [Env.get_put] at hj
    by_cases z : j = i ∧ i < ρ.length
    · rw [z.1]; exact oi
    · rw [if_neg z] at hj; exact hj
  refine ⟨h.good.mut g1 t1, ⟨h.ext.g, h.ext.t, fun b u hb n => ?_⟩, fun j => ?_, fun j k b o1 o2 e1 e2 => h.own j k b (iso j o1) (iso k o2) e1 e2, fun j b o1 e1 => h.fresh j b (iso j o1) e1, by rw [Env.put_length]; exact h.len, fun j c fs hj => by
    rw [Env.get_put] at hj
    by_cases z : j = i ∧ i < ρ.length
    · rw [if_pos z] at hj
      obtain ⟨c', fs', h2⟩ := ho c fs (Option.some.inj hj)
      rw [z.1]; exact h.me i c' fs' h2
    · rw [if_neg z] at hj; exact h.me j c fs hj⟩
  · obtain ⟨x1, x2, x3⟩ := h.ext.h b u hb n
    have z : b ≠ a := by
      rintro rfl
      rw [h.fresh i b oi e] at hb; cases hb
    exact ⟨by show upd p.H a o b = _; rw [upd_ne z]; exact x1, x2, x3⟩
  · rw [Env.get_put]
    by_cases z : j = i ∧ i < ρ.length
    · rw [if_pos z, z.1, e]; exact hs
    · rw [if_neg z]
      have zj : j ≠ i := fun q => z ⟨q, hi⟩
      have sl := h.slot j
      cases s : ρ.get j with
      | none => trivial
      | some s2 =>
        rw [s] at sl
        have oj : ∀ b, isOwn (some s2) = true → sg σ j = some (.ref b) → b ≠ a := fun b ob eb q => by
          subst q
          exact zj (h.own j i b (by rw [s]; exact ob) oi eb e)
        cases s2 with
        | v d => exact sl
        | l ds =>
          obtain ⟨a', vs, x1, x2, x3, x4, x5⟩ := sl
          exact ⟨a', vs, x1, by show upd p.H a o a' = _; rw [upd_ne (oj a' rfl x1)]; exact x2, x3, x4, x5⟩
        | o c fs =>
          obtain ⟨a', dx, vs, x1, x2, x3, x4, x5, x6⟩ := sl
          exact ⟨a', dx, vs, x1, by show upd p.H a o a' = _; rw [upd_ne (oj a' rfl x1)]; exact x2, x3, x4, x5, x6⟩
/-- an own thing given away -/
theorem SR.give (h : SR Z E0 ρ σ p) {i : Nat} {a : Addr} {o : HO} {d : Ev.D} (oi : isOwn (ρ.get i) = true) (e : sg σ i = some (.ref a)) (ha : p.H a = some o)
    (hr : (∀ b u, p.G b = some u → upd p.G a o b = some u) → Rep Z p.th (upd p.G a o) (.ref a) d) : SR Z E0 (ρ.put i (some (.v d))) σ { p with G := upd p.G a o } := by
  obtain ⟨_, g1, t1⟩ := h.atOwn oi e
  obtain ⟨g2, sub⟩ := h.good.give ha g1 t1
  have hi : i < ρ.length := by
    cases s : ρ.get i with
    | none => rw [s] at oi; cases oi
    | some _ => exact Env.get_lt s
  have iso : ∀ j, isOwn ((ρ.put i (some (.v d))).get j) = true → isOwn (ρ.get j) = true ∧ j ≠ i := fun j hj => by
    rw [Env.get_put] at hj
    by_cases z : j = i ∧ i < ρ.length
    · rw [if_pos z] at hj; cases hj
    · rw [if_neg z] at hj; exact ⟨hj, fun q => z ⟨q, hi⟩⟩
  refine ⟨g2, ⟨fun b u hb => sub _ _ (h.ext.g _ _ hb), h.ext.t, fun b u hb n => ?_⟩, fun j => ?_, fun j k b o1 o2 e1 e2 => h.own j k b (iso j o1).1 (iso k o2).1 e1 e2, fun j b o1 e1 => h.fresh j b (iso j o1).1 e1, by rw [Env.put_length]; exact h.len, fun j c fs hj => by
    rw [Env.get_put] at hj
    by_cases z : j = i ∧ i < ρ.length
    · rw [if_pos z] at hj; cases hj
    · rw [if_neg z] at hj; exact h.me j c fs hj⟩
  · obtain ⟨x1, x2, x3⟩ := h.ext.h b u hb n
    have z : b ≠ a := by
      rintro rfl
      rw [h.fresh i b oi e] at hb; cases hb
    exact ⟨x1, x2, fun q => by show upd p.G a o b = _; rw [upd_ne z]; exact x3 q⟩
  · rw [Env.get_put]
    by_cases z : j = i ∧ i < ρ.length
    · rw [if_pos z, z.1, e]; exact ⟨_, rfl, hr sub⟩
    · rw [if_neg z]
      have zj : j ≠ i := fun q => z ⟨q, hi⟩
      have sl := h.slot j
      cases s : ρ.get j with
      | none => trivial
      | some s2 =>
        rw [s] at sl
        have oj : ∀ b, isOwn (some s2) = true → sg σ j = some (.ref b) → b ≠ a := fun b ob eb q => by
          subst q
          exact zj (h.own j i b (by rw [s]; exact ob) oi eb e)
        cases s2 with
        | v d =>
          obtain ⟨v, x1, x2⟩ := sl
          exact ⟨v, x1, x2.mono sub ⟨[], by simp⟩⟩
        | l ds =>
          obtain ⟨a', vs, x1, x2, x3, x4, x5⟩ := sl
          exact ⟨a', vs, x1, x2, x3.mono sub ⟨[], by simp⟩, by show upd p.G a o a' = _; rw [upd_ne (oj a' rfl x1)]; exact x4, x5⟩
        | o c fs =>
          obtain ⟨a', dx, vs, x1, x2, x3, x4, x5, x6⟩ := sl
          exact ⟨a', dx, vs, x1, x2, sub _ _ x3, x4.mono sub ⟨[], by simp⟩, by show upd p.G a o a' = _; rw [upd_ne (oj a' rfl x1)]; exact x5, x6⟩
end
end Snd

set_option Elab.async false
set_option linter.all false
set_option maxRecDepth 100000
/-! The best readings; the operations on values. -/
namespace Snd
open PySem PySem.Spec PyProof.Rows L2

/-! ### the best readings -/
section
variable {X : Cx}
def bE (X : Cx) (e : Expr) : TE := fun σ H Q => ∀ pins s, Inv X pins σ H s → wpAny (model X.prog X.w) X.A (eval e X.env) (EP X pins σ Q) X.xe s
theorem peb {e : Expr} : PE X e (bE X e) := ⟨fun pins s σ H Q I h => h pins s I⟩
theorem bE.of {e : Expr} {t : TE} (h : PE X e t) {σ : L2.St} {H : Hp} {Q : VK} (q : t σ H Q) : bE X e σ H Q := fun pins s I => h.run pins s σ H Q I q
theorem bE.mono {e : Expr} {σ : L2.St} {H : Hp} {Q Q' : VK} (h : bE X e σ H Q) (hq : ∀ v H', Q v H' → Q' v H') : bE X e σ H Q' :=
  fun pins s I => thn (h pins s I) fun u s' ⟨v, H', I', r, q⟩ => ⟨v, H', I', r, hq _ _ q⟩
def bT (X : Cx) (e : Expr) : TT := fun σ H Q => ∀ pins s, Inv X pins σ H s → wpAny (model X.prog X.w) X.A (isTrue e X.env (eval e X.env)) (TP X pins σ Q) X.xe s
theorem ptb {e : Expr} : PT X e (bT X e) := ⟨fun pins s σ H Q I h => h pins s I⟩
theorem bT.of {e : Expr} {t : TT} (h : PT X e t) {σ : L2.St} {H : Hp} {Q : Bool → Hp → Prop} (q : t σ H Q) : bT X e σ H Q := fun pins s I => h.run pins s σ H Q I q
theorem bT.mono {e : Expr} {σ : L2.St} {H : Hp} {Q Q' : Bool → Hp → Prop} (h : bT X e σ H Q) (hq : ∀ v H', Q v H' → Q' v H') : bT X e σ H Q' :=
  fun pins s I => thn (h pins s I) fun u s' ⟨H', I', q⟩ => ⟨H', I', hq _ _ q⟩
/-- a test whatever its whole is -/
def bW (X : Cx) (e : Expr) : TT := fun σ H Q => ∀ (whole : Sem Value) pins s, Inv X pins σ H s → wpAny (model X.prog X.w) X.A (isTrue e X.env whole) (TP X pins σ Q) X.xe s
theorem pwb {e : Expr} : PW X e (bW X e) := ⟨fun wh pins s σ H Q I h => h wh pins s I⟩
theorem bW.of {e : Expr} {t : TT} (h : PW X e t) {σ : L2.St} {H : Hp} {Q : Bool → Hp → Prop} (q : t σ H Q) : bW X e σ H Q := fun wh pins s I => h.run wh pins s σ H Q I q
def bA (X : Cx) (es : List Expr) : TA := fun σ H Q => ∀ (pos : Pos) pins s, Inv X pins σ H s → wpAny (model X.prog X.w) X.A (spliced (backTo pos (starEach es X.env))) (AP X pins σ Q) X.xe s
theorem pab {es : List Expr} : PA X es (bA X es) := ⟨fun pos pins s σ H Q I h => h pos pins s I⟩
theorem bA.of {es : List Expr} {t : TA} (h : PA X es t) {σ : L2.St} {H : Hp} {Q : List V → Hp → Prop} (q : t σ H Q) : bA X es σ H Q := fun pos pins s I => h.run pos pins s σ H Q I q
theorem bA.mono {es : List Expr} {σ : L2.St} {H : Hp} {Q Q' : List V → Hp → Prop} (h : bA X es σ H Q) (hq : ∀ v H', Q v H' → Q' v H') : bA X es σ H Q' :=
  fun pos pins s I => thn (h pos pins s I) fun u s' ⟨v, H', I', r, q⟩ => ⟨v, H', I', r, hq _ _ q⟩
/-- a two-place operation on values -/
def b2 (X : Cx) (f : Value → Value → Sem Value) : R2 := fun x y H Q => ∀ pins s (σ : L2.St) v u, Inv X pins σ H s → RelV x v → RelV y u → wpAny (model X.prog X.w) X.A (f v u) (EP X pins σ Q) X.xe s
theorem op2b {f : Value → Value → Sem Value} : OpR X f (b2 X f) := fun pins s σ H x y v u Q I rx ry h => h pins s σ v u I rx ry
theorem b2.of {f : Value → Value → Sem Value} {r : R2} (h : OpR X f r) {x y : V} {H : Hp} {Q : VK} (q : r x y H Q) : b2 X f x y H Q := fun pins s σ v u I rx ry => h pins s σ H x y v u Q I rx ry q
theorem b2.mono {f : Value → Value → Sem Value} {x y : V} {H : Hp} {Q Q' : VK} (h : b2 X f x y H Q) (hq : ∀ v H', Q v H' → Q' v H') : b2 X f x y H Q' :=
  fun pins s σ v u I rx ry => thn (h pins s σ v u I rx ry) fun w s' ⟨z, H', I', r, q⟩ => ⟨z, H', I', r, hq _ _ q⟩
def b1 (X : Cx) (f : Value → Sem Value) : V → Hp → VK → Prop := fun x H Q => ∀ pins s (σ : L2.St) v, Inv X pins σ H s → RelV x v → wpAny (model X.prog X.w) X.A (f v) (EP X pins σ Q) X.xe s
theorem op1b {f : Value → Sem Value} : UnR X f (b1 X f) := fun pins s σ H x v Q I rx h => h pins s σ v I rx
theorem b1.of {f : Value → Sem Value} {r : V → Hp → VK → Prop} (h : UnR X f r) {x : V} {H : Hp} {Q : VK} (q : r x H Q) : b1 X f x H Q := fun pins s σ v I rx => h pins s σ H x v Q I rx q
/-- a call of a known value -/
def bC (X : Cx) (f : Value) : List V → Hp → VK → Prop := fun xs H Q => ∀ pins s (σ : L2.St) us, Inv X pins σ H s → Vals xs us → wpAny (model X.prog X.w) X.A (call f us) (EP X pins σ Q) X.xe s
theorem callb {f : Value} : CallR X f (bC X f) := fun pins s σ H vs us Q I r h => h pins s σ us I r
theorem bC.of {f : Value} {r : List V → Hp → VK → Prop} (h : CallR X f r) {xs : List V} {H : Hp} {Q : VK} (q : r xs H Q) : bC X f xs H Q := fun pins s σ us I rx => h pins s σ H xs us Q I rx q
/-- a subscript by values -/
def bIx (X : Cx) : R2 := fun x y H Q => ∀ (value slice : Expr) pins s (σ : L2.St) v u, Inv X pins σ H s → RelV x v → RelV y u → subscripted slice false v u = operate [v, u] (getItem v u) → wpAny (model X.prog X.w) X.A (subscriptTail value slice v u) (EP X pins σ Q) X.xe s
theorem ixb : IxR X (bIx X) := fun value slice pins s σ H x y v u Q I rx ry h hs => h value slice pins s σ v u I rx ry hs
theorem bIx.of {r : R2} (h : IxR X r) {x y : V} {H : Hp} {Q : VK} (q : r x y H Q) : bIx X x y H Q := fun value slice pins s σ v u I rx ry hs => h value slice pins s σ H x y v u Q I rx ry q hs
end

/-! ### ends -/
section
variable (Z : Fx)
def PostV (p : Pt) (z : Ev.D) : VK := fun v H' => ∃ p', p'.H = H' ∧ p'.S = p.S ∧ GoodP Z p' ∧ Ext p p' ∧ p'.R Z v z
def PostE (p : Pt) (r : Ev.R Ev.D) : VK := fun v H' => ∃ p' d, p'.H = H' ∧ r = .ok d p'.S ∧ GoodP Z p' ∧ Ext p p' ∧ p'.R Z v d
def PostEs (p : Pt) (r : Ev.R (List Ev.D)) : List V → Hp → Prop := fun vs H' => ∃ p' ds, p'.H = H' ∧ r = .ok ds p'.S ∧ GoodP Z p' ∧ Ext p p' ∧ p'.Rs Z vs ds
def PostT (p : Pt) (r : Ev.R Bool) : Bool → Hp → Prop := fun b H' => ∃ p', p'.H = H' ∧ r = .ok b p'.S ∧ GoodP Z p' ∧ Ext p p'
/-- a new list of nobody's -/
def PostL (p : Pt) (r : Ev.R (List Ev.D)) : VK := fun v H' => ∃ p' a vs ds, p'.H = H' ∧ r = .ok ds p'.S ∧ GoodP Z p' ∧ Ext p p' ∧ v = .ref a ∧ p'.H a = some (.lst vs) ∧ p'.Rs Z vs ds ∧ p'.G a = none ∧ a ∉ p'.th ∧ p.H a = none
/-- an operand: a value, or a list of the def's own -/
def RB (ρ : Ev.Env) (σ : L2.St) (p : Pt) (v : V) (d : Ev.D) : Prop := p.R Z v d ∨ ∃ i xs, ρ.get i = some (.l xs) ∧ sg σ i = some v ∧ d = .lst xs
def PostB (ρ : Ev.Env) (σ : L2.St) (p : Pt) (r : Ev.R Ev.D) : VK := fun v H' => ∃ p' d, p'.H = H' ∧ r = .ok d p'.S ∧ GoodP Z p' ∧ Ext p p' ∧ RB Z ρ σ p' v d
end

section
variable {Z : Fx} {X : Cx} {p q : Pt} {v u : V} {x y z : Ev.D} {E0 : Pt} {ρ : Ev.Env} {σ : L2.St}
theorem RB.step (h : RB Z ρ σ p v x) (e : Ext p q) : RB Z ρ σ q v x := by
  rcases h with h | h
  · exact .inl (h.mono e.g e.t)
  · exact .inr h
/-- a list by content: where it lies -/
theorem RB.lst {ds : List Ev.D} (h : RB Z ρ σ p v (.lst ds)) (s : SR Z E0 ρ σ p) : ∃ a vs, v = .ref a ∧ SqL Z.K p.H a vs ∧ p.Rs Z vs ds ∧ ((p.H a = some (.lst vs) ∧ a ∉ p.th) ∨ SqL Z.K p.G a vs) := by
  rcases h with h | ⟨i, xs, h1, h2, h3⟩
  · cases h with
    | lst q r => exact ⟨_, _, rfl, sqL_mono s.good.sub q, r, .inr q⟩
  · cases h3
    have sl := s.slot i
    rw [h1] at sl
    obtain ⟨a, vs, x1, x2, x3, _, x5⟩ := sl
    rw [h2] at x1
    cases x1
    exact ⟨a, vs, rfl, .of x2, x3, .inl ⟨x2, x5⟩⟩
theorem RB.tup {ds : List Ev.D} (h : RB Z ρ σ p v (.tup ds)) (s : SR Z E0 ρ σ p) : ∃ a vs, v = .ref a ∧ SqT Z.K p.H a vs ∧ SqT Z.K p.G a vs ∧ p.Rs Z vs ds := by
  rcases h with h | ⟨i, xs, h1, h2, h3⟩
  · cases h with
    | tup q r => exact ⟨_, _, rfl, sqT_mono s.good.sub q, q, r⟩
  · cases h3
theorem RB.val (h : RB Z ρ σ p v x) (hx : ∀ ds, x ≠ .lst ds) : p.R Z v x := by
  rcases h with h | ⟨i, xs, h1, h2, h3⟩
  · exact h
  · exact absurd h3 (hx xs)
theorem PostV.same (g : GoodP Z p) (r : p.R Z v z) : PostV Z p z v p.H := ⟨p, rfl, rfl, g, Ext.refl p, r⟩
/-- a new tuple -/
theorem PostV.newTup (g : GoodP Z p) {vs : List V} {ds : List Ev.D} (r : p.Rs Z vs ds) {a : Addr} (hn : p.H a = none) : PostV Z p (.tup ds) (.ref a) (upd p.H a (.tup vs)) := by
  obtain ⟨g2, e2⟩ := g.new (o := .tup vs) hn
  exact ⟨{ p with H := upd p.H a (.tup vs), G := upd p.G a (.tup vs) }, rfl, rfl, g2, e2, .tup (.of upd_same) (r.mono e2.g e2.t)⟩
theorem R_int (h : p.R Z v (.int i)) : v = .int i := by cases h; rfl
theorem R_bl (h : p.R Z v (.bl b)) : v = .bl b := by cases h; rfl
theorem R_str {s : List Nat} (h : p.R Z v (.str s)) : v = .str ⟨s.toArray⟩ := by cases h; rfl
theorem str_app (s t : List Nat) : (⟨s.toArray⟩ ++ ⟨t.toArray⟩ : Str) = ⟨(s ++ t).toArray⟩ := by
  show Str.mk (s.toArray ++ t.toArray) = _
  rw [List.append_toArray]
theorem str_len (s : List Nat) : (Str.mk s.toArray).length = s.length := by show s.toArray.size = _; simp
theorem str_list (s : List Nat) : (Str.mk s.toArray).cps.toList = s := by simp
theorem line_eq : Ev.line = sizeLine := by rw [sizeLine_eq]; rfl
theorem mulOk_ok {i j : Int} (h : Ev.mulOk i j = true) : CMul i j ∨ CMulW i j := by
  unfold Ev.mulOk at h
  rw [Bool.or_eq_true, Bool.or_eq_true] at h
  rcases h with (h | h) | h
  · exact .inl (.inl (of_decide_eq_true h))
  · exact .inl (.inr (of_decide_eq_true h))
  · exact .inr (show i.natAbs.log2 + j.natAbs.log2 < 1000000 from of_decide_eq_true h)
theorem bin_ok (o : Ev.Bop) (hK : X.K = Z.K) (h : Ev.binV o x y = some z) (g : GoodP Z p) (rx : p.R Z v x) (ry : p.R Z u y) : b2 X (binaryOp (opOf o)) v u p.H (PostV Z p z) := by
  cases o with
  | add =>
    replace h : Ev.addV x y = some z := h
    unfold Ev.addV at h
    split at h
    · cases h; cases rx; cases ry
      exact b2.of op_add ⟨_, _, rfl, rfl, .same g (.int _)⟩
    · split at h
      · rename_i hz
        cases h; cases rx; cases ry
        refine b2.of op_add_str ⟨_, _, rfl, rfl, ?_, ?_⟩
        · rw [str_len, str_len, ← line_eq]; exact hz
        · rw [str_app]; exact .same g (.str _)
      · cases h
    · split at h
      · rename_i hz
        cases h
        cases rx with
        | @tup a vs ds q1 r1 =>
          cases ry with
          | @tup b us es q2 r2 =>
            refine b2.of op_catA ⟨a, b, vs, us, rfl, rfl, by rw [hK]; exact sqT_mono g.sub q1, by rw [hK]; exact sqT_mono g.sub q2, by rw [r1.length, r2.length, ← line_eq]; exact hz, ?_⟩
            refine ⟨fun e => ?_, fun _ e => ?_, fun _ _ l hl => ?_⟩
            · subst e
              cases r1
              exact .same g (.tup q2 r2)
            · subst e
              cases r2
              rw [List.append_nil]
              exact .same g (.tup q1 r1)
            · exact .newTup g (r1.append r2) hl
      · cases h
    · cases h
  | sub =>
    replace h : Ev.subV x y = some z := h
    unfold Ev.subV at h
    split at h
    · cases h; cases rx; cases ry
      exact b2.of op_sub ⟨_, _, rfl, rfl, .same g (.int _)⟩
    · cases h
  | mul =>
    replace h : Ev.mulV x y = some z := h
    unfold Ev.mulV at h
    split at h
    · split at h
      · rename_i hz
        cases h; cases rx; cases ry
        rcases mulOk_ok hz with c | c
        · exact b2.of op_mul ⟨_, _, rfl, rfl, c, .same g (.int _)⟩
        · exact b2.of op_mulW ⟨_, _, rfl, rfl, c, .same g (.int _)⟩
      · cases h
    · cases h
  | fdiv =>
    replace h : Ev.fdivV x y = some z := h
    unfold Ev.fdivV at h
    split at h
    · split at h
      · rename_i hz
        cases h; cases rx; cases ry
        rw [Bool.and_eq_true] at hz
        exact b2.of op_fdivW ⟨_, _, rfl, rfl, ⟨of_decide_eq_true hz.1, of_decide_eq_true hz.2⟩, .same g (.int _)⟩
      · cases h
    · cases h
  | mod =>
    replace h : Ev.modV x y = some z := h
    unfold Ev.modV at h
    split at h
    · split at h
      · rename_i hz
        cases h; cases rx; cases ry
        exact b2.of op_mod ⟨_, _, rfl, rfl, hz, .same g (.int _)⟩
      · cases h
    · cases h
  | pow =>
    replace h : Ev.powV x y = some z := h
    unfold Ev.powV at h
    split at h
    · split at h
      · rename_i hz
        cases h; cases rx; cases ry
        rw [Bool.and_eq_true, Bool.and_eq_true] at hz
        exact b2.of op_pow ⟨_, _, rfl, rfl, ⟨of_decide_eq_true hz.1.1, of_decide_eq_true hz.1.2, of_decide_eq_true hz.2⟩, .same g (.int _)⟩
      · cases h
    · cases h
end

/-! ### == of data -/
mutual
def toPy : Ev.D → PyData
  | .non => .none
  | .bl b => .bool b
  | .int i => .int i
  | .str s => .str ⟨s.toArray⟩
  | .tup xs => .tuple (toPys xs)
  | .lst xs => .list (toPys xs)
  | .obj _ _ => .none
  | .dct _ => .none
  | .fn _ => .none
  | .ref _ => .none
def toPys : List Ev.D → List PyData
  | [] => []
  | x :: xs => toPy x :: toPys xs
end
mutual
theorem shp_py : ∀ (d : Ev.D) (n : Nat), Ev.shp d n = true → (toPy d).canLay0 = true ∧ (toPy d).depth ≤ n
  | .non, _, _ => ⟨rfl, Nat.zero_le _⟩
  | .bl _, _, _ => ⟨rfl, Nat.zero_le _⟩
  | .int _, _, _ => ⟨rfl, Nat.zero_le _⟩
  | .str s, n, h => by
    refine ⟨?_, Nat.zero_le _⟩
    have h' : s.all (· < 1114112) = true := h
    show PyData.strOk ⟨s.toArray⟩ = true
    unfold PyData.strOk
    rw [← h']
    simp
  | .tup xs, 0, h => by cases h
  | .tup xs, n + 1, h => by
    obtain ⟨a, b⟩ := shps_py xs n h
    exact ⟨a, Nat.succ_le_succ b⟩
  | .lst xs, 0, h => by cases h
  | .lst xs, n + 1, h => by
    obtain ⟨a, b⟩ := shps_py xs n h
    exact ⟨a, Nat.succ_le_succ b⟩
  | .obj _ _, _, h => by cases h
  | .dct _, _, h => by cases h
  | .fn _, _, h => by cases h
  | .ref _, _, h => by cases h
theorem shps_py : ∀ (ds : List Ev.D) (n : Nat), Ev.shpL ds n = true → PyData.canLayAll0 (toPys ds) = true ∧ PyData.depthAll (toPys ds) ≤ n
  | [], _, _ => ⟨rfl, Nat.zero_le _⟩
  | x :: xs, n, h => by
    have h' : (Ev.shp x n && Ev.shpL xs n) = true := h
    rw [Bool.and_eq_true] at h'
    obtain ⟨a, b⟩ := shp_py x n h'.1
    obtain ⟨c, d⟩ := shps_py xs n h'.2
    refine ⟨?_, ?_⟩
    · show (PyData.canLay0 (toPy x) && PyData.canLayAll0 (toPys xs)) = true
      rw [a, c]; rfl
    · show max (PyData.depth (toPy x)) (PyData.depthAll (toPys xs)) ≤ n
      exact Nat.max_le.mpr ⟨b, d⟩
end
mutual
theorem eqv_py : ∀ (d e : Ev.D) (n m : Nat), Ev.shp d n = true → Ev.shp e m = true → PyData.eqv (toPy d) (toPy e) = Ev.eqD d e
  | .non, e, n, m, h1, h2 => by cases e <;> first | rfl | cases h2
  | .bl _, e, n, m, h1, h2 => by cases e <;> first | rfl | cases h2
  | .int _, e, n, m, h1, h2 => by cases e <;> first | rfl | cases h2
  | .str x, e, n, m, h1, h2 => by
    cases e with
    | str y =>
      show ((⟨x.toArray⟩ : Str) == ⟨y.toArray⟩) = decide (x = y)
      by_cases z : x = y
      · subst z; simp
      · rw [decide_eq_false z, beq_eq_false_iff_ne]
        intro q
        injection q with q
        exact z (by simpa using congrArg Array.toList q)
    | _ => first | rfl | cases h2
  | .tup xs, e, n, m, h1, h2 => by
    cases n with
    | zero => cases h1
    | succ n =>
      cases e with
      | tup ys =>
        cases m with
        | zero => cases h2
        | succ m => exact eqvs_py xs ys n m h1 h2
      | _ => first | rfl | cases h2
  | .lst xs, e, n, m, h1, h2 => by
    cases n with
    | zero => cases h1
    | succ n =>
      cases e with
      | lst ys =>
        cases m with
        | zero => cases h2
        | succ m => exact eqvs_py xs ys n m h1 h2
      | _ => first | rfl | cases h2
  | .obj _ _, _, _, _, h, _ => by cases h
  | .dct _, _, _, _, h, _ => by cases h
  | .fn _, _, _, _, h, _ => by cases h
  | .ref _, _, _, _, h, _ => by cases h
theorem eqvs_py : ∀ (ds es : List Ev.D) (n m : Nat), Ev.shpL ds n = true → Ev.shpL es m = true → PyData.eqvAll (toPys ds) (toPys es) = Ev.eqL ds es
  | [], es, n, m, h1, h2 => by cases es <;> rfl
  | x :: xs, es, n, m, h1, h2 => by
    cases es with
    | nil => rfl
    | cons y ys =>
      have h1' : (Ev.shp x n && Ev.shpL xs n) = true := h1
      have h2' : (Ev.shp y m && Ev.shpL ys m) = true := h2
      rw [Bool.and_eq_true] at h1' h2'
      show (PyData.eqv (toPy x) (toPy y) && PyData.eqvAll (toPys xs) (toPys ys)) = (Ev.eqD x y && Ev.eqL xs ys)
      rw [eqv_py x y n m h1'.1 h2'.1, eqvs_py xs ys n m h1'.2 h2'.2]
end
mutual
theorem dp_of {Z : Fx} {th : List Addr} {G H : Hp} (hG : ∀ a o, G a = some o → H a = some o) : ∀ {v : V} {d : Ev.D} (n : Nat), Rep Z th G v d → Ev.shp d n = true → Dp Z.K H v (toPy d)
  | _, _, _, .non, _ => .non
  | _, _, _, .bl b, _ => .bl b
  | _, _, _, .int i, _ => .int i
  | _, _, _, .str s, _ => .str _
  | _, _, 0, .tup q r, h => by cases h
  | _, _, n + 1, .tup q r, h => .tup (sqT_mono hG q) (dps_of hG n r h)
  | _, _, 0, .lst q r, h => by cases h
  | _, _, n + 1, .lst q r, h => .lst (sqL_mono hG q) (dps_of hG n r h)
  | _, _, _, .obj _ _ _ _, h => by cases h
  | _, _, _, .fn _ _, h => by cases h
  | _, _, _, .ref _, h => by cases h
theorem dps_of {Z : Fx} {th : List Addr} {G H : Hp} (hG : ∀ a o, G a = some o → H a = some o) : ∀ {vs : List V} {ds : List Ev.D} (n : Nat), Reps Z th G vs ds → Ev.shpL ds n = true → DpAll Z.K H vs (toPys ds)
  | _, _, _, .nil, _ => .nil
  | _, x :: xs, n, .cons q r, h => by
    have h' : (Ev.shp x n && Ev.shpL xs n) = true := h
    rw [Bool.and_eq_true] at h'
    exact .cons (dp_of hG n q h'.1) (dps_of hG n r h'.2)
end
section
variable {Z : Fx} {X : Cx} {p q : Pt} {v u : V} {x y z : Ev.D} {E0 : Pt} {ρ : Ev.Env} {σ : L2.St}
theorem RB.dp (h : RB Z ρ σ p v x) (s : SR Z E0 ρ σ p) {n : Nat} (hs : Ev.shp x n = true) : Dp Z.K p.H v (toPy x) := by
  rcases h with h | ⟨i, xs, h1, h2, h3⟩
  · exact dp_of s.good.sub n h hs
  · subst h3
    cases n with
    | zero => cases hs
    | succ n =>
      obtain ⟨a, vs, rfl, q, r, _⟩ := RB.lst (.inr ⟨i, xs, h1, h2, rfl⟩) s
      exact .lst q (dps_of s.good.sub n r hs)
theorem flat_val (h : RB Z ρ σ p v x) (hf : Ev.flat x = true) : p.R Z v x := h.val fun ds e => by subst e; cases hf
theorem scal_of (rx : p.R Z v x) (ry : p.R Z u y) (h : (Ev.flat x && Ev.flat y && !Ev.mix x y) = true) : scal v u = true ∧ decide (v = u) = Ev.eqD x y := by
  cases rx <;> first | (cases h; done) | (cases ry <;> first | (cases h; done) | skip)
  all_goals first
    | exact ⟨rfl, rfl⟩
    | skip
  · exact ⟨rfl, dec_bl⟩
  · exact ⟨rfl, dec_int⟩
  · rename_i s t
    refine ⟨rfl, ?_⟩
    show decide (V.str ⟨s.toArray⟩ = V.str ⟨t.toArray⟩) = decide (s = t)
    by_cases z : s = t
    · subst z; simp
    · rw [decide_eq_false z, decide_eq_false]
      intro q
      injection q with q
      injection q with q
      exact z (by simpa using congrArg Array.toList q)
theorem eq_ok {k : Bool} (hK : X.K = Z.K) (hu : X.A.units + 64 < cLine) (h : Ev.eqV x y = some k) (s : SR Z E0 ρ σ p) (rx : RB Z ρ σ p v x) (ry : RB Z ρ σ p u y) :
    b2 X (compareOp .Eq) v u p.H (PostV Z p (.bl k)) ∧ b2 X (compareOp .NotEq) v u p.H (PostV Z p (.bl (!k))) := by
  unfold Ev.eqV at h
  split at h
  · rename_i hc
    cases h
    have hc' := hc
    rw [Bool.and_eq_true, Bool.and_eq_true] at hc
    obtain ⟨e1, e2⟩ := scal_of (flat_val rx hc.1.1) (flat_val ry hc.1.2) hc'
    exact ⟨b2.of op_eq ⟨e1, by rw [e2]; exact .same s.good (.bl _)⟩, b2.of op_ne ⟨e1, by rw [e2]; exact .same s.good (.bl _)⟩⟩
  · split at h
    · rename_i hc
      cases h
      rw [Bool.and_eq_true] at hc
      obtain ⟨a1, a2⟩ := shp_py x 60 hc.1
      obtain ⟨c1, c2⟩ := shp_py y 60 hc.2
      have d1 := rx.dp s hc.1
      have d2 := ry.dp s hc.2
      have s1 : SeqAt.shaped (toPy x) = true := by unfold SeqAt.shaped; rw [a1, decide_eq_true (by omega)]; rfl
      have s2 : SeqAt.shaped (toPy y) = true := by unfold SeqAt.shaped; rw [c1, decide_eq_true (by omega)]; rfl
      have e := eqv_py x y 60 60 hc.1 hc.2
      exact ⟨b2.of (op_eqD hu) ⟨_, _, by rw [hK]; exact d1, by rw [hK]; exact d2, s1, s2, by rw [e]; exact .same s.good (.bl _)⟩,
        b2.of (op_neD hu) ⟨_, _, by rw [hK]; exact d1, by rw [hK]; exact d2, s1, s2, by rw [e]; exact .same s.good (.bl _)⟩⟩
    · cases h
theorem flatV_of (rx : p.R Z v x) (h : Ev.flat x = true) : flatV v = true := by
  cases rx <;> first | rfl | cases h
theorem flatVs_of : ∀ {vs : List V} {ds : List Ev.D}, p.Rs Z vs ds → ds.all Ev.flat = true → vs.all flatV = true
  | _, _, .nil, _ => rfl
  | _, x :: xs, .cons q r, h => by
    rw [List.all_cons, Bool.and_eq_true] at h
    rw [List.all_cons, flatV_of q h.1, flatVs_of r h.2]; rfl
theorem eqV_of (rx : p.R Z v x) (ry : p.R Z u y) (h1 : Ev.flat x = true) (h2 : Ev.flat y = true) : L2.eqV v u = Ev.eqD x y := by
  cases rx <;> first | (cases h1; done) | (cases ry <;> first | (cases h2; done) | skip)
  all_goals first
    | rfl
    | skip
  rename_i s t
  show ((⟨s.toArray⟩ : Str) == ⟨t.toArray⟩) = decide (s = t)
  by_cases z : s = t
  · subst z; simp
  · rw [decide_eq_false z, beq_eq_false_iff_ne]
    intro q
    injection q with q
    exact z (by simpa using congrArg Array.toList q)
theorem inV_of (rx : p.R Z v x) (h1 : Ev.flat x = true) : ∀ {vs : List V} {ds : List Ev.D}, p.Rs Z vs ds → ds.all Ev.flat = true → L2.inV v vs = ds.any fun y => Ev.eqD y x
  | _, _, .nil, _ => rfl
  | _, y :: ys, .cons q r, h => by
    rw [List.all_cons, Bool.and_eq_true] at h
    unfold L2.inV
    rw [List.any_cons, List.any_cons, eqV_of q rx h.1 h1]
    have ih := inV_of rx h1 r h.2
    unfold L2.inV at ih
    rw [ih]
theorem in_ok {k : Bool} (hK : X.K = Z.K) (h : Ev.inV x y = some k) (s : SR Z E0 ρ σ p) (rx : RB Z ρ σ p v x) (ry : RB Z ρ σ p u y) :
    b2 X (compareOp .In) v u p.H (PostV Z p (.bl k)) ∧ b2 X (compareOp .NotIn) v u p.H (PostV Z p (.bl (!k))) := by
  have seq : ∀ {ds : List Ev.D} {a : Addr} {vs : List V}, Ev.inL x ds = some k → u = .ref a → (SqL X.K p.H a vs ∨ SqT X.K p.H a vs) → p.Rs Z vs ds →
      b2 X (compareOp .In) v u p.H (PostV Z p (.bl k)) ∧ b2 X (compareOp .NotIn) v u p.H (PostV Z p (.bl (!k))) := fun {ds a vs} h eu hq r => by
    subst eu
    unfold Ev.inL at h
    split at h
    · rename_i hc
      cases h
      rw [Bool.and_eq_true] at hc
      have rv := flat_val rx hc.1
      have f1 := flatV_of rv hc.1
      have f2 := flatVs_of r hc.2
      have e := inV_of rv hc.1 r hc.2
      exact ⟨b2.of op_in_seq ⟨a, vs, rfl, hq, f1, f2, by rw [if_neg Bool.false_ne_true, e]; exact .same s.good (.bl _)⟩,
        b2.of op_notIn_seq ⟨a, vs, rfl, hq, f1, f2, by rw [if_pos rfl, e]; exact .same s.good (.bl _)⟩⟩
    · cases h
  unfold Ev.inV at h
  split at h
  · obtain ⟨a, vs, e, q, r, _⟩ := ry.lst s
    exact seq h e (.inl (by rw [hK]; exact q)) r
  · obtain ⟨a, vs, e, q, _, r⟩ := ry.tup s
    exact seq h e (.inr (by rw [hK]; exact q)) r
  · split at h
    · cases h
      have e1 := R_str (rx.val fun _ z => by cases z)
      have e2 := R_str (ry.val fun _ z => by cases z)
      subst e1 e2
      exact ⟨b2.of op_in_sign ⟨_, _, rfl, rfl, by rw [str_list]; exact .same s.good (.bl _)⟩, b2.of op_notIn_sign ⟨_, _, rfl, rfl, by rw [str_list]; exact .same s.good (.bl _)⟩⟩
    · cases h
  · cases h
theorem cmp_ok (o : Ev.Cmp) {k : Bool} (hK : X.K = Z.K) (hu : X.A.units + 64 < cLine) (h : Ev.cmpV o x y = some k) (s : SR Z E0 ρ σ p) (rx : RB Z ρ σ p v x) (ry : RB Z ρ σ p u y) :
    b2 X (compareOp (cmpOf o)) v u p.H (PostV Z p (.bl k)) := by
  cases o with
  | lt =>
    replace h : Ev.ltV x y = some k := h
    unfold Ev.ltV at h
    split at h
    · cases h
      have e1 := R_int (rx.val fun _ z => by cases z)
      have e2 := R_int (ry.val fun _ z => by cases z)
      subst e1 e2
      exact b2.of op_lt ⟨_, _, rfl, rfl, .same s.good (.bl _)⟩
    · cases h
      have e1 := R_str (rx.val fun _ z => by cases z)
      have e2 := R_str (ry.val fun _ z => by cases z)
      subst e1 e2
      exact b2.of op_lt_str ⟨_, _, rfl, rfl, by rw [str_list, str_list]; exact .same s.good (.bl _)⟩
    · cases h
  | le =>
    replace h : Ev.leV x y = some k := h
    unfold Ev.leV at h
    split at h
    · cases h
      have e1 := R_int (rx.val fun _ z => by cases z)
      have e2 := R_int (ry.val fun _ z => by cases z)
      subst e1 e2
      exact b2.of op_le ⟨_, _, rfl, rfl, .same s.good (.bl _)⟩
    · cases h
      have e1 := R_str (rx.val fun _ z => by cases z)
      have e2 := R_str (ry.val fun _ z => by cases z)
      subst e1 e2
      exact b2.of op_le_str ⟨_, _, rfl, rfl, by rw [str_list, str_list]; exact .same s.good (.bl _)⟩
    · cases h
  | gt =>
    replace h : Ev.ltV y x = some k := h
    unfold Ev.ltV at h
    split at h
    · cases h
      have e1 := R_int (rx.val fun _ z => by cases z)
      have e2 := R_int (ry.val fun _ z => by cases z)
      subst e1 e2
      exact b2.of op_gt ⟨_, _, rfl, rfl, .same s.good (.bl _)⟩
    · cases h
      have e1 := R_str (rx.val fun _ z => by cases z)
      have e2 := R_str (ry.val fun _ z => by cases z)
      subst e1 e2
      exact b2.of op_gt_str ⟨_, _, rfl, rfl, by rw [str_list, str_list]; exact .same s.good (.bl _)⟩
    · cases h
  | ge =>
    replace h : Ev.leV y x = some k := h
    unfold Ev.leV at h
    split at h
    · cases h
      have e1 := R_int (rx.val fun _ z => by cases z)
      have e2 := R_int (ry.val fun _ z => by cases z)
      subst e1 e2
      exact b2.of op_ge ⟨_, _, rfl, rfl, .same s.good (.bl _)⟩
    · cases h
      have e1 := R_str (rx.val fun _ z => by cases z)
      have e2 := R_str (ry.val fun _ z => by cases z)
      subst e1 e2
      exact b2.of op_ge_str ⟨_, _, rfl, rfl, by rw [str_list, str_list]; exact .same s.good (.bl _)⟩
    · cases h
  | eq => exact (eq_ok hK hu h s rx ry).1
  | ne =>
    obtain ⟨b, h1, h2⟩ := Option.map_eq_some_iff.mp (show (Ev.eqV x y).map (!·) = some k from h)
    subst h2
    exact (eq_ok hK hu h1 s rx ry).2
  | inn => exact (in_ok hK h s rx ry).1
  | nin =>
    obtain ⟨b, h1, h2⟩ := Option.map_eq_some_iff.mp (show (Ev.inV x y).map (!·) = some k from h)
    subst h2
    exact (in_ok hK h1 s rx ry).2
end
end Snd

set_option Elab.async false
set_option linter.all false
set_option maxRecDepth 100000
/-! More operations on values. -/
namespace Snd
open PySem PySem.Spec PyProof.Rows L2
section
variable {Z : Fx} {X : Cx} {p q : Pt} {v u : V} {x y z : Ev.D} {E0 : Pt} {ρ : Ev.Env} {σ : L2.St}
theorem neg_ok (h : Ev.negV x = some z) (g : GoodP Z p) (rx : p.R Z v x) : b1 X (unaryOp .USub) v p.H (PostV Z p z) := by
  unfold Ev.negV at h
  split at h
  · cases h; cases rx
    exact b1.of un_neg ⟨_, rfl, .same g (.int _)⟩
  · cases h
theorem not_ok (h : Ev.notV x = some z) (g : GoodP Z p) (rx : p.R Z v x) : ∃ c, v = .bl c ∧ PostV Z p z (.bl (!c)) p.H := by
  unfold Ev.notV at h
  split at h
  · cases h; cases rx
    exact ⟨_, rfl, .same g (.bl _)⟩
  · cases h
theorem abs_ok (h : Ev.absV x = some z) (g : GoodP Z p) (rx : p.R Z v x) : bC X (.builtin "abs") [v] p.H (PostV Z p z) := by
  unfold Ev.absV at h
  split at h
  · cases h; cases rx
    exact bC.of call_abs ⟨_, rfl, .same g (.int _)⟩
  · cases h
theorem int_ok (h : Ev.intV x = some z) (g : GoodP Z p) (rx : p.R Z v x) : bC X (.type "int") [v] p.H (PostV Z p z) := by
  unfold Ev.intV at h
  split at h
  · cases h; cases rx
    exact bC.of call_int1 (.inl ⟨_, rfl, .same g (.int _)⟩)
  · cases h; cases rx
    exact bC.of call_int1 (.inr ⟨_, rfl, .same g (.int _)⟩)
  · cases h
theorem max_ok (hc : X.calm = true) (h : Ev.maxV x y = some z) (g : GoodP Z p) (rx : p.R Z v x) (ry : p.R Z u y) : bC X (.builtin "max") [v, u] p.H (PostV Z p z) := by
  unfold Ev.maxV at h
  split at h
  · cases h; cases rx; cases ry
    exact bC.of (call_max2 hc) ⟨_, _, rfl, .same g (.int _)⟩
  · cases h
theorem min_ok (hc : X.calm = true) (h : Ev.minV x y = some z) (g : GoodP Z p) (rx : p.R Z v x) (ry : p.R Z u y) : bC X (.builtin "min") [v, u] p.H (PostV Z p z) := by
  unfold Ev.minV at h
  split at h
  · cases h; cases rx; cases ry
    exact bC.of (call_min2 hc) ⟨_, _, rfl, .same g (.int _)⟩
  · cases h
theorem nonempty_of {vs : List V} {ds : List Ev.D} (r : p.Rs Z vs ds) : (!vs.isEmpty) = !ds.isEmpty := by cases r <;> rfl
theorem tru_ok' {k : Bool} (hK : X.K = Z.K) (h : Ev.truV x = some k) (s : SR Z E0 ρ σ p) (rx : RB Z ρ σ p v x) : TruV X.K v p.H k := by
  unfold Ev.truV at h
  split at h
  · cases h
    cases rx.val (fun _ z => by cases z)
    rfl
  · cases h
    cases rx.val (fun _ z => by cases z)
    rfl
  · cases h
    cases rx.val (fun _ z => by cases z)
    rfl
  · split at h
    · rename_i hz
      cases h
      cases rx.val (fun _ z => by cases z)
      refine ⟨by rw [str_len, ← line_eq]; exact hz, ?_⟩
      rw [str_len]
      rename_i s
      cases s <;> simp
      omega
    · cases h
  · cases h
    obtain ⟨a, vs, e, q, _, r⟩ := rx.tup s
    subst e
    exact .inr (.inl ⟨vs, by rw [hK]; exact q, (nonempty_of r).symm⟩)
  · cases h
    obtain ⟨a, vs, e, q, r, _⟩ := rx.lst s
    subst e
    exact .inl ⟨vs, by rw [hK]; exact q, (nonempty_of r).symm⟩
  · cases h
theorem len_ok (hK : X.K = Z.K) (h : Ev.lenV x = some z) (s : SR Z E0 ρ σ p) (rx : RB Z ρ σ p v x) : bC X (.builtin "len") [v] p.H (PostV Z p z) := by
  unfold Ev.lenV at h
  split at h
  · split at h
    · rename_i hz
      cases h
      cases rx.val (fun _ z => by cases z)
      exact bC.of call_len_str ⟨_, rfl, by rw [str_len, ← line_eq]; exact hz, by rw [str_len]; exact .same s.good (.int _)⟩
    · cases h
  · cases h
    obtain ⟨a, vs, e, q, _, r⟩ := rx.tup s
    subst e
    exact bC.of call_len_seq ⟨a, vs, rfl, .inr (by rw [hK]; exact q), by rw [r.length]; exact .same s.good (.int _)⟩
  · cases h
    obtain ⟨a, vs, e, q, r, _⟩ := rx.lst s
    subst e
    exact bC.of call_len_seq ⟨a, vs, rfl, .inl (by rw [hK]; exact q), by rw [r.length]; exact .same s.good (.int _)⟩
  · cases h
theorem ixN_eq (n : Nat) (i : Int) : Ev.ixN n i = L2.ixN n i := rfl
theorem atI_of {vs : List V} {ds : List Ev.D} {i : Int} {d : Ev.D} (r : p.Rs Z vs ds) (h : Ev.atI ds i = some d) : ∃ v, L2.atI vs i = some v ∧ p.R Z v d := by
  unfold Ev.atI at h
  obtain ⟨j, h1, h2⟩ := Option.bind_eq_some_iff.mp h
  obtain ⟨v, h3, h4⟩ := r.get h2
  refine ⟨v, ?_, h4⟩
  unfold L2.atI
  rw [r.length, ← ixN_eq, h1]
  exact h3
theorem idx_ok (hK : X.K = Z.K) (h : Ev.idxV x y = some z) (s : SR Z E0 ρ σ p) (rx : RB Z ρ σ p v x) (ry : p.R Z u y) : bIx X v u p.H (PostV Z p z) := by
  unfold Ev.idxV at h
  split at h
  · obtain ⟨a, vs, e, q, _, r⟩ := rx.tup s
    subst e; cases ry
    obtain ⟨w, h1, h2⟩ := atI_of r h
    exact bIx.of ix_tup ⟨a, vs, _, w, rfl, rfl, by rw [hK]; exact q, h1, .same s.good h2⟩
  · obtain ⟨a, vs, e, q, r, _⟩ := rx.lst s
    subst e; cases ry
    obtain ⟨w, h1, h2⟩ := atI_of r h
    exact bIx.of ix_list ⟨a, vs, _, w, rfl, rfl, by rw [hK]; exact q, h1, .same s.good h2⟩
  · split at h
    · rename_i hz
      obtain ⟨c, h1, h2⟩ := Option.map_eq_some_iff.mp h
      subst h2
      have e1 := R_str (rx.val fun _ z => by cases z)
      subst e1; cases ry
      exact bIx.of ix_str ⟨_, _, c, rfl, rfl, by rw [str_len, ← line_eq]; exact hz, by rw [str_list]; exact h1, .same s.good (.str [c])⟩
    · cases h
  · cases h
theorem sIx_eq (n d : Nat) (o : Option Int) : Ev.sIx n d o = HT.sIx n d o := by
  cases o with
  | none => rfl
  | some i => rfl
theorem cut_of {vs : List V} {ds : List Ev.D} (lo hi : Option Int) (r : p.Rs Z vs ds) : p.Rs Z (L2.cutV vs lo hi) (Ev.cutL ds lo hi) := by
  unfold L2.cutV Ev.cutL
  rw [← sIx_eq, ← sIx_eq, r.length]
  exact (r.drop _).take _
/-- a slice of a text or a tuple -/
theorem slice_ok (hK : X.K = Z.K) {lo hi : Option Int} (h : Ev.cutV x lo hi = some z) (g : GoodP Z p) (rx : p.R Z v x) : rSlS v lo hi p.H (PostV Z p z) ∨ rSlA X.K v lo hi p.H (PostV Z p z) := by
  unfold Ev.cutV at h
  split at h
  · cases h
    rename_i ds
    cases rx with
    | @tup a vs _ q r =>
      refine .inr ⟨a, vs, rfl, by rw [hK]; exact sqT_mono g.sub q, fun w => ?_, fun _ l hl => .newTup g (cut_of lo hi r) hl⟩
      have e : Ev.cutL ds lo hi = ds := by
        unfold Ev.cutL
        rw [sIx_eq, sIx_eq, ← r.length, w.1, w.2, List.drop_zero, Nat.sub_zero, r.length, List.take_length]
      rw [e]
      exact .same g (.tup q r)
  · split at h
    · rename_i hz
      cases h
      cases rx
      rename_i s
      refine .inl ⟨_, rfl, by rw [str_len, ← line_eq]; exact hz, ?_⟩
      have e : L2.cutS ⟨s.toArray⟩ lo hi = ⟨(Ev.cutL s lo hi).toArray⟩ := by
        unfold L2.cutS Ev.cutL
        rw [str_list, str_len, sIx_eq, sIx_eq]
      rw [e]
      exact .same g (.str _)
    · cases h
  · cases h
/-! ### new lists -/
theorem PostL.new (g : GoodP Z p) {vs : List V} {ds : List Ev.D} (r : p.Rs Z vs ds) {a : Addr} (hn : p.H a = none) : PostL Z p (.ok ds p.S) (.ref a) (upd p.H a (.lst vs)) := by
  obtain ⟨g2, e2⟩ := g.own (o := .lst vs) hn
  have gn : p.G a = none := by
    cases e : p.G a with
    | none => rfl
    | some w => rw [g.sub _ _ e] at hn; cases hn
  have tn : a ∉ p.th := fun m => by
    obtain ⟨w, hw⟩ := g.there m
    rw [hn] at hw; cases hw
  exact ⟨{ p with H := upd p.H a (.lst vs) }, a, vs, ds, rfl, rfl, g2, e2, rfl, upd_same, r, gn, tn, hn⟩
theorem cat_ok (hK : X.K = Z.K) {xs ys : List Ev.D} (hz : xs.length + ys.length ≤ Ev.line) (s : SR Z E0 ρ σ p) (rx : RB Z ρ σ p v (.lst xs)) (ry : RB Z ρ σ p u (.lst ys)) :
    b2 X (binaryOp .Add) v u p.H (PostL Z p (.ok (xs ++ ys) p.S)) := by
  obtain ⟨a, vs, e, q, r, _⟩ := rx.lst s
  obtain ⟨b, us, e', q', r', _⟩ := ry.lst s
  subst e e'
  intro pins s0 σ0 v0 u0 I r1 r2
  cases r1; cases r2
  rw [← hK] at q q'
  obtain ⟨its, t1, pl, z1⟩ := I.list q
  obtain ⟨its2, t2, pl2, z2⟩ := I.list q'
  obtain ⟨⟨cls, dd, data, sl⟩, ho, hc, n, hd⟩ := pl.isList
  obtain ⟨⟨cls2, dd2, data2, sl2⟩, ho2, hc2, n2, hd2⟩ := pl2.isList
  simp only at hc hd hc2 hd2
  subst hc hd hc2 hd2
  have l1 : its.length = xs.length := t1.length.symm.trans r.length
  have l2 : its2.length = ys.length := t2.length.symm.trans r'.length
  have hz' : its.length + its2.length ≤ sizeLine := by rw [l1, l2, ← line_eq]; exact hz
  have e : its.toArray ++ its2.toArray = (its ++ its2).toArray := by simp
  refine concat_meets ⟨_, ho, rfl⟩ ⟨_, ho2, rfl⟩ noFill_list_add seq_list_add PySem.F.slot_list_add PySem.F.entry_list_add (PySem.F.args_list_add_2 _ _) (list_addW a b its.toArray its2.toArray n n2 dd dd2 sl sl2 (by simpa using hz')) ⟨ho, ho2, ?_⟩
  rw [e]
  exact ⟨.ref _, _, I.lnew (t' := s0.toks) (t1.append t2) (by rw [List.length_append, t1.length, t2.length]; exact hz'), rfl, .new s.good (r.append r') I.fresh⟩
theorem lof_ok (hK : X.K = Z.K) {xs : List Ev.D} (h : Ev.seqV x = some xs) (s : SR Z E0 ρ σ p) (rx : RB Z ρ σ p v x) : bC X (.type "list") [v] p.H (PostL Z p (.ok xs p.S)) := by
  unfold Ev.seqV at h
  split at h
  · cases h
    obtain ⟨a, vs, e, q, _, r⟩ := rx.tup s
    subst e
    exact bC.of call_list_of ⟨a, vs, rfl, .inr (by rw [hK]; exact q), fun l hl => .new s.good r hl⟩
  · cases h
    obtain ⟨a, vs, e, q, r, _⟩ := rx.lst s
    subst e
    exact bC.of call_list_of ⟨a, vs, rfl, .inl (by rw [hK]; exact q), fun l hl => .new s.good r hl⟩
  · cases h
theorem tupof_ok (hK : X.K = Z.K) (h : (Ev.seqV x).map .tup = some z) (s : SR Z E0 ρ σ p) (rx : RB Z ρ σ p v x) : bC X (.type "tuple") [v] p.H (PostV Z p z) := by
  obtain ⟨xs, h, e0⟩ := Option.map_eq_some_iff.mp h
  subst e0
  unfold Ev.seqV at h
  split at h
  · cases h
    obtain ⟨a, vs, e, q, q2, r⟩ := rx.tup s
    subst e
    exact bC.of call_tuple_of ⟨a, vs, rfl, .inr ⟨by rw [hK]; exact q, .same s.good (.tup q2 r)⟩⟩
  · cases h
    obtain ⟨a, vs, e, q, r, _⟩ := rx.lst s
    subst e
    exact bC.of call_tuple_of ⟨a, vs, rfl, .inl ⟨by rw [hK]; exact q, fun l hl => .newTup s.good r hl⟩⟩
  · cases h
theorem ints_of : ∀ {ds : List Ev.D} {ns : List Int} {vs : List V}, Ev.intsOf ds = some ns → p.Rs Z vs ds → vs = ns.map V.int ∧ ds = ns.map Ev.D.int
  | [], ns, vs, h, r => by
    cases h; cases r; exact ⟨rfl, rfl⟩
  | d :: ds, ns, vs, h, r => by
    unfold Ev.intsOf at h
    split at h
    · rename_i i m h1 h2
      cases h
      cases r with
      | cons q r =>
        obtain ⟨e1, e2⟩ := ints_of h2 r
        unfold Ev.intOf at h1
        split at h1
        · cases h1; cases q
          exact ⟨by rw [e1]; rfl, by rw [e2]; rfl⟩
        · cases h1
    · cases h
theorem sum_ok (hK : X.K = Z.K) (hc : X.calm = true) (h : Ev.sumV x = some z) (s : SR Z E0 ρ σ p) (rx : RB Z ρ σ p v x) : bC X (.builtin "sum") [v] p.H (PostV Z p z) := by
  unfold Ev.sumV at h
  split at h
  · obtain ⟨ns, h1, h2⟩ := Option.map_eq_some_iff.mp h
    subst h2
    obtain ⟨a, vs, e, q, r, _⟩ := rx.lst s
    subst e
    obtain ⟨e1, _⟩ := ints_of h1 r
    subst e1
    exact bC.of (cr_sum hc) ⟨a, ns, rfl, by rw [hK]; exact q, .same s.good (.int _)⟩
  · cases h
theorem maxI_spec : ∀ (ns : List Int) (x : Int), x ∈ x :: ns → (Ev.maxI (x :: ns) ∈ x :: ns ∧ ∀ y ∈ x :: ns, y ≤ Ev.maxI (x :: ns)) := by
  have core : ∀ (ns : List Int) (x : Int), (ns.foldl (fun a b => if b > a then b else a) x = x ∨ ns.foldl (fun a b => if b > a then b else a) x ∈ ns) ∧ x ≤ ns.foldl (fun a b => if b > a then b else a) x ∧ ∀ y ∈ ns, y ≤ ns.foldl (fun a b => if b > a then b else a) x := by
    intro ns
    induction ns with
    | nil => intro x; exact ⟨.inl rfl, Int.le_refl _, fun _ h => by cases h⟩
    | cons n ns ih =>
      intro x
      obtain ⟨h1, h2, h3⟩ := ih (if n > x then n else x)
      rw [List.foldl_cons]
      refine ⟨?_, ?_, fun y hy => ?_⟩
      · rcases h1 with h1 | h1
        · rw [h1]
          split
          · exact .inr (List.mem_cons_self)
          · exact .inl rfl
        · exact .inr (List.mem_cons_of_mem _ h1)
      · refine Int.le_trans ?_ h2
        split <;> omega
      · rcases List.mem_cons.mp hy with rfl | hy
        · refine Int.le_trans ?_ h2
          split <;> omega
        · exact h3 y hy
  intro ns x _
  obtain ⟨h1, h2, h3⟩ := core ns x
  refine ⟨?_, fun y hy => ?_⟩
  · rcases h1 with h1 | h1
    · show ns.foldl _ x ∈ _
      rw [h1]; exact List.mem_cons_self
    · exact List.mem_cons_of_mem _ h1
  · rcases List.mem_cons.mp hy with rfl | hy
    · exact h2
    · exact h3 y hy
theorem minI_spec : ∀ (ns : List Int) (x : Int), (Ev.minI (x :: ns) ∈ x :: ns ∧ ∀ y ∈ x :: ns, Ev.minI (x :: ns) ≤ y) := by
  have core : ∀ (ns : List Int) (x : Int), (ns.foldl (fun a b => if b < a then b else a) x = x ∨ ns.foldl (fun a b => if b < a then b else a) x ∈ ns) ∧ ns.foldl (fun a b => if b < a then b else a) x ≤ x ∧ ∀ y ∈ ns, ns.foldl (fun a b => if b < a then b else a) x ≤ y := by
    intro ns
    induction ns with
    | nil => intro x; exact ⟨.inl rfl, Int.le_refl _, fun _ h => by cases h⟩
    | cons n ns ih =>
      intro x
      obtain ⟨h1, h2, h3⟩ := ih (if n < x then n else x)
      rw [List.foldl_cons]
      refine ⟨?_, ?_, fun y hy => ?_⟩
      · rcases h1 with h1 | h1
        · rw [h1]
          split
          · exact .inr (List.mem_cons_self)
          · exact .inl rfl
        · exact .inr (List.mem_cons_of_mem _ h1)
      · refine Int.le_trans h2 ?_
        split <;> omega
      · rcases List.mem_cons.mp hy with rfl | hy
        · refine Int.le_trans h2 ?_
          split <;> omega
        · exact h3 y hy
  intro ns x
  obtain ⟨h1, h2, h3⟩ := core ns x
  refine ⟨?_, fun y hy => ?_⟩
  · rcases h1 with h1 | h1
    · show ns.foldl _ x ∈ _
      rw [h1]; exact List.mem_cons_self
    · exact List.mem_cons_of_mem _ h1
  · rcases List.mem_cons.mp hy with rfl | hy
    · exact h2
    · exact h3 y hy
theorem maxI_uniq {ns : List Int} {x m : Int} (h1 : m ∈ x :: ns) (h2 : ∀ y ∈ x :: ns, y ≤ m) : m = Ev.maxI (x :: ns) := by
  obtain ⟨a, b⟩ := maxI_spec ns x List.mem_cons_self
  have := b m h1
  have := h2 _ a
  omega
theorem minI_uniq {ns : List Int} {x m : Int} (h1 : m ∈ x :: ns) (h2 : ∀ y ∈ x :: ns, m ≤ y) : m = Ev.minI (x :: ns) := by
  obtain ⟨a, b⟩ := minI_spec ns x
  have := b m h1
  have := h2 _ a
  omega
theorem maxL_ok (hK : X.K = Z.K) (hc : X.calm = true) (h : Ev.maxLV x = some z) (s : SR Z E0 ρ σ p) (rx : RB Z ρ σ p v x) : bC X (.builtin "max") [v] p.H (PostV Z p z) := by
  unfold Ev.maxLV at h
  split at h
  · obtain ⟨ns, h1, h2⟩ := Option.map_eq_some_iff.mp h
    subst h2
    obtain ⟨a, vs, e, q, r, _⟩ := rx.lst s
    subst e
    obtain ⟨e1, e2⟩ := ints_of h1 r
    subst e1
    cases ns with
    | nil => cases e2
    | cons n ns => exact bC.of (cr_max hc) ⟨a, n :: ns, rfl, by rw [hK]; exact q, by simp, fun m hm hle => by rw [maxI_uniq hm hle]; exact .same s.good (.int _)⟩
  · cases h
theorem minL_ok (hK : X.K = Z.K) (hc : X.calm = true) (h : Ev.minLV x = some z) (s : SR Z E0 ρ σ p) (rx : RB Z ρ σ p v x) : bC X (.builtin "min") [v] p.H (PostV Z p z) := by
  unfold Ev.minLV at h
  split at h
  · obtain ⟨ns, h1, h2⟩ := Option.map_eq_some_iff.mp h
    subst h2
    obtain ⟨a, vs, e, q, r, _⟩ := rx.lst s
    subst e
    obtain ⟨e1, e2⟩ := ints_of h1 r
    subst e1
    cases ns with
    | nil => cases e2
    | cons n ns => exact bC.of (cr_min hc) ⟨a, n :: ns, rfl, by rw [hK]; exact q, by simp, fun m hm hle => by rw [minI_uniq hm hle]; exact .same s.good (.int _)⟩
  · cases h
/-! ### sorting -/
theorem ins_perm {α : Type} (lt : α → α → Bool) (x : α) : ∀ l : List α, (Ev.ins lt x l).Perm (x :: l)
  | [] => List.Perm.refl _
  | y :: ys => by
    unfold Ev.ins
    split
    · exact ((ins_perm lt x ys).cons y).trans (List.Perm.swap x y ys)
    · exact List.Perm.refl _
theorem sortBy_perm {α : Type} (lt : α → α → Bool) : ∀ l : List α, (Ev.sortBy lt l).Perm l
  | [] => List.Perm.refl _
  | x :: xs => (ins_perm lt x _).trans ((sortBy_perm lt xs).cons x)
theorem ins_sorted {α : Type} {lt : α → α → Bool} (as : ∀ x y, lt x y = true → lt y x = false) (tr : ∀ x y z, lt y x = false → lt z y = false → lt z x = false) (x : α) :
    ∀ {l : List α}, l.Pairwise (fun a b => lt b a = false) → (Ev.ins lt x l).Pairwise (fun a b => lt b a = false)
  | [], _ => List.pairwise_singleton _ _
  | y :: ys, h => by
    obtain ⟨h1, h2⟩ := List.pairwise_cons.mp h
    unfold Ev.ins
    split
    · rename_i c
      refine List.pairwise_cons.mpr ⟨fun z hz => ?_, ins_sorted as tr x h2⟩
      rcases List.mem_cons.mp ((ins_perm lt x ys).mem_iff.mp hz) with rfl | hz
      · exact as _ _ c
      · exact h1 z hz
    · rename_i c
      have c' : lt y x = false := by simpa using c
      refine List.pairwise_cons.mpr ⟨fun z hz => ?_, h⟩
      rcases List.mem_cons.mp hz with rfl | hz
      · exact c'
      · exact tr _ _ _ c' (h1 z hz)
theorem sortBy_sorted {α : Type} {lt : α → α → Bool} (as : ∀ x y, lt x y = true → lt y x = false) (tr : ∀ x y z, lt y x = false → lt z y = false → lt z x = false) :
    ∀ l : List α, (Ev.sortBy lt l).Pairwise (fun a b => lt b a = false)
  | [] => .nil
  | x :: xs => ins_sorted as tr x (sortBy_sorted as tr xs)
theorem sort_ints {ns ms : List Int} (h : ms.Perm ns) (hs : ms.Pairwise (· ≤ ·)) : ms = Ev.sortBy (fun a b => decide (a < b)) ns := by
  refine PySem.W.ksm_same (h.trans (sortBy_perm _ ns).symm) hs ?_
  refine (sortBy_sorted (lt := fun a b : Int => decide (a < b)) (fun x y q => ?_) (fun x y z q1 q2 => ?_) ns).imp fun q => ?_
  · simp at q ⊢; omega
  · simp at q1 q2 ⊢; omega
  · simp at q; omega
theorem ltPair_lex (a b : Int × Int) : Ev.ltPair a b = SrtO.lexB a b := by
  unfold Ev.ltPair SrtO.lexB
  by_cases h : a.1 = b.1
  · rw [if_pos h, decide_eq_true h, decide_eq_false (by omega)]; simp
  · rw [if_neg h, decide_eq_false h]; simp
theorem sort_pairs {ns ms : List (Int × Int)} (h : ms.Perm ns) (hs : ms.Pairwise (fun a b => SrtO.lexB b a = false)) : ms = Ev.sortBy Ev.ltPair ns := by
  refine (h.trans (sortBy_perm Ev.ltPair ns).symm).eq_of_pairwise (fun x y _ _ h1 h2 => ?_) hs ?_
  · have a := SrtO.lexB_no.mp h1
    have b := SrtO.lexB_no.mp h2
    obtain ⟨x1, x2⟩ := x
    obtain ⟨y1, y2⟩ := y
    simp only at a b
    have e1 : x1 = y1 := by omega
    have e2 : x2 = y2 := by omega
    rw [e1, e2]
  · refine (sortBy_sorted (lt := Ev.ltPair) (fun x y q => ?_) (fun x y z q1 q2 => ?_) ns).imp fun q => ?_
    · rw [ltPair_lex] at q ⊢
      have a := SrtO.lexB_iff.mp q
      exact SrtO.lexB_no.mpr (by omega)
    · rw [ltPair_lex] at q1 q2 ⊢
      have a := SrtO.lexB_no.mp q1
      have b := SrtO.lexB_no.mp q2
      exact SrtO.lexB_no.mpr (by omega)
    · rw [ltPair_lex] at q; exact q
def heapPair (h : Heap) : Value → Int × Int
  | .ref a => match h.get? a with
    | some o => match o.data with
      | .seq its _ => match its.toList with
        | [.int i _, .int j _] => (i, j)
        | _ => (0, 0)
      | _ => (0, 0)
    | none => (0, 0)
  | _ => (0, 0)
theorem pairs_of {pins : List (Addr × Obj)} {σ0 : L2.St} {s0 : Shared} (hK : X.K = Z.K) (g : GoodP Z p) (I : Inv X pins σ0 p.H s0) : ∀ {ds : List Ev.D} {ns : List (Int × Int)} {vs : List V} {its : List Value}, Ev.pairsOf ds = some ns → p.Rs Z vs ds → Vals vs its →
    its.map (heapPair s0.heap) = ns ∧ ∀ w ∈ its, ∃ a, w = .ref a ∧ Srt.IsPair s0.heap w (heapPair s0.heap w).1 (heapPair s0.heap w).2 ∧ p.R Z (.ref a) (Ev.pairD (heapPair s0.heap w))
  | [], ns, vs, its, h, r, rv => by
    cases h; cases r; cases rv
    exact ⟨rfl, fun w hw => by cases hw⟩
  | d :: ds, ns, vs, its, h, r, rv => by
    unfold Ev.pairsOf at h
    split at h
    · rename_i i m h1 h2
      cases h
      cases r with
      | cons q r =>
        cases rv with
        | cons rw1 rv =>
          obtain ⟨e1, e2⟩ := pairs_of hK g I h2 r rv
          unfold Ev.pairOf at h1
          split at h1
          · rename_i a b
            cases h1
            have qq := q
            cases q with
            | tup sq rr =>
              cases rr with
              | cons qa rr =>
                cases rr with
                | cons qb rr =>
                  cases rr
                  cases qa; cases qb
                  cases rw1
                  rename_i t
                  have sq' := sqT_mono g.sub sq
                  rw [← hK] at sq'
                  obtain ⟨jts, rj, ⟨o, ho, hc, n, hd⟩, _⟩ := I.tuple sq'
                  obtain ⟨u1, u2, rfl, r1, r2⟩ := vals2 rj
                  obtain ⟨t1, rfl⟩ := r1
                  obtain ⟨t2, rfl⟩ := r2
                  have hp : heapPair s0.heap (.ref t) = (a, b) := by
                    unfold heapPair
                    simp only [ho, hd]
                  refine ⟨by rw [List.map_cons, hp, e1], fun w hw => ?_⟩
                  rcases List.mem_cons.mp hw with rfl | hw
                  · refine ⟨t, rfl, ?_, ?_⟩
                    · rw [hp]; exact ⟨t, o, t1, t2, n, rfl, ho, hc, hd⟩
                    · rw [hp]; exact qq
                  · exact e2 w hw
          · cases h1
    · cases h
theorem reps_pairs {pins : List (Addr × Obj)} {f : Value → Int × Int} : ∀ {out : List Value}, (∀ w ∈ out, ∃ a, w = .ref a ∧ p.R Z (.ref a) (Ev.pairD (f w))) → p.Rs Z (out.map backV) ((out.map f).map Ev.pairD)
  | [], _ => .nil
  | w :: ws, h => by
    obtain ⟨a, e, r⟩ := h w List.mem_cons_self
    refine .cons ?_ (reps_pairs (pins := pins) fun u hu => h u (List.mem_cons_of_mem _ hu))
    rw [e] at r ⊢
    exact r
theorem reps_ints : ∀ (ns : List Int), p.Rs Z (ns.map V.int) (ns.map Ev.D.int)
  | [] => .nil
  | n :: ns => .cons (.int n) (reps_ints ns)
theorem sorted_ok (hK : X.K = Z.K) {xs : List Ev.D} (h : Ev.sortedV x = some xs) (s : SR Z E0 ρ σ p) (rx : RB Z ρ σ p v x) : bC X (.builtin "sorted") [v] p.H (PostL Z p (.ok xs p.S)) := by
  unfold Ev.sortedV at h
  split at h
  · obtain ⟨a, vs, e, q, r, _⟩ := rx.lst s
    subst e
    split at h
    · rename_i ns h1
      cases h
      obtain ⟨e1, _⟩ := ints_of h1 r
      subst e1
      refine bC.of cr_sortedI ⟨a, ns, rfl, by rw [hK]; exact q, fun ms l hp hs hl => ?_⟩
      rw [← sort_ints hp hs]
      exact .new s.good (reps_ints ms) hl
    · split at h
      · rename_i ns h1
        cases h
        intro pins s0 σ0 us I rv
        obtain ⟨u0, rfl, ru⟩ := vals1 rv
        cases ru
        rw [← hK] at q
        obtain ⟨its, rits, hl, hz⟩ := I.list q
        obtain ⟨e1, e2⟩ := pairs_of hK s.good I h1 r rits
        refine SrtO.sorted_pairsO (k := heapPair s0.heap) hl.isList (by rw [← rits.length]; exact hz) (fun w hw => ?_) fun h' d out h2 h3 kp hd hn => ?_
        · obtain ⟨a', e', p1, _⟩ := e2 w hw
          exact p1
        · obtain ⟨n, hn⟩ := hn
          have ho : ∀ w ∈ out, ∃ a, w = Value.ref a ∧ p.R Z (.ref a) (Ev.pairD (heapPair s0.heap w)) := fun w hw => by
            obtain ⟨a', e', _, p2⟩ := e2 w (h3.perm.mem_iff.mp hw)
            exact ⟨a', e', p2⟩
          have hm : out.map (heapPair s0.heap) = Ev.sortBy Ev.ltPair ns := by
            refine sort_pairs ?_ ?_
            · rw [← e1]; exact h3.perm.map _
            · exact List.pairwise_map.mpr h2
          have rr := reps_pairs (pins := pins) ho
          rw [hm] at rr
          have fr : p.H d = none := I.hok.fresh hd
          refine ⟨.ref d, upd p.H d (.lst (out.map backV)), I.laid (t' := s0.toks) kp hd ⟨?_, out, n, vals_back fun w hw => ?_, hn⟩, rfl, .new s.good rr fr⟩
          · rw [List.length_map, h3.perm.length_eq, ← rits.length]; exact hz
          · obtain ⟨a', e', _⟩ := ho w hw
            exact ⟨a', e'⟩
      · cases h
  · cases h
end
end Snd

set_option Elab.async false
set_option linter.all false
set_option maxRecDepth 100000
/-! The syntax's side conditions; calls. -/
namespace Snd
open PySem PySem.Spec PyProof.Rows L2

/-! ### forms -/
theorem star1 {e : Expr} (h : plain e = true) (es : List Expr) (env : Env) : starEach (e :: es) env = (false, eval e env) :: starEach es env := by
  cases e <;> first | rfl | cases h
theorem marks {e : Expr} (h : plain e = true) (op : CmpOp) : behindInMarks op e = false := by
  cases e <;> first | rfl | cases h
theorem folded {e : Expr} (h : plain e = true) (env : Env) (x : Value) : foldedSetIterable e env x = pure x := by
  cases e <;> first | rfl | cases h
theorem plainIx {e : Expr} (h : plain e = true) : PlainIx e := fun o i => by
  cases e <;> first | rfl | cases h
theorem isT {e : Expr} (h : plainT e = true) (env : Env) (whole : Sem Value) : isTrue e env whole = (do let v ← whole; standAt e.pos; holding [v] (truthy v)) := by
  cases e <;> first | rfl | cases h
theorem abase {e : Expr} (h : abOk e = true) (m : Str) (env : Env) : attributeBase e m env (eval e env) = eval e env := by
  cases e with
  | Call f args kws pos =>
    cases args with
    | nil => cases h
    | cons a as => cases f <;> rfl
  | _ => first | rfl | cases h
theorem plains_all {es : List Expr} (h : ∀ e ∈ es, plain e = true) (pos : Pos) (env : Env) : (backTo pos (starEach es env)).all (fun x => !x.1) = true := by
  induction es with
  | nil => rfl
  | cons e es ih =>
    rw [star1 (h e List.mem_cons_self)]
    show (true && (backTo pos (starEach es env)).all (fun x => !x.1)) = true
    rw [ih fun x hx => h x (List.mem_cons_of_mem _ hx)]; rfl
theorem mb_ab {o : Expr} (h : mbOk o = true) : abOk o = true := by
  cases o <;> first | rfl | cases h
theorem mcall {o : Expr} (h : mbOk o = true) {m : Str} {apos pos : Pos} {es : List Expr} {env : Env} (he : ∀ e ∈ es, plain e = true) (hl : es.length < 30) (hp : (apos.endLine == pos.line) = true) : ∃ pl : Sem Bool, eval (.Call (.Attribute o m apos) es [] pos) env = (do
      let ov ← eval o env
      standAt apos.atName
      let (f, first) ← holding [ov] (getMethod ov m pl)
      callWith pos f first (backTo pos (starEach es env)) (backToKw pos (keywordEach [] env))) := by
  have hform : methodCallForm (es.length + ([] : List Keyword).length) (backTo pos (starEach es env)) (backToKw pos (keywordEach [] env)) = true := by
    unfold methodCallForm
    rw [plains_all he]
    have : decide (es.length + ([] : List Keyword).length + 0 < 30) = true := decide_eq_true (by simpa using hl)
    exact this
  refine ⟨do return (← importBound o env).getD true, ?_⟩
  have e1 : eval (.Call (.Attribute o m apos) es [] pos) env = (do
    let ov ← attributeBase o m env (eval o env)
    standAt apos.atName
    methodCall o m apos pos env ov (es.length + ([] : List Keyword).length) (backTo pos (starEach es env)) (backToKw pos (keywordEach [] env))) := rfl
  rw [e1, abase (mb_ab h)]
  unfold methodCall
  rw [hform]
  have e2 : methodCallPos true o env apos pos = pure pos := by
    unfold methodCallPos
    rw [hp]; rfl
  rw [e2]
  simp only [pure_bind]
  rfl
theorem noSwap {e : Expr} (h : noLc e = true) (hp : plain e = true) (t : Option Expr) (l : Nat) (env : Env) : swapsWith e t l env = pure false := by
  cases e <;> first | (cases hp; done) | (cases h; done) | rfl
section
variable {nm : Nm} {N : List Str}
mutual
theorem plainE : ∀ {t : Ev.E} {sc : Scope} {e : Expr}, chkE nm N t sc e = true → plain e = true
  | .frz l, sc, e, h => plainL (t := l) (sc := sc) h
  | .var _, _, _, h => by unfold chkE at h; split at h <;> first | rfl | cases h
  | .int _, _, _, h => by unfold chkE at h; split at h <;> first | rfl | cases h
  | .str _, _, _, h => by unfold chkE at h; split at h <;> first | rfl | cases h
  | .bl _, _, _, h => by unfold chkE at h; split at h <;> first | rfl | cases h
  | .non, _, _, h => by unfold chkE at h; split at h <;> first | rfl | cases h
  | .cst _, _, _, h => by unfold chkE at h; split at h <;> first | rfl | cases h
  | .fnc _, _, _, h => by unfold chkE at h; split at h <;> first | rfl | cases h
  | .bin _ _ _, _, _, h => by unfold chkE at h; split at h <;> first | rfl | cases h
  | .neg _, _, _, h => by unfold chkE at h; split at h <;> first | rfl | cases h
  | .not _, _, _, h => by unfold chkE at h; split at h <;> first | rfl | cases h
  | .cmp _ _ _, _, _, h => by unfold chkE at h; split at h <;> first | rfl | cases h
  | .chain _ _ _ _ _, _, _, h => by unfold chkE at h; split at h <;> first | rfl | cases h
  | .isn _, _, _, h => by unfold chkE at h; split at h <;> first | rfl | cases h
  | .isnn _, _, _, h => by unfold chkE at h; split at h <;> first | rfl | cases h
  | .and _ _, _, _, h => by unfold chkE at h; split at h <;> first | rfl | cases h
  | .or _ _, _, _, h => by unfold chkE at h; split at h <;> first | rfl | cases h
  | .ite _ _ _, _, _, h => by unfold chkE at h; split at h <;> first | rfl | cases h
  | .tup _, _, _, h => by unfold chkE at h; split at h <;> first | rfl | cases h
  | .idx _ _, _, _, h => by unfold chkE at h; split at h <;> first | rfl | cases h
  | .slice _ _ _, _, _, h => by unfold chkE at h; split at h <;> first | rfl | cases h
  | .fld _ _, _, _, h => by unfold chkE at h; split at h <;> first | rfl | cases h
  | .call _ _, _, _, h => by unfold chkE at h; split at h <;> first | rfl | cases h
  | .callv _ _, _, _, h => by unfold chkE at h; split at h <;> first | rfl | cases h
  | .mk _ _, _, _, h => by unfold chkE at h; split at h <;> first | rfl | cases h
  | .meth _ _ _, _, _, h => by unfold chkE at h; split at h <;> first | rfl | cases h
  | .len _, _, _, h => by unfold chkE at h; split at h <;> first | rfl | cases h
  | .max2 _ _, _, _, h => by unfold chkE at h; split at h <;> first | rfl | cases h
  | .min2 _ _, _, _, h => by unfold chkE at h; split at h <;> first | rfl | cases h
  | .maxL _, _, _, h => by unfold chkE at h; split at h <;> first | rfl | cases h
  | .minL _, _, _, h => by unfold chkE at h; split at h <;> first | rfl | cases h
  | .sum _, _, _, h => by unfold chkE at h; split at h <;> first | rfl | cases h
  | .abs _, _, _, h => by unfold chkE at h; split at h <;> first | rfl | cases h
  | .toInt _, _, _, h => by unfold chkE at h; split at h <;> first | rfl | cases h
  | .isi _ _, _, _, h => by unfold chkE at h; split at h <;> first | rfl | cases h
  | .tupof _, _, _, h => by unfold chkE at h; split at h <;> first | rfl | cases h
theorem plainL : ∀ {t : Ev.L} {sc : Scope} {e : Expr}, chkL nm N t sc e = true → plain e = true
  | .disp _, _, _, h => by unfold chkL at h; split at h <;> first | rfl | cases h
  | .comp _ _ _ _ _, _, _, h => by unfold chkL at h; split at h <;> first | rfl | cases h
  | .slice _ _ _, _, _, h => by unfold chkL at h; split at h <;> first | rfl | cases h
  | .cat _ _, _, _, h => by unfold chkL at h; split at h <;> first | rfl | cases h
  | .lof _, _, _, h => by unfold chkL at h; split at h <;> first | rfl | cases h
  | .sorted _, _, _, h => by unfold chkL at h; split at h <;> first | rfl | cases h
  | .call _ _, _, _, h => by unfold chkL at h; split at h <;> first | rfl | cases h
  | .lrng _ _, _, _, h => by unfold chkL at h; split at h <;> first | rfl | cases h
end
theorem plainB {t : Ev.B} {sc : Scope} {e : Expr} (h : chkB nm N t sc e = true) : plain e = true := by
  cases t with
  | e x => exact plainE (t := x) (sc := sc) h
  | b i => unfold chkB at h; split at h <;> first | rfl | cases h
theorem plainIt {t : Ev.It} {sc : Scope} {tgt e : Expr} (h : chkIt nm N t sc tgt e = true) : plain e = true := by
  cases t with
  | seq x => exact plainB (t := x) (sc := sc) h
  | rng1 a => unfold chkIt at h; split at h <;> first | rfl | cases h
  | rng2 a b => unfold chkIt at h; split at h <;> first | rfl | cases h
  | str a => exact plainE (t := a) (sc := sc) h
  | zip a b => cases h
theorem plainEs : ∀ {t : Ev.Es} {sc : Scope} {es : List Expr}, chkEs nm N t sc es = true → ∀ e ∈ es, plain e = true
  | .nil, _, es, h => by
    unfold chkEs at h; split at h
    · intro e he; cases he
    · cases h
  | .cons x xs, sc, es, h => by
    unfold chkEs at h; split at h
    · rw [Bool.and_eq_true] at h
      intro e he
      rcases List.mem_cons.mp he with rfl | he
      · exact plainE h.1
      · exact plainEs h.2 e he
    · cases h
theorem plains_any {es : List Expr} (h : ∀ e ∈ es, plain e = true) (pos : Pos) (env : Env) : (backTo pos (starEach es env)).any (·.1) = false := by
  induction es with
  | nil => rfl
  | cons e es ih =>
    rw [star1 (h e List.mem_cons_self)]
    show (false || (backTo pos (starEach es env)).any (·.1)) = false
    rw [ih fun x hx => h x (List.mem_cons_of_mem _ hx)]; rfl
end
/-! ### names -/
theorem okName_ok {x : Str} (h : okName x = true) : (x == ("__debug__" : Str)) = false ∧ (x == ("__classdict__" : Str)) = false := by
  unfold okName at h
  rw [Bool.and_eq_true] at h
  exact ⟨of_decide_eq_true h.1, of_decide_eq_true h.2⟩
theorem glb_ok {sc : Scope} {x : Str} (h : glbB sc x = true) : sc.names.lookup x = some .globalImplicit ∧ (x == ("__debug__" : Str)) = false := by
  unfold glbB at h
  rw [Bool.and_eq_true] at h
  exact ⟨of_decide_eq_true h.1, (okName_ok h.2).1⟩
theorem vis_ok {N : List Str} {sc : Scope} {i : Nat} {x : Str} (h : visB N sc i x = true) : N[i]? = some x ∧ Vis sc x ∧ (x == ("__debug__" : Str)) = false ∧ (x == ("__classdict__" : Str)) = false := by
  unfold visB at h
  simp only [Bool.and_eq_true, Bool.or_eq_true, decide_eq_true_eq] at h
  obtain ⟨⟨h1, h2⟩, h3⟩ := h
  obtain ⟨h4, h5⟩ := okName_ok h2
  refine ⟨h1, ?_, h4, h5⟩
  rcases h3 with (h3 | h3) | h3
  · exact .inl h3
  · exact .inr (.inl h3)
  · exact .inr (.inr h3)
theorem blt_ok {sc : Scope} {x : Str} {e : Expr} (h : bltB sc x e = true) : ∃ pos, e = .Name x pos ∧ sc.names.lookup x = some .globalImplicit := by
  unfold bltB at h
  split at h
  · rw [Bool.and_eq_true] at h
    obtain ⟨h1, h2⟩ := h
    have e := of_decide_eq_true h1
    subst e
    exact ⟨_, rfl, (glb_ok h2).1⟩
  · cases h

/-! ### exceptions -/
def XR (Z : Fx) (p : Pt) (cls : Value) (d : Option Addr) (c : Nat) (fs : List (Nat × Ev.D)) : Prop := cls = .ref (Z.ad.ca c) ∧
  match fs with
  | [] => True
  | _ => ∃ dx vs, d = some dx ∧ p.G dx = some (.xd vs) ∧ Paired (fun (q : Str × V) (r : Nat × Ev.D) => q.1 = Z.nm.fl r.1 ∧ p.R Z q.2 r.2) vs fs
def XOk {α : Type} (Z : Fx) (W : WX) (E0 : Pt) (ρ : Ev.Env) (σ : L2.St) (r : Ev.R α) : Prop := ∀ c fs S', r = .exc c fs S' → ∀ p' cls d, p'.S = S' → SR Z E0 ρ σ p' → XR Z p' cls d c fs → W cls d σ p'.H
section
variable {α β : Type} {Z : Fx} {W : WX} {E0 : Pt} {ρ : Ev.Env} {σ : L2.St} {r : Ev.R α} {f : α → Ev.Sto → Ev.R β}
theorem nb1 (h : r.bnd f ≠ .bad) : r ≠ .bad := by
  rintro rfl
  exact h rfl
theorem xo1 (h : XOk Z W E0 ρ σ (r.bnd f)) : XOk Z W E0 ρ σ r := fun c fs S' e => by
  subst e
  exact h c fs S' rfl
theorem of_nb {o : Option α} {S : Ev.Sto} (h : Ev.R.of o S ≠ .bad) : ∃ a, o = some a ∧ Ev.R.of o S = .ok a S := by
  cases o with
  | none => exact absurd rfl h
  | some a => exact ⟨a, rfl, rfl⟩
end

/-! ### promises -/
def RetR (Z : Fx) (p p' : Pt) (v : V) : Ev.Ret → Prop
  | .v d => p'.R Z v d
  | .l ds => ∃ a vs, v = .ref a ∧ p'.H a = some (.lst vs) ∧ p'.Rs Z vs ds ∧ p'.G a = none ∧ a ∉ p'.th ∧ p.H a = none
def spF (Z : Fx) (F : Ev.Fns) (d : Ev.Def) : Sp := fun vs H Q E => ∃ (p : Pt) (ds : List Ev.D), p.H = H ∧ GoodP Z p ∧ p.Rs Z vs ds ∧ ds.length = d.np ∧ Ev.callD F d ds p.S ≠ .bad ∧
  (∀ r p' v, Ev.callD F d ds p.S = .ok r p'.S → GoodP Z p' → Ext p p' → RetR Z p p' v r → Q v p'.H) ∧
  (∀ c fs p' cls dx, Ev.callD F d ds p.S = .exc c fs p'.S → GoodP Z p' → Ext p p' → XR Z p' cls dx c fs → E cls dx p'.H)
def spI (Z : Fx) (F : Ev.Fns) (d : Ev.Def) (c : Nat) : Sp := fun vs H Q E => ∃ (p : Pt) (a dx : Addr) (vs' : List V) (ds : List Ev.D), vs = .ref a :: vs' ∧ H = upd (upd p.H dx (.own a)) a (.ins (Z.ad.ca c) dx []) ∧
  p.H a = none ∧ p.H dx = none ∧ dx ≠ a ∧ GoodP Z p ∧ p.Rs Z vs' ds ∧ ds.length + 1 = d.np ∧ Ev.makeD F d c ds p.S ≠ .bad ∧
  (∀ z p', Ev.makeD F d c ds p.S = .ok z p'.S → GoodP Z p' → Ext p p' → p'.R Z (.ref a) z → Q .non p'.H) ∧
  (∀ e fs p' cls dx, Ev.makeD F d c ds p.S = .exc e fs p'.S → GoodP Z p' → Ext p p' → XR Z p' cls dx e fs → E cls dx p'.H)
def blts : List Str := ["len", "max", "min", "sum", "abs", "int", "isinstance", "tuple", "list", "sorted", "range", "zip", "bool", "str"]
/-- what of the program a body may lean on: F = fns T k -/
structure PF (Z : Fx) (T : Ev.Tbl) (k : Nat) (P : Program) (w : World) (mg : Str → Option Value) (base : Heap) : Prop where
  bl : ∀ x ∈ blts, mg x = none
  cst : ∀ n d, T.cst n = some d → ∃ v u, mg (Z.nm.cs n) = some u ∧ RelV v u ∧ ∀ th G, Rep Z th G v d
  glo : ∀ f, Z.nm.gl f = true → mg (Z.nm.fn f) = some (.ref (Z.ad.fa f)) ∧ PySem.W.keepIn Z.K (.ref (Z.ad.fa f)) = true
  glc : ∀ c, Z.nm.gc c = true → mg (Z.nm.cl c) = some (.ref (Z.ad.ca c)) ∧ PySem.W.keepIn Z.K (.ref (Z.ad.ca c)) = true
  meth : ∀ f, Z.nm.gm f = true → Meth Z.K (Z.ad.ca (T.mcls f)) (Z.nm.ms f) (Z.ad.fa f)
  call : ∀ j f d, k = j + 1 → T.fn f = some d → ∃ fd ps, FnOk P w Z.K mg base (L2.CX P w) (2 * k) (Z.ad.fa f) fd ps (spF Z (Ev.fns T j) d) ∧
    ∀ n, n ≤ d.np → d.np ≤ n + d.dfl.length → ∃ ds dvs, Vals dvs ds ∧ Binds Z.K fd ps ds ∧ ∀ th G, Reps Z th G dvs (d.dfl.drop (d.dfl.length - (d.np - n)))
  make : ∀ j c f d, k = j + 1 → T.init c = some f → T.fn f = some d → Mk Z.K (Z.ad.ca c) (Z.ad.fa f) ∧ ∃ fd ps, FnOk P w Z.K mg base (L2.CX P w) (2 * k) (Z.ad.fa f) fd ps (spI Z (Ev.fns T j) d c) ∧
    ∀ n, n ≤ d.np → d.np ≤ n + d.dfl.length → ∃ ds dvs, Vals dvs ds ∧ Binds Z.K fd ps ds ∧ ∀ th G, Reps Z th G dvs (d.dfl.drop (d.dfl.length - (d.np - n)))
  cls : ∀ c f, T.init c = some f → Cls Z.K (Z.ad.ca c)
  noat : ∀ c f, f ∈ T.flds c → Cls Z.K (Z.ad.ca c) ∧ NoAttr Z.K (Z.ad.ca c) (Z.nm.fl f)
end Snd

set_option Elab.async false
set_option linter.all false
set_option maxRecDepth 100000
/-! Calls; what is walked; targets. -/
namespace Snd
open PySem PySem.Spec PyProof.Rows L2
structure XF (Z : Fx) (T : Ev.Tbl) (k : Nat) (N : List Str) (W : WX) (X : Cx) : Prop where
  pf : PF Z T k X.prog X.w X.mg X.base
  hK : X.K = Z.K
  hN : X.N = N
  nd : N.Nodup
  calm : X.calm = true
  hr : Room (2 * k + 1) X.A
  tk : Takes X W
section
variable {Z : Fx} {T : Ev.Tbl} {k : Nat} {N : List Str} {W : WX} {X : Cx} {E0 p q : Pt} {ρ : Ev.Env} {σ : L2.St} {v : V}
theorem XF.hu (xf : XF Z T k N W X) : X.A.units + 64 < cLine := xf.hr.units
theorem Ext.fresh (e : Ext p q) (g : GoodP Z q) {a : Addr} (h : q.H a = none) : p.H a = none := by
  cases z : p.H a with
  | none => rfl
  | some o =>
    by_cases m : a ∈ p.th
    · exfalso
      obtain ⟨t, et⟩ := e.t
      obtain ⟨u, hu⟩ := g.there (a := a) (by rw [et]; exact List.mem_append_left _ m)
      rw [h] at hu; cases hu
    · obtain ⟨x, _⟩ := e.h a o z m
      rw [h] at x; cases x
/-- a list of nobody's, for good -/
theorem give_list (g : GoodP Z q) (e : Ext p q) {a : Addr} {vs : List V} {ds : List Ev.D} (ha : q.H a = some (.lst vs)) (r : q.Rs Z vs ds) (h1 : q.G a = none) (h2 : a ∉ q.th) (h3 : p.H a = none) :
    ∃ q', q'.H = q.H ∧ q'.S = q.S ∧ GoodP Z q' ∧ Ext p q' ∧ q'.R Z (.ref a) (.lst ds) := by
  obtain ⟨g2, sub⟩ := g.give ha h1 h2
  refine ⟨{ q with G := upd q.G a (.lst vs) }, rfl, rfl, g2, ⟨fun b u h => sub _ _ (e.g _ _ h), e.t, fun b u h n => ?_⟩, .lst (.of upd_same) (r.mono sub ⟨[], by simp⟩)⟩
  obtain ⟨x1, x2, x3⟩ := e.h b u h n
  have z : b ≠ a := by rintro rfl; rw [h3] at h; cases h
  exact ⟨x1, x2, fun y => by show upd q.G a (.lst vs) b = _; rw [upd_ne z]; exact x3 y⟩
theorem RetR.frz {r : Ev.Ret} (h : RetR Z p q v r) (g : GoodP Z q) (e : Ext p q) : ∃ q', q'.H = q.H ∧ q'.S = q.S ∧ GoodP Z q' ∧ Ext p q' ∧ q'.R Z v r.d := by
  cases r with
  | v d => exact ⟨q, rfl, rfl, g, e, h⟩
  | l ds =>
    obtain ⟨a, vs, rfl, h1, h2, h3, h4, h5⟩ := h
    exact give_list g e h1 h2 h3 h4 h5
theorem PostL.frz {r : Ev.R (List Ev.D)} {H' : Hp} (h : PostL Z p r v H') : PostE Z p (r.bnd fun xs S => .ok (.lst xs) S) v H' := by
  obtain ⟨p', a, vs, ds, rfl, rfl, g, e, rfl, h1, h2, h3, h4, h5⟩ := h
  obtain ⟨q, e1, e2, g', x, r⟩ := give_list g e h1 h2 h3 h4 h5
  exact ⟨q, _, e1, by rw [e2]; rfl, g', x, r⟩
theorem PostE.frz {r : Ev.R (List Ev.D)} {H' : Hp} (h : PostL Z p r v H') : ∃ q ds, q.H = H' ∧ r = .ok ds q.S ∧ GoodP Z q ∧ Ext p q ∧ q.R Z v (.lst ds) := by
  obtain ⟨p', a, vs, ds, rfl, rfl, g, e, rfl, h1, h2, h3, h4, h5⟩ := h
  obtain ⟨q, e1, e2, g', x, r⟩ := give_list g e h1 h2 h3 h4 h5
  exact ⟨q, ds, e1, by rw [e2], g', x, r⟩

/-! ### the calls of defs -/
theorem argsOf_ok {d : Ev.Def} {xs ys : List Ev.D} (h : Ev.argsOf d xs = some ys) : xs.length ≤ d.np ∧ d.np ≤ xs.length + d.dfl.length ∧ ys = xs ++ d.dfl.drop (d.dfl.length - (d.np - xs.length)) ∧ ys.length = d.np := by
  unfold Ev.argsOf at h
  split at h
  · rename_i c
    cases h
    refine ⟨c.1, c.2, rfl, ?_⟩
    rw [List.length_append, List.length_drop]
    omega
  · cases h
theorem call_inv {f : Nat} {xs : List Ev.D} {S : Ev.Sto} (hb : (Ev.fns T k).call f xs S ≠ .bad) : ∃ j d ys, k = j + 1 ∧ T.fn f = some d ∧ Ev.argsOf d xs = some ys ∧ (Ev.fns T k).call f xs S = Ev.callD (Ev.fns T j) d ys S := by
  cases k with
  | zero => exact absurd rfl hb
  | succ j =>
    cases h1 : T.fn f with
    | none => exact absurd (by simp only [Ev.fns, h1]) hb
    | some d =>
      cases h2 : Ev.argsOf d xs with
      | none => exact absurd (by simp only [Ev.fns, h1, h2]) hb
      | some ys => exact ⟨j, d, ys, rfl, rfl, h2, by simp only [Ev.fns, h1, h2]⟩
theorem call_ok (xf : XF Z T k N W X) {f : Nat} {xs : List Ev.D} {vs : List V} {us : List Value} {pins : List (Addr × Obj)} {s : Shared} {Q : VK} (hb : (Ev.fns T k).call f xs p.S ≠ .bad) (sr : SR Z E0 ρ σ p) (rs : p.Rs Z vs xs)
    (I : Inv X pins σ p.H s) (rv : Vals vs us) (xo : XOk Z W E0 ρ σ ((Ev.fns T k).call f xs p.S))
    (hq : ∀ r p' v, (Ev.fns T k).call f xs p.S = .ok r p'.S → GoodP Z p' → Ext p p' → RetR Z p p' v r → Q v p'.H) : wpAny (model X.prog X.w) X.A (call (.ref (Z.ad.fa f)) us) (EP X pins σ Q) X.xe s := by
  obtain ⟨j, d, ys, rfl, h1, h2, h3⟩ := call_inv hb
  obtain ⟨c1, c2, c3, c4⟩ := argsOf_ok h2
  obtain ⟨fd, ps, F, dd⟩ := xf.pf.call j f d rfl h1
  obtain ⟨ds, dvs, hd, B, rd⟩ := dd xs.length c1 c2
  rw [h3] at hb xo hq
  refine run_fnSD (E := WE W) (dvs := dvs) (ds := ds) (by rw [xf.hK]; exact F) (xf.hr.mono (Nat.le_succ _)) (by rw [xf.hK]; exact B) hd (passAt xf.tk σ) I rv ?_
  refine ⟨p, ys, rfl, sr.good, ?_, c4, hb, hq, fun c fs p' cls dx e g x xr => xo c fs _ e p' cls dx rfl (sr.step g x) xr⟩
  rw [c3]
  exact rs.append (rd _ _)
theorem make_inv {c : Nat} {xs : List Ev.D} {S : Ev.Sto} (hb : (Ev.fns T k).make c xs S ≠ .bad) : ∃ j f d z ys, k = j + 1 ∧ T.init c = some f ∧ T.fn f = some d ∧ Ev.argsOf d (.non :: xs) = some (z :: ys) ∧ (Ev.fns T k).make c xs S = Ev.makeD (Ev.fns T j) d c ys S := by
  cases k with
  | zero => exact absurd rfl hb
  | succ j =>
    cases h0 : T.init c with
    | none => exact absurd (by simp only [Ev.fns, h0]) hb
    | some f =>
      cases h1 : T.fn f with
      | none => exact absurd (by simp only [Ev.fns, h0, h1]) hb
      | some d =>
        cases h2 : Ev.argsOf d (.non :: xs) with
        | none => exact absurd (by simp only [Ev.fns, h0, h1, h2]) hb
        | some ys =>
          cases ys with
          | nil => exact absurd (by simp only [Ev.fns, h0, h1, h2]) hb
          | cons z ys => exact ⟨j, f, d, z, ys, rfl, rfl, h1, h2, by simp only [Ev.fns, h0, h1, h2]⟩
/-- run_make, what is raised wished for at the caller's slots -/
theorem run_makeS {CX : CXT} {k : Nat} {C f : Addr} {fd : FuncData} {ps : List Str} {sp : Sp} {dvs : List V} {ds : List Value} {E : XK} {pins : List (Addr × Obj)} {σ : L2.St} {H : Hp} {s : Shared} {Q : VK} {us : List Value} {vs : List V} (M : Mk X.K C f)
    (F : FnOk X.prog X.w X.K X.mg X.base CX k f fd ps sp) (hr : Room (k + 1) X.A) (hb : Binds X.K fd ps ds) (hd : Vals dvs ds) (hx : PassesAt CX X σ E) (I : Inv X pins σ H s) (r : Vals vs us)
    (h : ∀ x dx, H x = none → H dx = none → dx ≠ x → sp (.ref x :: (vs ++ dvs)) (upd (upd H dx (.own x)) x (.ins C dx [])) (fun v H2 => v = .non ∧ Q (.ref x) H2) E) :
    wpAny (model X.prog X.w) X.A (call (.ref C) us) (EP X pins σ Q) X.xe s := by
  have hq := h (s.heap.objs.size + 1) s.heap.objs.size (I.hok.fresh (Nat.le_succ _)) (I.hok.fresh (Nat.le_refl _)) (Nat.ne_of_lt (Nat.lt_succ_self _))
  have I2 := Inv.made (C := C) I
  have r2 : Vals (V.ref (s.heap.objs.size + 1) :: (vs ++ dvs)) (Value.ref (s.heap.objs.size + 1) :: (us ++ ds)) := .cons rfl (r.append hd)
  have hl : (Value.ref (s.heap.objs.size + 1) :: us ++ ds).length = ps.length := by
    have e := r2.length
    rw [F.len _ _ _ _ hq] at e
    exact e.symm
  refine wpAny_call (make_map (f := f) I.kIn M.makes M.init (beq_iff_eq.mp M.fn) (codeAny_mono (F.run _ X.stack _ _ ⟨Value.ref (s.heap.objs.size + 1) :: us, []⟩ (Value.ref (s.heap.objs.size + 1) :: (us ++ ds)) _ _ E (hr.make C us [])
    (I2.env0.make C us []) (hb _ (Value.ref (s.heap.objs.size + 1) :: us) I2.kIn hl) r2 hq) fun r s' hq' => ?_))
  cases r with
  | error e => exact hx pins _ _ e s' I2 hq'
  | ok fl =>
    cases fl with
    | ret u =>
      obtain ⟨v, H', I3, rv, ev, q3⟩ := I2.after hq'
      subst ev
      exact ⟨rv, ⟨V.ref (s.heap.objs.size + 1), H', I3, rfl, q3⟩⟩
    | next => exact False.elim hq'
    | brk => exact False.elim hq'
    | cont => exact False.elim hq'
theorem make_ok (xf : XF Z T k N W X) {c : Nat} {xs : List Ev.D} {vs : List V} {us : List Value} {pins : List (Addr × Obj)} {s : Shared} {Q : VK} (hb : (Ev.fns T k).make c xs p.S ≠ .bad) (sr : SR Z E0 ρ σ p) (rs : p.Rs Z vs xs)
    (I : Inv X pins σ p.H s) (rv : Vals vs us) (xo : XOk Z W E0 ρ σ ((Ev.fns T k).make c xs p.S))
    (hq : ∀ z p' v, (Ev.fns T k).make c xs p.S = .ok z p'.S → GoodP Z p' → Ext p p' → p'.R Z v z → Q v p'.H) : wpAny (model X.prog X.w) X.A (call (.ref (Z.ad.ca c)) us) (EP X pins σ Q) X.xe s := by
  obtain ⟨j, f, d, z, ys, rfl, h0, h1, h2, h3⟩ := make_inv hb
  obtain ⟨c1, c2, c3, c4⟩ := argsOf_ok h2
  obtain ⟨M, fd, ps, F, dd⟩ := xf.pf.make j c f d rfl h0 h1
  obtain ⟨ds, dvs, hd, B, rd⟩ := dd (xs.length + 1) c1 c2
  rw [h3] at hb xo hq
  refine run_makeS (E := WE W σ) (dvs := dvs) (ds := ds) (by rw [xf.hK]; exact M) (by rw [xf.hK]; exact F) xf.hr (by rw [xf.hK]; exact B) hd (passAt xf.tk σ) I rv fun x dx n1 n2 ne => ?_
  have c5 : z :: ys = .non :: (xs ++ d.dfl.drop (d.dfl.length - (d.np - (xs.length + 1)))) := c3
  cases c5
  refine ⟨p, x, dx, vs ++ dvs, _, rfl, rfl, n1, n2, ne, sr.good, rs.append (rd _ _), ?_, hb, fun z p' e g x' r => ⟨rfl, hq z p' _ e g x' r⟩, fun e fs p' cls dx' e1 g x' xr => xo e fs _ e1 p' cls dx' rfl (sr.step g x') xr⟩
  exact c4
end

/-! ### what is walked -/
def Le (p q : Pt) : Prop := (∀ a o, p.G a = some o → q.G a = some o) ∧ ∃ t, q.th = p.th ++ t
theorem Ext.le {p q : Pt} (e : Ext p q) : Le p q := ⟨e.g, e.t⟩
def Walk (Z : Fx) (Rl : Pt → Pt → Prop) (p : Pt) (J : It) (ds : List Ev.D) : Prop := ∀ q, Rl p q → GoodP Z q → ∀ i,
  (∀ d, ds[i]? = some d → J.go i q.H ∧ ∀ x H', J.yld i q.H x H' → ∃ q', q'.H = H' ∧ q'.S = q.S ∧ GoodP Z q' ∧ Ext q q' ∧ q'.R Z x d) ∧ (ds.length ≤ i → J.stop i q.H)
def bI (X : Cx) (tg iter : Expr) : TI := fun σ H R => ∀ pins s, Inv X pins σ H s →
    wpAny (model X.prog X.w) X.A (eval iter X.env) (fun v s1 => wpAny (model X.prog X.w) X.A (pyIter v) (PIE X pins σ tg R) X.xe s1) X.xe s
theorem pib {X : Cx} {tg iter : Expr} : PI X tg iter (bI X tg iter) := ⟨fun pins s σ H R I h => h pins s I⟩
theorem bI.of {X : Cx} {tg iter : Expr} {t : TI} (h : PI X tg iter t) {σ : L2.St} {H : Hp} {R : It → Hp → Prop} (q : t σ H R) : bI X tg iter σ H R := fun pins s I => h.run pins s σ H R I q
def PostI (Z : Fx) (p : Pt) (ok : Bool) (r : Ev.R (List Ev.D)) : It → Hp → Prop := fun J H' => ∃ p' ds, p'.H = H' ∧ r = .ok ds p'.S ∧ GoodP Z p' ∧ Ext p p' ∧ Walk Z Ext p' J ds ∧ (ok = true → Walk Z Le p' J ds)
section
variable {Z : Fx} {p q : Pt}
theorem walk_seq {J : It} {Rl : Pt → Pt → Prop} (hle : ∀ p q, Rl p q → Le p q) {vs : List V} {ds : List Ev.D} (r : p.Rs Z vs ds) (hg : ∀ q, Rl p q → GoodP Z q → ∀ i v, vs[i]? = some v → J.go i q.H ∧ ∀ x H', J.yld i q.H x H' → H' = q.H ∧ x = v)
    (hs : ∀ q, Rl p q → GoodP Z q → ∀ i, vs.length ≤ i → J.stop i q.H) : Walk Z Rl p J ds := fun q e g i => by
  refine ⟨fun d hd => ?_, fun h => hs q e g i (by rw [r.length]; exact h)⟩
  obtain ⟨v, h1, h2⟩ := r.get hd
  obtain ⟨h3, h4⟩ := hg q e g i v h1
  refine ⟨h3, fun x H' y => ?_⟩
  obtain ⟨rfl, rfl⟩ := h4 x H' y
  exact ⟨q, rfl, rfl, g, Ext.refl q, h2.mono (hle _ _ e).1 (hle _ _ e).2⟩
theorem walk_itl {K : PySem.W.Frag} {a : Addr} {vs : List V} {ds : List Ev.D} {Rl : Pt → Pt → Prop} (hle : ∀ p q, Rl p q → Le p q) (r : p.Rs Z vs ds) (h : ∀ q, Rl p q → GoodP Z q → SqL K q.H a vs) : Walk Z Rl p (Itl K a) ds :=
  walk_seq hle r (fun q e g i v hv => ⟨⟨vs, v, h q e g, hv⟩, fun x H' ⟨y1, y2⟩ => ⟨y1, Option.some.inj ((y2 vs (h q e g)).symm.trans hv)⟩⟩) fun q e g i hi => ⟨vs, h q e g, hi⟩
theorem walk_itt {K : PySem.W.Frag} {a : Addr} {vs : List V} {ds : List Ev.D} {Rl : Pt → Pt → Prop} (hle : ∀ p q, Rl p q → Le p q) (r : p.Rs Z vs ds) (h : ∀ q, Rl p q → GoodP Z q → SqT K q.H a vs) : Walk Z Rl p (Itt K a) ds :=
  walk_seq hle r (fun q e g i v hv => ⟨⟨vs, v, h q e g, hv⟩, fun x H' ⟨y1, y2⟩ => ⟨y1, Option.some.inj ((y2 vs (h q e g)).symm.trans hv)⟩⟩) fun q e g i hi => ⟨vs, h q e g, hi⟩
theorem walk_rng {lo : Int} {n : Nat} {Rl : Pt → Pt → Prop} (hle : ∀ p q, Rl p q → Le p q) : Walk Z Rl p (Itr lo n) (Ev.rangeL lo n) := fun q e g i => by
  have l : (Ev.rangeL lo n).length = n := by unfold Ev.rangeL; rw [List.length_map, List.length_range]
  refine ⟨fun d hd => ?_, fun h => by rw [l] at h; exact h⟩
  have hi : i < n := by
    rw [← l]
    exact (List.getElem?_eq_some_iff.mp hd).1
  unfold Ev.rangeL at hd
  rw [List.getElem?_map, List.getElem?_range hi] at hd
  cases hd
  exact ⟨hi, fun x H' ⟨y1, y2⟩ => by subst y1 y2; exact ⟨q, rfl, rfl, g, Ext.refl q, .int _⟩⟩
theorem walk_str {s : List Nat} {Rl : Pt → Pt → Prop} (hle : ∀ p q, Rl p q → Le p q) : Walk Z Rl p (Its ⟨s.toArray⟩) (s.map fun c => .str [c]) := fun q e g i => by
  refine ⟨fun d hd => ?_, fun h => by rw [List.length_map] at h; show s.toArray.size ≤ i; simpa using h⟩
  rw [List.getElem?_map] at hd
  obtain ⟨c, h1, h2⟩ := Option.map_eq_some_iff.mp hd
  subst h2
  have hi : i < s.length := (List.getElem?_eq_some_iff.mp h1).1
  refine ⟨by show i < s.toArray.size; simpa using hi, fun x H' ⟨y1, c', y2, y3⟩ => ?_⟩
  subst y1 y3
  have y2' : s.toArray[i]? = some c' := y2
  have e : c' = c := by
    rw [List.getElem?_toArray, h1] at y2'
    exact (Option.some.inj y2').symm
  subst e
  exact ⟨q, rfl, rfl, g, Ext.refl q, .str [c']⟩
end

/-! ### targets -/
def gTgs : List Nat → TGs
  | [] => gNil
  | i :: is => gCons (gName i) (gTgs is)
def gTg (K : PySem.W.Frag) : Ev.Tg → TG
  | .nm i => gName i
  | .tp is => gTup K is.length (gTgs is)
theorem assignEach_names {N : List Str} {sc : Scope} {f : List Str → Scope → Nat → Expr → Bool} (hf : ∀ i e, f N sc i e = true → ∃ x pos, e = .Name x pos) : ∀ {is : List Nat} {es : List Expr} {g : List Nat → List Expr → Bool},
    (∀ i is e es, g (i :: is) (e :: es) = true → f N sc i e = true ∧ g is es = true) → (∀ e es, g [] (e :: es) = true → False) → (∀ i is, g (i :: is) [] = true → False) → g is es = true →
    ∀ env : Env, (assignEach es env).length = is.length ∧ (assignEach es env).findIdx? (·.1) = none ∧ (assignEach es env).all (fun x => !x.1) = true
  | [], [], _, _, _, _, _, env => ⟨rfl, rfl, rfl⟩
  | [], e :: es, _, _, h2, _, h, _ => (h2 e es h).elim
  | i :: is, [], _, _, _, h3, h, _ => (h3 i is h).elim
  | i :: is, e :: es, g, h1, h2, h3, h, env => by
    obtain ⟨a, b⟩ := h1 i is e es h
    obtain ⟨x, pos, rfl⟩ := hf i e a
    obtain ⟨c1, c2, c3⟩ := assignEach_names hf h1 h2 h3 b env
    have e0 : assignEach (.Name x pos :: es) env = (false, assign (.Name x pos) env) :: assignEach es env := rfl
    rw [e0]
    refine ⟨by rw [List.length_cons, List.length_cons, c1], ?_, ?_⟩
    · rw [List.findIdx?_cons]
      simp only [Bool.false_eq_true, if_false, c2]; rfl
    · rw [List.all_cons, c3]; rfl
section
variable {X : Cx} {N : List Str}
theorem pg_C (hN : X.N = N) (nd : N.Nodup) {i : Nat} {e : Expr} (h : tgC N X.env.scope i e = true) : PG X e (gName i) := by
  unfold tgC at h
  split at h
  · simp only [Bool.and_eq_true, decide_eq_true_eq] at h
    subst hN
    exact pg_name nd h.1 (.inl h.2) (.inr h.2)
  · cases h
theorem pgs_C (hN : X.N = N) (nd : N.Nodup) : ∀ {is : List Nat} {es : List Expr}, tgsC N X.env.scope is es = true → PGs X es (gTgs is)
  | [], [], _ => pgs_nil
  | [], _ :: _, h => by cases h
  | _ :: _, [], h => by cases h
  | i :: is, e :: es, h => by
    have h' : (tgC N X.env.scope i e && tgsC N X.env.scope is es) = true := h
    rw [Bool.and_eq_true] at h'
    have pe := pg_C hN nd h'.1
    unfold tgC at h'
    split at h'
    · exact pgs_cons pe (pgs_C hN nd h'.2)
    · cases h'.1
theorem pg_TgC (hN : X.N = N) (nd : N.Nodup) (hc : X.calm = true) {tg : Ev.Tg} {e : Expr} (h : chkTgC N X.env.scope tg e = true) : PG X e (gTg X.K tg) := by
  cases tg with
  | nm i => exact pg_C hN nd h
  | tp is =>
    replace h : (match (generalizing := false) e with | .Tuple es _ _ => tgsC N X.env.scope is es | _ => false) = true := h
    split at h
    · obtain ⟨a1, a2, _⟩ := assignEach_names (f := tgC) (g := tgsC N X.env.scope) (fun i e h => by unfold tgC at h; split at h; exact ⟨_, _, rfl⟩; cases h) (fun i is e es h => by have h' : (tgC N X.env.scope i e && tgsC N X.env.scope is es) = true := h; rwa [Bool.and_eq_true] at h') (fun e es h => by cases h) (fun i is h => by cases h) h X.env
      exact pg_tup hc (pgs_C hN nd h) a1 a2
    · cases h
theorem pg_S (hN : X.N = N) (nd : N.Nodup) (hfn : ∀ x, X.fn x = true) {i : Nat} {e : Expr} (h : tgS N X.env.scope i e = true) : PG X e (gName i) := by
  unfold tgS at h
  split at h
  · simp only [Bool.and_eq_true, Bool.or_eq_true, decide_eq_true_eq] at h
    subst hN
    exact pg_name nd h.1 h.2 (.inl (hfn _))
  · cases h
theorem pgs_S (hN : X.N = N) (nd : N.Nodup) (hfn : ∀ x, X.fn x = true) : ∀ {is : List Nat} {es : List Expr}, tgsS N X.env.scope is es = true → PGs X es (gTgs is)
  | [], [], _ => pgs_nil
  | [], _ :: _, h => by cases h
  | _ :: _, [], h => by cases h
  | i :: is, e :: es, h => by
    have h' : (tgS N X.env.scope i e && tgsS N X.env.scope is es) = true := h
    rw [Bool.and_eq_true] at h'
    have pe := pg_S hN nd hfn h'.1
    unfold tgS at h'
    split at h'
    · exact pgs_cons pe (pgs_S hN nd hfn h'.2)
    · cases h'.1
theorem pg_TgS (hN : X.N = N) (nd : N.Nodup) (hfn : ∀ x, X.fn x = true) (hc : X.calm = true) {tg : Ev.Tg} {e : Expr} (h : chkTgS N X.env.scope tg e = true) : PG X e (gTg X.K tg) := by
  cases tg with
  | nm i => exact pg_S hN nd hfn h
  | tp is =>
    replace h : (match (generalizing := false) e with | .Tuple es _ _ => tgsS N X.env.scope is es | _ => false) = true := h
    split at h
    · obtain ⟨a1, a2, _⟩ := assignEach_names (f := tgS) (g := tgsS N X.env.scope) (fun i e h => by unfold tgS at h; split at h; exact ⟨_, _, rfl⟩; cases h) (fun i is e es h => by have h' : (tgS N X.env.scope i e && tgsS N X.env.scope is es) = true := h; rwa [Bool.and_eq_true] at h') (fun e es h => by cases h) (fun i is h => by cases h) h X.env
      exact pg_tup hc (pgs_S hN nd hfn h) a1 a2
    · cases h
variable {Z : Fx} {E0 p : Pt} {ρ ρ' : Ev.Env} {σ : L2.St}
theorem gTgs_ok : ∀ {is : List Nat} {vs : List V} {ds : List Ev.D} {ρ : Ev.Env} {σ : L2.St} {Q : L2.St → Hp → Prop}, Ev.fill ρ is ds = some ρ' → p.Rs Z vs ds → SR Z E0 ρ σ p → (∀ σ', SR Z E0 ρ' σ' p → (∀ j, j ∉ is → σ'[j]? = σ[j]?) → σ'.length = σ.length → Q σ' p.H) → gTgs is vs σ p.H Q
  | [], vs, ds, ρ, σ, Q, h, r, s, q => by
    cases ds with
    | nil => cases h; cases r; exact ⟨rfl, q σ s (fun _ _ => rfl) rfl⟩
    | cons d ds => cases h
  | i :: is, vs, ds, ρ, σ, Q, h, r, s, q => by
    cases ds with
    | nil => cases h
    | cons d ds =>
      cases r with
      | @cons v _ vs _ rv r =>
        refine ⟨v, vs, rfl, gTgs_ok (Q := Q) h r (s.put i rv) fun σ' s' k1 k2 => q σ' s' (fun j hj => ?_) (by rw [k2, List.length_set])⟩
        rw [k1 j fun z => hj (List.mem_cons_of_mem _ z), List.getElem?_set_ne fun z => hj (by rw [z]; exact List.mem_cons_self)]
def tgSlots : Ev.Tg → List Nat
  | .nm i => [i]
  | .tp is => is
theorem gTg_ok (hK : X.K = Z.K) {tg : Ev.Tg} {v : V} {d : Ev.D} {Q : L2.St → Hp → Prop} (h : Ev.setTg ρ tg d = some ρ') (r : p.R Z v d) (s : SR Z E0 ρ σ p) (q : ∀ σ', SR Z E0 ρ' σ' p → (∀ j, j ∉ tgSlots tg → σ'[j]? = σ[j]?) → σ'.length = σ.length → Q σ' p.H) : gTg X.K tg v σ p.H Q := by
  cases tg with
  | nm i =>
    have h' : some (ρ.put i (some (.v d))) = some ρ' := h
    cases h'
    exact q _ (s.put i r) (fun j hj => List.getElem?_set_ne fun z => hj (by rw [z]; exact List.mem_cons_self)) (by rw [List.length_set])
  | tp is =>
    replace h : (match (generalizing := false) d with | .tup xs => Ev.fill ρ is xs | _ => none) = some ρ' := h
    split at h
    · cases r with
      | @tup a vs ds q1 r1 =>
        have l : ∀ {is : List Nat} {ds : List Ev.D} {ρ : Ev.Env}, Ev.fill ρ is ds = some ρ' → ds.length = is.length := by
          intro is
          induction is with
          | nil => intro ds ρ h; cases ds with | nil => rfl | cons _ _ => cases h
          | cons i is ih => intro ds ρ h; cases ds with | nil => cases h | cons d ds => exact congrArg Nat.succ (ih h)
        exact ⟨a, vs, rfl, by rw [hK]; exact sqT_mono s.good.sub q1, by rw [r1.length]; exact l h, gTgs_ok h r1 s q⟩
    · cases h
end
end Snd

set_option Elab.async false
set_option linter.all false
set_option maxRecDepth 100000
/-! Helpers for the expressions. -/
namespace Snd
open PySem PySem.Spec PyProof.Rows L2
/-! ### the block of a comprehension -/
theorem wipe_get (σ : L2.St) : ∀ (vs : List Nat) (j : Nat), (wipe σ vs)[j]? = if j ∈ vs then (σ[j]?).map (fun _ => none) else σ[j]?
  | [], j => by rw [if_neg (by simp)]; rfl
  | v :: vs, j => by
    unfold wipe
    by_cases h : v = j
    · subst h
      rw [if_pos List.mem_cons_self]
      by_cases l : v < σ.length
      · rw [List.getElem?_set_self (by rw [wipe_length]; exact l), List.getElem?_eq_getElem l]; rfl
      · rw [List.getElem?_eq_none (by rw [List.length_set, wipe_length]; omega), List.getElem?_eq_none (by omega)]; rfl
    · rw [List.getElem?_set_ne h, wipe_get σ vs j]
      by_cases m : j ∈ vs
      · rw [if_pos m, if_pos (List.mem_cons_of_mem _ m)]
      · rw [if_neg m, if_neg (by simp only [List.mem_cons, not_or]; exact ⟨fun e => h e.symm, m⟩)]
theorem clear_get : ∀ (is : List Nat) (ρ : Ev.Env) (j : Nat), (Ev.clear ρ is).get j = if j ∈ is then none else ρ.get j
  | [], ρ, j => by rw [if_neg (by simp)]; rfl
  | i :: is, ρ, j => by
    show (Ev.clear (ρ.put i none) is).get j = _
    rw [clear_get is]
    by_cases m : j ∈ is
    · rw [if_pos m, if_pos (List.mem_cons_of_mem _ m)]
    · rw [if_neg m, Env.get_put]
      by_cases h : j = i
      · subst h
        rw [if_pos List.mem_cons_self]
        by_cases l : j < ρ.length
        · rw [if_pos ⟨rfl, l⟩]
        · rw [if_neg (fun z => l z.2)]
          cases e : ρ.get j with
          | none => rfl
          | some s => exact absurd (Env.get_lt e) l
      · rw [if_neg (fun z => h z.1), if_neg (by simp only [List.mem_cons, not_or]; exact ⟨h, m⟩)]
theorem clear_length : ∀ (is : List Nat) (ρ : Ev.Env), (Ev.clear ρ is).length = ρ.length
  | [], _ => rfl
  | i :: is, ρ => (clear_length is _).trans (Env.put_length ρ i none)
theorem wipe_eq {σ σ' : L2.St} {vs : List Nat} (hl : σ'.length = σ.length) (h : ∀ j, j ∉ vs → σ'[j]? = σ[j]?) : wipe σ' vs = wipe σ vs := by
  refine List.ext_getElem? fun j => ?_
  rw [wipe_get, wipe_get]
  by_cases m : j ∈ vs
  · rw [if_pos m, if_pos m]
    by_cases l : j < σ.length
    · rw [List.getElem?_eq_getElem l, List.getElem?_eq_getElem (by rw [hl]; exact l)]; rfl
    · rw [List.getElem?_eq_none (by omega), List.getElem?_eq_none (by omega)]
  · rw [if_neg m, if_neg m, h j m]
section
variable {Z : Fx} {T : Ev.Tbl} {k : Nat} {N : List Str} {W : WX} {X : Cx} {E0 p q : Pt} {ρ : Ev.Env} {σ : L2.St}
theorem SR.wipe (h : SR Z E0 ρ σ p) (vs : List Nat) : SR Z E0 (Ev.clear ρ vs) (wipe σ vs) p := by
  have hs : ∀ j, j ∉ vs → sg (L2.wipe σ vs) j = sg σ j := fun j m => by unfold sg; rw [wipe_get, if_neg m]
  have iso : ∀ j, isOwn ((Ev.clear ρ vs).get j) = true → isOwn (ρ.get j) = true ∧ j ∉ vs := fun j hj => by
    rw [clear_get] at hj
    by_cases m : j ∈ vs
    · rw [if_pos m] at hj; cases hj
    · rw [if_neg m] at hj; exact ⟨hj, m⟩
  refine ⟨h.good, h.ext, fun j => ?_, fun i j a o1 o2 e1 e2 => ?_, fun i a o1 e1 => ?_, by rw [clear_length, wipe_length]; exact h.len, fun j c fs hj => by
    have m := iso j (by rw [hj]; rfl)
    rw [clear_get, if_neg m.2] at hj
    rw [hs j m.2]
    exact h.me j c fs hj⟩
  · rw [clear_get]
    by_cases m : j ∈ vs
    · rw [if_pos m]; trivial
    · rw [if_neg m, hs j m]; exact h.slot j
  · obtain ⟨a1, a2⟩ := iso i o1
    obtain ⟨b1, b2⟩ := iso j o2
    rw [hs i a2] at e1
    rw [hs j b2] at e2
    exact h.own i j a a1 b1 e1 e2
  · obtain ⟨a1, a2⟩ := iso i o1
    rw [hs i a2] at e1
    exact h.fresh i a a1 e1
theorem takes0 {X : Cx} : Takes X (fun _ _ _ _ => False) := fun _ _ ⟨_, _, _, _, _, _, _, _, _, _, _, _, _, _, _, _, w⟩ => w.elim
theorem XF.blk (xf : XF Z T k N W X) (s : Shared) (H : Hp) (scope : Scope) (cenv : Env) (fp : List Addr) : XF Z T k N (fun _ _ _ _ => False) (X.blk s H scope cenv fp) :=
  ⟨xf.pf, xf.hK, xf.hN, xf.nd, xf.calm, xf.hr, takes0⟩

/-! ### one part after another -/
section
variable {α β : Type} {e : Expr} {es : List Expr}
theorem stepE {ra : Ev.R Ev.D} {f : Ev.D → Ev.Sto → Ev.R β} {Q : VK} (ha : ra ≠ .bad → XOk Z W E0 ρ σ ra → bE X e σ p.H (PostE Z p ra)) (hb : ra.bnd f ≠ .bad) (hx : XOk Z W E0 ρ σ (ra.bnd f))
    (h : ∀ p1 d v, GoodP Z p1 → Ext p p1 → p1.R Z v d → f d p1.S ≠ .bad → XOk Z W E0 ρ σ (f d p1.S) → ra.bnd f = f d p1.S → Q v p1.H) : bE X e σ p.H Q :=
  (ha (nb1 hb) (xo1 hx)).mono fun v H' ⟨p1, d, eH, er, g, x, r⟩ => by
    subst eH
    rw [er] at hb hx h
    exact h p1 d v g x r hb hx rfl
theorem stepB {ra : Ev.R Ev.D} {f : Ev.D → Ev.Sto → Ev.R β} {Q : VK} (ha : ra ≠ .bad → XOk Z W E0 ρ σ ra → bE X e σ p.H (PostB Z ρ σ p ra)) (hb : ra.bnd f ≠ .bad) (hx : XOk Z W E0 ρ σ (ra.bnd f))
    (h : ∀ p1 d v, GoodP Z p1 → Ext p p1 → RB Z ρ σ p1 v d → f d p1.S ≠ .bad → XOk Z W E0 ρ σ (f d p1.S) → ra.bnd f = f d p1.S → Q v p1.H) : bE X e σ p.H Q :=
  (ha (nb1 hb) (xo1 hx)).mono fun v H' ⟨p1, d, eH, er, g, x, r⟩ => by
    subst eH
    rw [er] at hb hx h
    exact h p1 d v g x r hb hx rfl
theorem stepEs {ra : Ev.R (List Ev.D)} {f : List Ev.D → Ev.Sto → Ev.R β} {Q : List V → Hp → Prop} (ha : ra ≠ .bad → XOk Z W E0 ρ σ ra → bA X es σ p.H (PostEs Z p ra)) (hb : ra.bnd f ≠ .bad) (hx : XOk Z W E0 ρ σ (ra.bnd f))
    (h : ∀ p1 ds vs, GoodP Z p1 → Ext p p1 → p1.Rs Z vs ds → f ds p1.S ≠ .bad → XOk Z W E0 ρ σ (f ds p1.S) → ra.bnd f = f ds p1.S → Q vs p1.H) : bA X es σ p.H Q :=
  (ha (nb1 hb) (xo1 hx)).mono fun v H' ⟨p1, d, eH, er, g, x, r⟩ => by
    subst eH
    rw [er] at hb hx h
    exact h p1 d v g x r hb hx rfl
theorem stepT {ra : Ev.R Bool} {f : Bool → Ev.Sto → Ev.R β} {Q : Bool → Hp → Prop} (ha : ra ≠ .bad → XOk Z W E0 ρ σ ra → bT X e σ p.H (PostT Z p ra)) (hb : ra.bnd f ≠ .bad) (hx : XOk Z W E0 ρ σ (ra.bnd f))
    (h : ∀ p1 k, GoodP Z p1 → Ext p p1 → f k p1.S ≠ .bad → XOk Z W E0 ρ σ (f k p1.S) → ra.bnd f = f k p1.S → Q k p1.H) : bT X e σ p.H Q :=
  (ha (nb1 hb) (xo1 hx)).mono fun v H' ⟨p1, eH, er, g, x⟩ => by
    subst eH
    rw [er] at hb hx h
    exact h p1 v g x hb hx rfl
theorem PostV.E {z : Ev.D} {r : Ev.R Ev.D} {v : V} {H' : Hp} (h : PostV Z q z v H') (e : Ext p q) (hr : r = .ok z q.S) : PostE Z p r v H' := by
  obtain ⟨p', e1, e2, g, x, rr⟩ := h
  exact ⟨p', z, e1, by rw [hr, e2], g, e.trans x, rr⟩
theorem PostV.b {z : Bool} {v : V} {H' : Hp} (h : PostV Z q (.bl z) v H') : v = .bl z ∧ ∃ p', p'.H = H' ∧ p'.S = q.S ∧ GoodP Z p' ∧ Ext q p' := by
  obtain ⟨p', e1, e2, g, x, rr⟩ := h
  cases rr
  exact ⟨rfl, p', e1, e2, g, x⟩
theorem PostL.E {r r' : Ev.R (List Ev.D)} {v : V} {H' : Hp} (h : PostL Z q r v H') (e : Ext p q) (hr : r' = r) : PostL Z p r' v H' := by
  subst hr
  obtain ⟨p', a, vs, ds, e1, e2, g, x, e3, h1, h2, h3, h4, h5⟩ := h
  refine ⟨p', a, vs, ds, e1, e2, g, e.trans x, e3, h1, h2, h3, h4, ?_⟩
  cases z : p.H a with
  | none => rfl
  | some o =>
    by_cases m : a ∈ p.th
    · exfalso
      obtain ⟨t, et⟩ := e.t
      obtain ⟨u, et'⟩ := x.t
      exact h4 (by rw [et', et]; exact List.mem_append_left _ (List.mem_append_left _ m))
    · obtain ⟨y, _⟩ := e.h a o z m
      rw [h5] at y; cases y
theorem PostE.E {r r' : Ev.R Ev.D} {v : V} {H' : Hp} (h : PostE Z q r v H') (e : Ext p q) (hr : r' = r) : PostE Z p r' v H' := by
  subst hr
  obtain ⟨p', d, e1, e2, g, x, rr⟩ := h
  exact ⟨p', d, e1, e2, g, e.trans x, rr⟩
theorem PostT.E {r r' : Ev.R Bool} {b : Bool} {H' : Hp} (h : PostT Z q r b H') (e : Ext p q) (hr : r' = r) : PostT Z p r' b H' := by
  subst hr
  obtain ⟨p', e1, e2, g, x⟩ := h
  exact ⟨p', e1, e2, g, e.trans x⟩
end

/-! ### built-ins by their names -/
theorem blt_free (xf : XF Z T k N W X) {x : Str} (h : x ∈ blts) : X.mg x = none := xf.pf.bl x h
theorem blt1 (xf : XF Z T k N W X) {x : Str} {id : String} {f y : Expr} {pos : Pos} (hx : x ∈ blts) (hv : bootBuiltins x = some (.builtin id)) (hf : bltB X.env.scope x f = true) (hy : plain y = true) (hn : x ≠ "__name__" := by decide) (hdb : (x == ("__debug__" : Str)) = false := by decide) :
    PE X (.Call f [y] [] pos) (tCB (bC X (.builtin id)) (tCons (bE X y) tNil)) := by
  obtain ⟨p0, rfl, hg⟩ := blt_ok hf
  exact pe_callB callb hg (blt_free xf hx) hv (pa_cons peb pa_nil (star1 hy [] _)) hn hdb (star1 hy [] _) rfl
theorem blt2 (xf : XF Z T k N W X) {x : Str} {id : String} {f y y2 : Expr} {pos : Pos} (hx : x ∈ blts) (hv : bootBuiltins x = some (.builtin id)) (hf : bltB X.env.scope x f = true) (hy : plain y = true) (hy2 : plain y2 = true) (hn : x ≠ "__name__" := by decide) (hdb : (x == ("__debug__" : Str)) = false := by decide) :
    PE X (.Call f [y, y2] [] pos) (tCB (bC X (.builtin id)) (tCons (bE X y) (tCons (bE X y2) tNil))) := by
  obtain ⟨p0, rfl, hg⟩ := blt_ok hf
  exact pe_callB callb hg (blt_free xf hx) hv (pa_cons peb (pa_cons peb pa_nil (star1 hy2 [] _)) (star1 hy _ _)) hn hdb (star1 hy _ _) (plains_any (es := [y2]) (fun e he => by rcases List.mem_singleton.mp he with rfl; exact hy2) pos X.env)
theorem blty1 (xf : XF Z T k N W X) {x : Str} {id : String} {f y : Expr} {pos : Pos} (hx : x ∈ blts) (hv : bootBuiltins x = some (.type id)) (hf : bltB X.env.scope x f = true) (hy : plain y = true) (hn : x ≠ "__name__" := by decide) (hdb : (x == ("__debug__" : Str)) = false := by decide) :
    PE X (.Call f [y] [] pos) (tCB (bC X (.type id)) (tCons (bE X y) tNil)) := by
  obtain ⟨p0, rfl, hg⟩ := blt_ok hf
  exact pe_callTy callb hg (blt_free xf hx) hv (pa_cons peb pa_nil (star1 hy [] _)) hn hdb (star1 hy [] _) rfl

/-! ### isinstance -/
def tyN : Ev.Ty → String
  | .list => "list" | .tuple => "tuple" | .int => "int" | .bool => "bool"
theorem kit_list (t : Ev.Ty) {K : PySem.W.Frag} : PySem.W.kitOne K (.type "list") (.type (tyN t)) = some (match t with | .list => true | _ => false) := by
  cases t <;> exact kit_ty (by decide +kernel)
theorem kit_tuple (t : Ev.Ty) {K : PySem.W.Frag} : PySem.W.kitOne K (.type "tuple") (.type (tyN t)) = some (match t with | .tuple => true | _ => false) := by
  cases t <;> exact kit_ty (by decide +kernel)
theorem kit_int (t : Ev.Ty) {K : PySem.W.Frag} : PySem.W.kitOne K (.type "int") (.type (tyN t)) = some (match t with | .int => true | _ => false) := by
  cases t <;> exact kit_ty (by decide +kernel)
theorem kit_bool (t : Ev.Ty) {K : PySem.W.Frag} : PySem.W.kitOne K (.type "bool") (.type (tyN t)) = some (match t with | .int => true | .bool => true | _ => false) := by
  cases t <;> exact kit_ty (by decide +kernel)
theorem kit_str (t : Ev.Ty) {K : PySem.W.Frag} : PySem.W.kitOne K (.type "str") (.type (tyN t)) = some false := by
  cases t <;> exact kit_ty (by decide +kernel)
theorem kit_non (t : Ev.Ty) {K : PySem.W.Frag} : PySem.W.kitOne K (.type "NoneType") (.type (tyN t)) = some false := by
  cases t <;> exact kit_ty (by decide +kernel)
theorem boot_ty (t : Ev.Ty) : bootBuiltins (tyOf t) = some (.type (tyN t)) := by
  cases t <;> decide +kernel
theorem ty_in (t : Ev.Ty) : tyOf t ∈ blts := by
  cases t <;> decide +kernel
theorem tyx_list {K : PySem.W.Frag} {H : Hp} {a : Addr} {vs : List V} (h : SqL K H a vs) : TyX K H (.ref a) (.type "list") := by
  rcases h with (h | ⟨o, h⟩) | ⟨o, its, n, h1, h2, _⟩
  · exact .base (.lst h)
  · exact .base (.frz h)
  · exact .kList h1 h2
theorem tyx_tuple {K : PySem.W.Frag} {H : Hp} {a : Addr} {vs : List V} (h : SqT K H a vs) : TyX K H (.ref a) (.type "tuple") := by
  rcases h with (h | ⟨o, h⟩) | ⟨o, its, n, h1, h2, _⟩
  · exact .base (.tup h)
  · exact .fTuple h
  · exact .kTuple h1 h2
theorem isi_ok (hK : X.K = Z.K) (t : Ev.Ty) {x : Ev.D} {v : V} {b : Bool} (h : Ev.tyIs t x = some b) (s : SR Z E0 ρ σ p) (rx : RB Z ρ σ p v x) : bC X (.builtin "isinstance") [v, .ty (tyN t)] p.H (PostV Z p (.bl b)) := by
  have fin : ∀ {n : String}, TyX X.K p.H v (.type n) → PySem.W.kitOne X.K (.type n) (.type (tyN t)) = some b → bC X (.builtin "isinstance") [v, .ty (tyN t)] p.H (PostV Z p (.bl b)) := fun hx hk =>
    bC.of call_isi ⟨v, .ty (tyN t), _, _, b, rfl, .ty _, hx, hk, .same s.good (.bl b)⟩
  unfold Ev.tyIs at h
  split at h
  · obtain ⟨a, vs, e, q, _, _⟩ := rx.lst s
    subst e
    exact fin (tyx_list (by rw [hK]; exact q)) (by rw [kit_list]; exact h)
  · obtain ⟨a, vs, e, q, _, _⟩ := rx.tup s
    subst e
    exact fin (tyx_tuple (by rw [hK]; exact q)) (by rw [kit_tuple]; exact h)
  · cases rx.val (fun _ z => by cases z)
    exact fin (.base (.int _)) (by rw [kit_int]; exact h)
  · cases rx.val (fun _ z => by cases z)
    exact fin (.base (.bl _)) (by rw [kit_bool]; exact h)
  · cases rx.val (fun _ z => by cases z)
    exact fin (.base (.str _)) (by rw [kit_str]; exact h)
  · cases rx.val (fun _ z => by cases z)
    exact fin (.base .non) (by rw [kit_non]; exact h)
  · cases h
theorem non_of {v : V} {d : Ev.D} (r : p.R Z v d) : decide (v = .non) = Ev.isNon d := by
  cases r <;> first | rfl | exact decide_eq_false (fun z => by cases z)
/-! ### other best readings -/
def bO (X : Cx) (e : Option Expr) : TO := fun σ H Q => ∃ t, PO X e t ∧ t σ H Q
theorem pob {e : Option Expr} : PO X e (bO X e) := ⟨fun pins s σ H Q I ⟨t, h, q⟩ => h.run pins s σ H Q I q⟩
def bTs (X : Cx) (ifs : List Expr) : TT := fun σ H Q => ∀ pins s, Inv X pins σ H s →
    wpAny (model X.prog X.w) X.A (forIn ifs true fun c r => if r = true then do let ok ← isTrue c X.env (eval c X.env); pure (ForInStep.yield ok) else pure (ForInStep.yield r)) (TP X pins σ Q) X.xe s
theorem ptsb {es : List Expr} : PTs X es (bTs X es) := ⟨fun pins s σ H Q I h => h pins s I⟩
theorem bTs.of {es : List Expr} {t : TT} (h : PTs X es t) {σ : L2.St} {H : Hp} {Q : Bool → Hp → Prop} (q : t σ H Q) : bTs X es σ H Q := fun pins s I => h.run pins s σ H Q I q
theorem bTs.mono {es : List Expr} {σ : L2.St} {H : Hp} {Q Q' : Bool → Hp → Prop} (h : bTs X es σ H Q) (hq : ∀ v H', Q v H' → Q' v H') : bTs X es σ H Q' :=
  fun pins s I => thn (h pins s I) fun u s' ⟨H', I', q⟩ => ⟨H', I', hq _ _ q⟩
end
end Snd

set_option Elab.async false
set_option linter.all false
set_option maxRecDepth 100000
set_option maxHeartbeats 1000000
/-! Expressions. -/
namespace Snd
open PySem PySem.Spec PyProof.Rows L2
section
variable {Z : Fx} {T : Ev.Tbl} {k : Nat} {N : List Str}
theorem and2 {a b : Bool} (h : (a && b) = true) : a = true ∧ b = true := Bool.and_eq_true_iff.mp h
theorem compL_cons (f : Ev.D → Ev.Sto → Ev.R (Option Ev.D)) (x : Ev.D) (xs acc : List Ev.D) (S : Ev.Sto) : Ev.compL f (x :: xs) acc S = match f x S with
    | .ok none S1 => Ev.compL f xs acc S1
    | .ok (some y) S1 => if acc.length < Ev.line then Ev.compL f xs (acc ++ [y]) S1 else .bad
    | _ => .bad := rfl
/-- the items of a comprehension -/
theorem comp_tlc {W : WX} {X : Cx} {E0 p : Pt} {ρ : Ev.Env} {σ : L2.St} {elt tgt iter : Expr} {ifs : List Expr} {scope : Scope} {tg : Ev.Tg} {own : List Nat} {ri : Ev.R (List Ev.D)} {ok : Bool}
    (xf : XF Z T k N W X) (hbl : blkC N X.env.scope scope (ownOf N own) = true) (hin : tgIn own tg = true) (hpi : plain iter = true)
    (htg : ∀ s H C cl fp, PG (X.blk s H scope (compEnvC scope cl C X.env) fp) tgt (gTg X.K tg))
    (sr : SR Z E0 ρ σ p)
    (hi : ri ≠ .bad → XOk Z W E0 ρ σ ri → bI X tgt iter σ p.H (PostI Z p ok ri)) {fc : Ev.Env → Ev.Sto → Ev.R Bool} {fe : Ev.Env → Ev.Sto → Ev.R Ev.D}
    (hc : ∀ s0 H0 C cl fp (q : Pt) (ρ1 : Ev.Env) (σ1 : L2.St), SR Z E0 ρ1 σ1 q → fc ρ1 q.S ≠ .bad → XOk Z (fun _ _ _ _ => False) E0 ρ1 σ1 (fc ρ1 q.S) → bTs (X.blk s0 H0 scope (compEnvC scope cl C X.env) fp) ifs σ1 q.H (PostT Z q (fc ρ1 q.S)))
    (he : ∀ s0 H0 C cl fp (q : Pt) (ρ1 : Ev.Env) (σ1 : L2.St), SR Z E0 ρ1 σ1 q → fe ρ1 q.S ≠ .bad → XOk Z (fun _ _ _ _ => False) E0 ρ1 σ1 (fe ρ1 q.S) → bE (X.blk s0 H0 scope (compEnvC scope cl C X.env) fp) elt σ1 q.H (PostE Z q (fe ρ1 q.S)))
    {f : Ev.D → Ev.Sto → Ev.R (Option Ev.D)} (hf : f = fun x S => match Ev.setTg (Ev.clear ρ own) tg x with
      | some ρ1 => (fc ρ1 S).bnd fun k S => if k then (fe ρ1 S).bnd fun y S => .ok (some y) S else .ok none S
      | none => .bad)
    (hb : (ri.bnd fun xs S => Ev.compL f xs [] S) ≠ .bad) (hx : XOk Z W E0 ρ σ (ri.bnd fun xs S => Ev.compL f xs [] S)) 
    {Q : VK} (hQ : ∀ v H', PostL Z p (ri.bnd fun xs S => Ev.compL f xs [] S) v H' → Q v H') :
    tLc (bI X tgt iter) (gTg X.K tg) (fun σ H Q => ∀ s0 H0 C cl fp, bTs (X.blk s0 H0 scope (compEnvC scope cl C X.env) fp) ifs σ H Q) (fun σ H Q => ∀ s0 H0 C cl fp, bE (X.blk s0 H0 scope (compEnvC scope cl C X.env) fp) elt σ H Q) own σ p.H Q := by
  -- the iterator
  intro pins s I
  refine thn (hi (nb1 hb) (xo1 hx) pins s I) fun u s1 h1 => thn h1 fun u2 s2 h2 => ?_
  obtain ⟨it, fp, tn, J, H', e1, e2, e3, e4, e5, p1, ds, eH, er, g1, x1, wk, _⟩ := h2
  refine ⟨it, fp, tn, J, H', e1, e2, e3, e4, e5, fun D hD => ?_⟩
  subst eH
  rw [er] at hb hx hQ
  replace hb : Ev.compL f ds [] p1.S ≠ .bad := hb
  have sr1 := sr.step g1 x1
  obtain ⟨g2, x2⟩ := g1.own (o := .lst []) hD
  refine ⟨fun i m H => m = ds.length - i ∧ i ≤ ds.length ∧ ∃ (q : Pt) (av : List V) (ad : List Ev.D), q.H = H ∧ GoodP Z q ∧ Ext p1 q ∧ H D = some (.lst av) ∧ q.Rs Z av ad ∧ q.G D = none ∧ D ∉ q.th ∧ Ev.compL f ds [] p1.S = Ev.compL f (ds.drop i) ad q.S, ⟨_, rfl, Nat.zero_le _, { p1 with H := upd p1.H D (.lst []) }, [], [], rfl, g2, x2, upd_same, .nil, ?_, ?_, rfl⟩, ?_⟩
  · cases e : p1.G D with
    | none => rfl
    | some w => rw [g1.sub _ _ e] at hD; cases hD
  · intro m
    obtain ⟨w, hw⟩ := g1.there m
    rw [hD] at hw; cases hw
  rintro i m H ⟨rfl, hle, q, av, ad, rfl, gq, xq, hD1, ra, hG, ht, ec⟩
  obtain ⟨w1, w2⟩ := wk q xq gq i
  by_cases hlt : i < ds.length
  · have hd : ds[i]? = some ds[i] := List.getElem?_eq_getElem hlt
    obtain ⟨go, yl⟩ := w1 _ hd
    refine .inr ⟨go, fun H' => i + 1 ≤ ds.length ∧ ∃ (q : Pt) (av : List V) (ad : List Ev.D), q.H = H' ∧ GoodP Z q ∧ Ext p1 q ∧ H' D = some (.lst av) ∧ q.Rs Z av ad ∧ q.G D = none ∧ D ∉ q.th ∧ Ev.compL f ds [] p1.S = Ev.compL f (ds.drop (i + 1)) ad q.S, fun H' ⟨h1, h2⟩ => ⟨ds.length - (i + 1), by omega, rfl, h1, h2⟩, fun x H' y => ?_⟩
    obtain ⟨q', rfl, eS, gq', xq', rx⟩ := yl x H' y
    rw [List.drop_eq_getElem_cons hlt] at ec
    rw [ec] at hb
    rw [compL_cons] at hb ec
    have hfx : f ds[i] q.S ≠ .bad := by
      intro z
      rw [z] at hb
      exact hb rfl
    rw [hf] at hfx
    simp only at hfx
    cases hset : Ev.setTg (Ev.clear ρ own) tg ds[i] with
    | none => rw [hset] at hfx; exact absurd rfl hfx
    | some ρ1 =>
      rw [hset] at hfx
      simp only at hfx
      have xpq : Ext p1 q' := xq.trans xq'
      have srq : SR Z E0 (Ev.clear ρ own) (wipe σ own) q' := (sr1.step gq' xpq).wipe own
      refine gTg_ok xf.hK hset rx srq fun σ2 s2 k1 k2 => ⟨?_, ?_⟩
      · refine wipe_eq (by rw [k2, wipe_length]) fun j hj => ?_
        rw [k1 j ?_, wipe_get, if_neg hj]
        intro m
        unfold tgIn at hin
        split at hin
        · rcases List.mem_singleton.mp m with rfl
          exact hj (by simpa using hin)
        · exact hj (by simpa using List.all_eq_true.mp hin j m)
      · rw [← eS] at hfx
        have xnone : ∀ {α : Type} {r : Ev.R α}, (∀ c fs S, r ≠ .exc c fs S) → XOk Z (fun _ _ _ _ => False) E0 ρ1 σ2 r := fun h c fs S' e => absurd e (h c fs S')
        have fxe : f ds[i] q.S = (fc ρ1 q'.S).bnd fun k S => if k then (fe ρ1 S).bnd fun y S => .ok (some y) S else .ok none S := by
          rw [hf, eS]
          simp only [hset]
        have noexc : ∀ c fs S, f ds[i] q.S ≠ .exc c fs S := fun c fs S z => by rw [z] at hb; exact hb rfl
        rw [fxe] at noexc
        have n1 : ∀ c fs S, fc ρ1 q'.S ≠ .exc c fs S := fun c fs S z => noexc c fs S (by rw [z]; rfl)
        intro s0 H0 C cl fp'
        refine (hc s0 H0 C cl fp' q' ρ1 σ2 s2 (nb1 hfx) (xnone n1)).mono fun b H' ⟨p3, e3, er3, g3, x3⟩ => ?_
        subst e3
        rw [er3] at hfx noexc fxe
        have keep : ∀ {r : Pt}, Ext p1 r → GoodP Z r → Ext q r → r.H D = some (.lst av) ∧ r.Rs Z av ad ∧ r.G D = none ∧ D ∉ r.th := fun {r} _ _ e => by
          obtain ⟨y1, y2, y3⟩ := e.h D _ hD1 ht
          exact ⟨y1, ra.mono e.g e.t, y3 hG, y2⟩
        cases b with
        | false =>
          have x4 := xq'.trans x3
          obtain ⟨y1, y2, y3, y4⟩ := keep (xq.trans x4) g3 x4
          refine ⟨hlt, p3, av, ad, rfl, g3, xq.trans x4, y1, y2, y3, y4, ?_⟩
          rw [ec, fxe]; rfl
        | true =>
          replace hfx : (fe ρ1 p3.S).bnd (fun y S => Ev.R.ok (some y) S) ≠ .bad := hfx
          have n2 : ∀ c fs S, fe ρ1 p3.S ≠ .exc c fs S := fun c fs S z => noexc c fs S (by
            show (fe ρ1 p3.S).bnd (fun y S => Ev.R.ok (some y) S) = _
            rw [z]; rfl)
          intro s0 H0 C cl fp'
          refine (he s0 H0 C cl fp' p3 ρ1 σ2 (s2.step g3 x3) (nb1 hfx) (xnone n2)).mono fun y H' ⟨p4, dy, e4, er4, g4, x4, r4⟩ => ?_
          subst e4
          have x5 := (xq'.trans x3).trans x4
          obtain ⟨y1, y2, y3, y4⟩ := keep (xq.trans x5) g4 x5
          have fxe' : f ds[i] q.S = .ok (some dy) p4.S := by
            rw [fxe]
            show (fe ρ1 p3.S).bnd (fun y S => Ev.R.ok (some y) S) = _
            rw [er4]; rfl
          rw [fxe'] at hb
          have hz : ad.length < Ev.line := by
            by_cases c : ad.length < Ev.line
            · exact c
            · simp only [if_neg c] at hb
              exact absurd rfl hb
          have g5 := g4.mut (a := D) (o := .lst (av ++ [y])) y3 y4
          refine ⟨av, y1, by rw [y2.length, ← line_eq]; exact hz, hlt, { p4 with H := upd p4.H D (.lst (av ++ [y])) }, av ++ [y], ad ++ [dy], rfl, g5, ?_, upd_same, y2.append (.cons r4 .nil), y3, y4, ?_⟩
          · have xx := xq.trans x5
            exact ⟨xx.g, xx.t, fun b u h n => by
              obtain ⟨z1, z2, z3⟩ := xx.h b u h n
              have nb : b ≠ D := by rintro rfl; rw [hD] at h; cases h
              exact ⟨by show upd p4.H D _ b = _; rw [upd_ne nb]; exact z1, z2, z3⟩⟩
          · rw [ec, fxe']
            simp only [if_pos hz]
  · have e : i = ds.length := by omega
    subst e
    refine .inl ⟨w2 (Nat.le_refl _), ?_⟩
    rw [List.drop_length] at ec
    refine hQ _ _ ⟨q, D, av, ad, rfl, by rw [Ev.R.bnd_ok, ec]; rfl, gq, x1.trans xq, rfl, hD1, ra, hG, ht, x1.fresh g1 hD⟩
/-- .. as a value -/
theorem comp_ok {W : WX} {X : Cx} {E0 p : Pt} {ρ : Ev.Env} {σ : L2.St} {elt tgt iter : Expr} {ifs : List Expr} {scope : Scope} {pos : Pos} {tg : Ev.Tg} {own : List Nat} {ri : Ev.R (List Ev.D)} {ok : Bool}
    (xf : XF Z T k N W X) (hbl : blkC N X.env.scope scope (ownOf N own) = true) (hin : tgIn own tg = true) (hpi : plain iter = true)
    (htg : ∀ s H C cl fp, PG (X.blk s H scope (compEnvC scope cl C X.env) fp) tgt (gTg X.K tg))
    (sr : SR Z E0 ρ σ p)
    (hi : ri ≠ .bad → XOk Z W E0 ρ σ ri → bI X tgt iter σ p.H (PostI Z p ok ri)) {fc : Ev.Env → Ev.Sto → Ev.R Bool} {fe : Ev.Env → Ev.Sto → Ev.R Ev.D}
    (hc : ∀ s0 H0 C cl fp (q : Pt) (ρ1 : Ev.Env) (σ1 : L2.St), SR Z E0 ρ1 σ1 q → fc ρ1 q.S ≠ .bad → XOk Z (fun _ _ _ _ => False) E0 ρ1 σ1 (fc ρ1 q.S) → bTs (X.blk s0 H0 scope (compEnvC scope cl C X.env) fp) ifs σ1 q.H (PostT Z q (fc ρ1 q.S)))
    (he : ∀ s0 H0 C cl fp (q : Pt) (ρ1 : Ev.Env) (σ1 : L2.St), SR Z E0 ρ1 σ1 q → fe ρ1 q.S ≠ .bad → XOk Z (fun _ _ _ _ => False) E0 ρ1 σ1 (fe ρ1 q.S) → bE (X.blk s0 H0 scope (compEnvC scope cl C X.env) fp) elt σ1 q.H (PostE Z q (fe ρ1 q.S)))
    {f : Ev.D → Ev.Sto → Ev.R (Option Ev.D)} (hf : f = fun x S => match Ev.setTg (Ev.clear ρ own) tg x with
      | some ρ1 => (fc ρ1 S).bnd fun k S => if k then (fe ρ1 S).bnd fun y S => .ok (some y) S else .ok none S
      | none => .bad)
    (hb : (ri.bnd fun xs S => Ev.compL f xs [] S) ≠ .bad) (hx : XOk Z W E0 ρ σ (ri.bnd fun xs S => Ev.compL f xs [] S)) :
    bE X (.ListComp elt [⟨tgt, iter, ifs, 0⟩] scope pos) σ p.H (PostL Z p (ri.bnd fun xs S => Ev.compL f xs [] S)) := by
  have hown : (ownOf N own).map (·.2) = own := by
    unfold ownOf
    rw [List.map_map]
    exact List.map_id' _
  refine bE.of (pe_lc (own := ownOf N own) (g := gTg X.K tg)
    (tt := fun σ H Q => ∀ s0 H0 C cl fp, bTs (X.blk s0 H0 scope (compEnvC scope cl C X.env) fp) ifs σ H Q) (te := fun σ H Q => ∀ s0 H0 C cl fp, bE (X.blk s0 H0 scope (compEnvC scope cl C X.env) fp) elt σ H Q)
    xf.calm (by rw [xf.hN]; exact xf.nd) pib (blkOk_by (by rw [xf.hN]; exact hbl)) htg (fun s H C cl fp => ⟨fun pins s1 σ1 H1 Q I q => ptsb.run pins s1 σ1 H1 Q I (q s H C cl fp)⟩) (fun s H C cl fp => ⟨fun pins s1 σ1 H1 Q I q => peb.run pins s1 σ1 H1 Q I (q s H C cl fp)⟩) (folded hpi X.env)) ?_
  rw [hown]
  exact comp_tlc xf hbl hin hpi htg sr hi hc he hf hb hx fun _ _ q => q
end
end Snd

set_option Elab.async false
set_option linter.all false
set_option maxRecDepth 100000
set_option maxHeartbeats 2000000
/-! Expressions. -/
namespace Snd
open PySem PySem.Spec PyProof.Rows L2
section
variable {Z : Fx} {T : Ev.Tbl} {k : Nat} {N : List Str}
/-- f(..), the callee known -/
theorem call_expr {W : WX} {X : Cx} {E0 p : Pt} {ρ : Ev.Env} {σ : L2.St} {β : Type} {f0 : Expr} {pos : Pos} {es : List Expr} {a : Addr} {ras : Ev.R (List Ev.D)} {fr : List Ev.D → Ev.Sto → Ev.R β}
    (hload : ∀ pins s, Inv X pins σ p.H s → wpAny (model X.prog X.w) X.A (eval f0 X.env) (fun u s1 => u = .ref a ∧ Inv X pins σ p.H s1) X.xe s) (hf0 : ∃ x p0, f0 = .Name x p0) (hk : PySem.W.keepIn X.K (.ref a) = true) (hp : ∀ e ∈ es, plain e = true)
    (sr : SR Z E0 ρ σ p) (hnil : es = [] → ras = .ok [] p.S) (hes : ras ≠ .bad → XOk Z W E0 ρ σ ras → bA X es σ p.H (PostEs Z p ras)) (hb : ras.bnd fr ≠ .bad) (hx : XOk Z W E0 ρ σ (ras.bnd fr)) {Q : VK}
    (hc : ∀ (p1 : Pt) (ds : List Ev.D) (vs : List V) (us : List Value) (pins : List (Addr × Obj)) (s : Shared), GoodP Z p1 → Ext p p1 → p1.Rs Z vs ds → fr ds p1.S ≠ .bad → XOk Z W E0 ρ σ (fr ds p1.S) → ras.bnd fr = fr ds p1.S → Inv X pins σ p1.H s → Vals vs us →
      wpAny (model X.prog X.w) X.A (call (.ref a) us) (EP X pins σ Q) X.xe s) :
    bE X (.Call f0 es [] pos) σ p.H Q := by
  obtain ⟨x, p0, rfl⟩ := hf0
  intro pins s I
  refine wpAny_Call_Name_kw (thn (hload pins s I) fun u s0 ⟨eu, I0⟩ => ?_)
  subst eu
  replace I := I0
  cases es with
  | nil =>
    have e := hnil rfl
    rw [e] at hb hx hc
    exact PySem.W.callWith_K0 I.kIn hk (hc p [] [] [] pins s0 sr.good (Ext.refl p) .nil hb hx rfl I .nil)
  | cons e es =>
    refine PySem.W.callWith_K (h₀ := X.base) I.ok.mod.kin hk (thn (hes (nb1 hb) (xo1 hx) pos pins s0 I) fun us s1 ⟨vs, H1, I1, r, p1, ds, e1, er, g, x1, rs⟩ => ⟨I1.kIn, ?_⟩) (star1 (hp e List.mem_cons_self) es X.env) (plains_any (fun y hy => hp y (List.mem_cons_of_mem _ hy)) pos X.env)
    subst e1
    rw [er] at hb hx hc
    exact hc p1 ds vs us pins s1 g x1 rs hb hx rfl I1 r
theorem xo_same {α β : Type} {W : WX} {E0 : Pt} {ρ : Ev.Env} {σ : L2.St} {r : Ev.R α} {r' : Ev.R β} (h : XOk Z W E0 ρ σ r) (e : ∀ c fs S, r' = .exc c fs S → r = .exc c fs S) : XOk Z W E0 ρ σ r' := fun c fs S' z => h c fs S' (e c fs S' z)
theorem of_E {o : Option Ev.D} {p q : Pt} (e : Ext p q) {Q : VK → Prop} (hb : Ev.R.of o q.S ≠ .bad) {P : VK} (h : ∀ z, o = some z → ∀ v H', PostV Z q z v H' → PostE Z p (Ev.R.of o q.S) v H') : True := trivial
theorem post_of {o : Option Ev.D} {z : Ev.D} {p q : Pt} {v : V} {H' : Hp} (ho : o = some z) (h : PostV Z q z v H') (e : Ext p q) {r : Ev.R Ev.D} (hr : r = Ev.R.of o q.S) : PostE Z p r v H' := h.E e (by rw [hr, ho]; rfl)
theorem nil_of {nm : Nm} {as : Ev.Es} {sc : Scope} {es : List Expr} {F : Ev.Fns} {ρ : Ev.Env} {S : Ev.Sto} (h : chkEs nm N as sc es = true) (e : es = []) : Ev.evEs F as ρ S = .ok [] S := by
  subst e
  cases as with
  | nil => rfl
  | cons x xs => cases h
theorem reps_map {Z : Fx} {p : Pt} {f : Nat → V} {g : Nat → Ev.D} : ∀ (ns : List Nat), (∀ k, p.R Z (f k) (g k)) → p.Rs Z (ns.map f) (ns.map g)
  | [], _ => .nil
  | n :: ns, h => .cons (h n) (reps_map ns h)
mutual
theorem sE : ∀ (t : Ev.E) {X : Cx} {W : WX} {E0 p : Pt} {ρ : Ev.Env} {σ : L2.St} {e : Expr}, XF Z T k N W X → chkE Z.nm N t X.env.scope e = true → SR Z E0 ρ σ p → Ev.evE (Ev.fns T k) t ρ p.S ≠ .bad → XOk Z W E0 ρ σ (Ev.evE (Ev.fns T k) t ρ p.S) →
    bE X e σ p.H (PostE Z p (Ev.evE (Ev.fns T k) t ρ p.S))
  | .var i, X, W, E0, p, ρ, σ, e, xf, hc, sr, hb, hx => by
    unfold chkE at hc
    split at hc
    · obtain ⟨h1, h2, h3, h4⟩ := vis_ok hc
      have sl := sr.slot i
      unfold Ev.evE at hb ⊢
      split at hb
      · rename_i d hg
        rw [hg] at sl
        obtain ⟨v, e1, r⟩ := sl
        refine bE.of (pe_var (by rw [xf.hN]; exact h1) h2 h3 h4) ⟨v, ?_, p, d, rfl, rfl, sr.good, Ext.refl p, r⟩
        unfold sg at e1
        cases z : σ[i]? with
        | none => rw [z] at e1; cases e1
        | some o => rw [z] at e1; exact congrArg some e1
      · exact absurd rfl hb
    · cases hc
  | .int n, X, W, E0, p, ρ, σ, e, xf, hc, sr, hb, hx => by
    unfold chkE at hc
    split at hc
    · have e1 := of_decide_eq_true hc
      subst e1
      exact bE.of pe_int ⟨p, _, rfl, rfl, sr.good, Ext.refl p, .int _⟩
    · cases hc
  | .str s, X, W, E0, p, ρ, σ, e, xf, hc, sr, hb, hx => by
    unfold chkE at hc
    split at hc
    · have e1 := of_decide_eq_true hc
      subst e1
      exact bE.of pe_str ⟨p, _, rfl, rfl, sr.good, Ext.refl p, .str _⟩
    · cases hc
  | .bl b, X, W, E0, p, ρ, σ, e, xf, hc, sr, hb, hx => by
    unfold chkE at hc
    split at hc
    · have e1 := of_decide_eq_true hc
      subst e1
      exact bE.of pe_bl ⟨p, _, rfl, rfl, sr.good, Ext.refl p, .bl _⟩
    · cases hc
  | .non, X, W, E0, p, ρ, σ, e, xf, hc, sr, hb, hx => by
    unfold chkE at hc
    split at hc
    · exact bE.of pe_non ⟨p, _, rfl, rfl, sr.good, Ext.refl p, .non⟩
    · cases hc
  | .cst n, X, W, E0, p, ρ, σ, e, xf, hc, sr, hb, hx => by
    unfold chkE at hc
    split at hc
    · obtain ⟨h1, h2⟩ := and2 hc
      have e1 := of_decide_eq_true h1
      subst e1
      obtain ⟨g1, g2⟩ := glb_ok h2
      obtain ⟨d, e2, e3⟩ := of_nb (o := (Ev.fns T k).cst n) hb
      have e4 : T.cst n = some d := by rw [← e2]; cases k <;> rfl
      obtain ⟨v, u, m1, m2, m3⟩ := xf.pf.cst n d e4
      refine bE.of (pe_glob g1 m1 m2 g2) ⟨p, d, rfl, e3, sr.good, Ext.refl p, m3 _ _⟩
    · cases hc
  | .fnc f, X, W, E0, p, ρ, σ, e, xf, hc, sr, hb, hx => by
    unfold chkE at hc
    split at hc
    · obtain ⟨h1, h2⟩ := and2 hc
      obtain ⟨h0, h3⟩ := and2 h1
      have e1 := of_decide_eq_true h0
      subst e1
      obtain ⟨g1, g2⟩ := glb_ok h2
      obtain ⟨m1, m2⟩ := xf.pf.glo f h3
      exact bE.of (pe_glob (v := .ref (Z.ad.fa f)) g1 m1 rfl g2) ⟨p, _, rfl, rfl, sr.good, Ext.refl p, .fn f m2⟩
    · cases hc
  | .bin o a b, X, W, E0, p, ρ, σ, e, xf, hc, sr, hb, hx => by
    unfold chkE at hc
    split at hc
    · obtain ⟨h1, h2⟩ := and2 hc
      obtain ⟨h3, h4⟩ := and2 h2
      have e1 := of_decide_eq_true h1
      subst e1
      unfold Ev.evE at hb hx ⊢
      refine bE.of (pe_op op2b peb peb) ?_
      refine stepE (sE a xf h3 sr) hb hx fun p1 d v g1 x1 r1 hb hx e1 => ?_
      rw [e1]
      refine stepE (sE b xf h4 (sr.step g1 x1)) hb hx fun p2 d2 v2 g2 x2 r2 hb hx e2 => ?_
      rw [e2]
      obtain ⟨z, h5, h6⟩ := of_nb hb
      exact (bin_ok o xf.hK h5 g2 (r1.mono x2.g x2.t) r2).mono fun v H' q => q.E (x1.trans x2) h6
    · cases hc
  | .neg a, X, W, E0, p, ρ, σ, e, xf, hc, sr, hb, hx => by
    unfold chkE at hc
    split at hc
    · unfold Ev.evE at hb hx ⊢
      refine bE.of (pe_un op1b peb) ?_
      refine stepE (sE a xf hc sr) hb hx fun p1 d v g1 x1 r1 hb hx e1 => ?_
      rw [e1]
      obtain ⟨z, h5, h6⟩ := of_nb hb
      exact fun pins s σ' u I ru => thn (neg_ok h5 g1 r1 pins s σ' u I ru) fun w s' ⟨y, H', I', ry, q⟩ => ⟨y, H', I', ry, q.E x1 h6⟩
    · cases hc
  | .not a, X, W, E0, p, ρ, σ, e, xf, hc, sr, hb, hx => by
    unfold chkE at hc
    split at hc
    · unfold Ev.evE at hb hx ⊢
      refine bE.of (pe_not peb) ?_
      refine stepE (sE a xf hc sr) hb hx fun p1 d v g1 x1 r1 hb hx e1 => ?_
      rw [e1]
      obtain ⟨z, h5, h6⟩ := of_nb hb
      obtain ⟨c, e2, q⟩ := not_ok h5 g1 r1
      exact ⟨c, e2, q.E x1 h6⟩
    · cases hc
  | .cmp o a b, X, W, E0, p, ρ, σ, e, xf, hc, sr, hb, hx => by
    unfold chkE at hc
    split at hc
    · obtain ⟨h1, h2⟩ := and2 hc
      obtain ⟨h3, h4⟩ := and2 h2
      have e1 := of_decide_eq_true h1
      subst e1
      unfold Ev.evE at hb hx ⊢
      refine bE.of (pe_cmpR op2b peb peb (marks (plainB h4) _)) ?_
      refine stepB (sB a xf h3 sr) hb hx fun p1 d v g1 x1 r1 hb hx e1 => ?_
      rw [e1]
      refine stepB (sB b xf h4 (sr.step g1 x1)) hb hx fun p2 d2 v2 g2 x2 r2 hb hx e2 => ?_
      rw [e2]
      obtain ⟨z, h5, h6⟩ := of_nb hb
      obtain ⟨c, h7, rfl⟩ := Option.map_eq_some_iff.mp h5
      exact (cmp_ok o xf.hK xf.hu h7 (sr.step g2 (x1.trans x2)) (r1.step x2) r2).mono fun v H' q => q.E (x1.trans x2) h6
    · cases hc
  | .chain o o' a b c, X, W, E0, p, ρ, σ, e, xf, hc, sr, hb, hx => by
    unfold chkE at hc
    split at hc
    · obtain ⟨h1, h2⟩ := and2 hc
      obtain ⟨h0, h0'⟩ := and2 h1
      obtain ⟨h3, h4⟩ := and2 h2
      obtain ⟨h4, h5⟩ := and2 h4
      have e1 := of_decide_eq_true h0
      have e2 := of_decide_eq_true h0'
      subst e1 e2
      unfold Ev.evE at hb hx ⊢
      refine bE.of (pe_chain op2b op2b peb peb peb (marks (plainE h5) _)) ?_
      refine stepE (sE a xf h3 sr) hb hx fun p1 d v g1 x1 r1 hb hx e1 => ?_
      rw [e1]
      refine stepE (sE b xf h4 (sr.step g1 x1)) hb hx fun p2 d2 v2 g2 x2 r2 hb hx e2 => ?_
      rw [e2]
      obtain ⟨z, h6, h7⟩ := of_nb (nb1 hb)
      rw [h7] at hb hx ⊢
      simp only [Ev.R.bnd_ok] at hb hx ⊢
      refine (cmp_ok (Z := Z) (ρ := ρ) (σ := σ) o xf.hK xf.hu h6 (sr.step g2 (x1.trans x2)) (.inl (r1.mono x2.g x2.t)) (.inl r2)).mono fun v3 H3 q => ?_
      obtain ⟨rfl, p3, rfl, eS, g3, x3⟩ := q.b
      refine ⟨z, rfl, ?_⟩
      rw [← eS] at hb hx ⊢
      cases z with
      | true =>
        rw [if_pos rfl] at hb hx ⊢
        rw [if_pos rfl]
        refine stepE (sE c xf h5 (sr.step g3 ((x1.trans x2).trans x3))) hb hx fun p4 d4 v4 g4 x4 r4 hb hx e4 => ?_
        rw [e4]
        obtain ⟨y, h8, h9⟩ := of_nb hb
        obtain ⟨y', h10, rfl⟩ := Option.map_eq_some_iff.mp h8
        have x34 := x3.trans x4
        exact (cmp_ok (Z := Z) (ρ := ρ) (σ := σ) o' xf.hK xf.hu h10 (sr.step g4 ((x1.trans x2).trans x34)) (.inl (r2.mono x34.g x34.t)) (.inl r4)).mono fun v H' q => q.E ((x1.trans x2).trans x34) h9
      | false =>
        rw [if_neg Bool.false_ne_true] at hb hx ⊢
        rw [if_neg Bool.false_ne_true]
        exact ⟨p3, _, rfl, rfl, g3, (x1.trans x2).trans x3, .bl _⟩
    · cases hc
  | .isn a, X, W, E0, p, ρ, σ, e, xf, hc, sr, hb, hx => by
    unfold chkE at hc
    split at hc
    · unfold Ev.evE at hb hx ⊢
      refine bE.of (pe_cmp (pc_isN peb) rfl) ?_
      refine stepE (sE a xf hc sr) hb hx fun p1 d v g1 x1 r1 hb hx e1 => ?_
      rw [e1, non_of r1]
      exact ⟨p1, _, rfl, rfl, g1, x1, .bl _⟩
    · cases hc
  | .isnn a, X, W, E0, p, ρ, σ, e, xf, hc, sr, hb, hx => by
    unfold chkE at hc
    split at hc
    · unfold Ev.evE at hb hx ⊢
      refine bE.of (pe_cmp (pc_notN peb) rfl) ?_
      refine stepE (sE a xf hc sr) hb hx fun p1 d v g1 x1 r1 hb hx e1 => ?_
      rw [e1, non_of r1]
      exact ⟨p1, _, rfl, rfl, g1, x1, .bl _⟩
    · cases hc
  | .and a b, X, W, E0, p, ρ, σ, e, xf, hc, sr, hb, hx => by
    unfold chkE at hc
    split at hc
    · rename_i x y r pos
      obtain ⟨h1, h2⟩ := and2 hc
      unfold Ev.evE at hb hx ⊢
      have rest : ∀ {p1 : Pt}, SR Z E0 ρ σ p1 → Ev.evE (Ev.fns T k) b ρ p1.S ≠ .bad → XOk Z W E0 ρ σ (Ev.evE (Ev.fns T k) b ρ p1.S) → bE X (.BoolOp .And (y :: r) pos) σ p1.H (PostE Z p1 (Ev.evE (Ev.fns T k) b ρ p1.S)) := fun {p1} sr hb hx => by
        cases r with
        | nil => exact bE.of (pe_one peb) (sE b xf h2 sr hb hx)
        | cons z zs => exact sE b xf h2 sr hb hx
      refine bE.of (pe_and peb peb) ?_
      refine stepE (sE a xf h1 sr) hb hx fun p1 d v g1 x1 r1 hb hx e1 => ?_
      rw [e1]
      split at hb
      · cases r1
        exact ⟨true, rfl, by rw [if_pos rfl]; exact (rest (sr.step g1 x1) hb hx).mono fun v H' q => q.E x1 rfl⟩
      · cases r1
        exact ⟨false, rfl, by rw [if_neg Bool.false_ne_true]; exact ⟨p1, _, rfl, rfl, g1, x1, .bl _⟩⟩
      · exact absurd rfl hb
    · cases hc
  | .or a b, X, W, E0, p, ρ, σ, e, xf, hc, sr, hb, hx => by
    unfold chkE at hc
    split at hc
    · rename_i x y r pos
      obtain ⟨h1, h2⟩ := and2 hc
      unfold Ev.evE at hb hx ⊢
      have rest : ∀ {p1 : Pt}, SR Z E0 ρ σ p1 → Ev.evE (Ev.fns T k) b ρ p1.S ≠ .bad → XOk Z W E0 ρ σ (Ev.evE (Ev.fns T k) b ρ p1.S) → bE X (.BoolOp .Or (y :: r) pos) σ p1.H (PostE Z p1 (Ev.evE (Ev.fns T k) b ρ p1.S)) := fun {p1} sr hb hx => by
        cases r with
        | nil => exact bE.of (pe_one peb) (sE b xf h2 sr hb hx)
        | cons z zs => exact sE b xf h2 sr hb hx
      refine bE.of (pe_or peb peb) ?_
      refine stepE (sE a xf h1 sr) hb hx fun p1 d v g1 x1 r1 hb hx e1 => ?_
      rw [e1]
      split at hb
      · cases r1
        exact ⟨true, rfl, by rw [if_pos rfl]; exact ⟨p1, _, rfl, rfl, g1, x1, .bl _⟩⟩
      · cases r1
        exact ⟨false, rfl, by rw [if_neg Bool.false_ne_true]; exact (rest (sr.step g1 x1) hb hx).mono fun v H' q => q.E x1 rfl⟩
      · exact absurd rfl hb
    · cases hc
  | .ite t a b, X, W, E0, p, ρ, σ, e, xf, hc, sr, hb, hx => by
    unfold chkE at hc
    split at hc
    · obtain ⟨h1, h2⟩ := and2 hc
      obtain ⟨h2, h3⟩ := and2 h2
      unfold Ev.evE at hb hx ⊢
      refine bE.of (pe_ifExp ptb peb peb) ?_
      refine stepT (sT t xf h1 sr) hb hx fun p1 c g1 x1 hb hx e1 => ?_
      rw [e1]
      cases c with
      | true =>
        rw [if_pos rfl] at hb hx ⊢
        rw [if_pos rfl]
        exact (sE a xf h2 (sr.step g1 x1) hb hx).mono fun v H' q => q.E x1 rfl
      | false =>
        rw [if_neg Bool.false_ne_true] at hb hx ⊢
        rw [if_neg Bool.false_ne_true]
        exact (sE b xf h3 (sr.step g1 x1) hb hx).mono fun v H' q => q.E x1 rfl
    · cases hc
  | .tup as, X, W, E0, p, ρ, σ, e, xf, hc, sr, hb, hx => by
    unfold chkE at hc
    split at hc
    · unfold Ev.evE at hb hx ⊢
      refine bE.of (pe_tup pab) ?_
      refine stepEs (sEs as xf hc sr) hb hx fun p1 ds vs g1 x1 r1 hb hx e1 => ?_
      rw [e1]
      by_cases hz : ds.length ≤ Ev.line
      · simp only [if_pos hz]
        exact ⟨by rw [r1.length, ← line_eq]; exact hz, fun l hl => (PostV.newTup g1 r1 hl).E x1 rfl⟩
      · simp only [if_neg hz] at hb
        exact absurd rfl hb
    · cases hc
  | .frz l, X, W, E0, p, ρ, σ, e, xf, hc, sr, hb, hx => by
    unfold Ev.evE at hb hx ⊢
    exact (sL l xf hc sr (nb1 hb) (xo1 hx)).mono fun v H' q => q.frz
  | .idx a i, X, W, E0, p, ρ, σ, e, xf, hc, sr, hb, hx => by
    unfold chkE at hc
    split at hc
    · obtain ⟨h1, h2⟩ := and2 hc
      unfold Ev.evE at hb hx ⊢
      refine bE.of (pe_ix ixb peb peb (plainIx (plainE h2))) ?_
      refine stepB (sB a xf h1 sr) hb hx fun p1 d v g1 x1 r1 hb hx e1 => ?_
      rw [e1]
      refine stepE (sE i xf h2 (sr.step g1 x1)) hb hx fun p2 d2 v2 g2 x2 r2 hb hx e2 => ?_
      rw [e2]
      obtain ⟨z, h5, h6⟩ := of_nb hb
      exact fun value slice pins s σ' u w I ru rw' hs => thn (idx_ok xf.hK h5 (sr.step g2 (x1.trans x2)) (r1.step x2) r2 value slice pins s σ' u w I ru rw' hs) fun w s' ⟨y, H', I', ry, q⟩ => ⟨y, H', I', ry, q.E (x1.trans x2) h6⟩
    · cases hc
  | .slice a lo hi, X, W, E0, p, ρ, σ, e, xf, hc, sr, hb, hx => by
    unfold chkE at hc
    split at hc
    · obtain ⟨h1, h2⟩ := and2 hc
      obtain ⟨h2, h3⟩ := and2 h2
      unfold Ev.evE at hb hx ⊢
      refine bE.of (pe_slice (sl_str.or sl_tupA) peb pob pob) ?_
      refine stepE (sE a xf h1 sr) hb hx fun p1 d v g1 x1 r1 hb hx e1 => ?_
      rw [e1]
      refine sO lo xf h2 (sr.step g1 x1) (nb1 hb) (xo1 hx) _ fun p2 l el g2 x2 => ?_
      rw [el] at hb hx ⊢
      simp only [Ev.R.bnd_ok] at hb hx ⊢
      refine sO hi xf h3 (sr.step g2 (x1.trans x2)) (nb1 hb) (xo1 hx) _ fun p3 u eu g3 x3 => ?_
      rw [eu] at hb hx ⊢
      simp only [Ev.R.bnd_ok] at hb hx ⊢
      obtain ⟨z, h5, h6⟩ := of_nb hb
      have x23 := x2.trans x3
      rcases slice_ok (X := X) xf.hK h5 g3 (r1.mono x23.g x23.t) with q | q
      · obtain ⟨y, q1, q2, q3⟩ := q
        exact .inl ⟨y, q1, q2, q3.E (x1.trans x23) h6⟩
      · obtain ⟨y, q1, q2, q3, q4, q5⟩ := q
        exact .inr ⟨y, q1, q2, q3, fun w => (q4 w).E (x1.trans x23) h6, fun w l hl => (q5 w l hl).E (x1.trans x23) h6⟩
    · cases hc
  | .fld a f, X, W, E0, p, ρ, σ, e, xf, hc, sr, hb, hx => by
    unfold chkE at hc
    split at hc
    · obtain ⟨h1, h2⟩ := and2 hc
      obtain ⟨h2, h3⟩ := and2 h2
      have e1 := of_decide_eq_true h1
      subst e1
      unfold Ev.evE at hb hx ⊢
      refine bE.of (pe_fld peb (abase h2 _ _)) ?_
      refine stepE (sE a xf h3 sr) hb hx fun p1 d v g1 x1 r1 hb hx e1 => ?_
      rw [e1]
      obtain ⟨z, h5, h6⟩ := of_nb hb
      unfold Ev.fldV at h5
      split at h5
      · cases r1 with
        | obj cl q1 q2 rf =>
          obtain ⟨w, f1, f2, f3⟩ := rf.lookup h5
          refine ⟨_, _, _, _, w, rfl, g1.sub _ _ q1, by rw [xf.hK]; exact cl, by rw [xf.hK]; exact f3, f1, ?_⟩
          exact (PostV.same g1 f2).E x1 h6
      · cases h5
    · cases hc
  | .call f as, X, W, E0, p, ρ, σ, e, xf, hc, sr, hb, hx => by
    unfold chkE at hc
    split at hc
    · rename_i x p0 es pos
      obtain ⟨h1, h2⟩ := and2 hc
      obtain ⟨h0, h3⟩ := and2 h1
      obtain ⟨h4, h5⟩ := and2 h0
      have e1 := of_decide_eq_true h4
      subst e1
      obtain ⟨g1, g2⟩ := glb_ok h3
      unfold Ev.evE at hb hx ⊢
      obtain ⟨m1, m2⟩ := xf.pf.glo f h5
      refine call_expr (fun pins s I => ld_glob I g1 m1 ⟨rfl, I⟩ g2) ⟨_, _, rfl⟩ (by rw [xf.hK]; exact m2) (plainEs h2) sr (nil_of h2) (sEs as xf h2 sr) hb hx fun p1 ds vs us pins s g x1 rs hb hx e1 I rv => ?_
      rw [e1]
      refine call_ok xf (nb1 hb) (sr.step g x1) rs I rv (xo1 hx) fun r p' v er g' x' rr => ?_
      obtain ⟨q, q1, q2, q3, q4, q5⟩ := rr.frz g' x'
      exact ⟨q, r.d, q1, by rw [er, q2]; rfl, q3, x1.trans q4, q5⟩
    · cases hc
  | .callv i as, X, W, E0, p, ρ, σ, e, xf, hc, sr, hb, hx => by
    unfold chkE at hc
    split at hc
    · rename_i x p0 es pos
      obtain ⟨h1, h2⟩ := and2 hc
      obtain ⟨h3, h4⟩ := and2 h2
      obtain ⟨v1, v2, v3, v4⟩ := vis_ok h1
      have sl := sr.slot i
      unfold Ev.evE at hb hx ⊢
      split at hb
      · rename_i f hg
        rw [hg] at sl hx
        obtain ⟨w, e1, r⟩ := sl
        cases r with
        | fn _ kp =>
          have e2 : σ[i]? = some (some (.ref (Z.ad.fa f))) := by
            unfold sg at e1
            cases z : σ[i]? with
            | none => rw [z] at e1; cases e1
            | some o => rw [z] at e1; exact congrArg some e1
          refine call_expr (fun pins s I => thn ((pe_var (pos := p0) (by rw [xf.hN]; exact v1) v2 v3 v4).run pins s σ p.H (fun v H1 => v = .ref (Z.ad.fa f) ∧ H1 = p.H) I ⟨_, e2, rfl, rfl⟩) fun u s1 ⟨v, H1, I1, r1, q1, q2⟩ => by subst q1 q2; exact ⟨r1, I1⟩) ⟨_, _, rfl⟩ (by rw [xf.hK]; exact kp) (plainEs h4) sr (nil_of h4) (sEs as xf h4 sr) hb hx fun p1 ds vs us pins s g x1 rs hb hx e1 I rv => ?_
          rw [e1]
          refine call_ok xf (nb1 hb) (sr.step g x1) rs I rv (xo1 hx) fun r p' v er g' x' rr => ?_
          obtain ⟨q, q1, q2, q3, q4, q5⟩ := rr.frz g' x'
          exact ⟨q, r.d, q1, by rw [er, q2]; rfl, q3, x1.trans q4, q5⟩
      · exact absurd rfl hb
    · cases hc
  | .mk c as, X, W, E0, p, ρ, σ, e, xf, hc, sr, hb, hx => by
    unfold chkE at hc
    split at hc
    · rename_i x p0 es pos
      obtain ⟨h1, h2⟩ := and2 hc
      obtain ⟨h0, h3⟩ := and2 h1
      obtain ⟨h4, h5⟩ := and2 h0
      have e1 := of_decide_eq_true h4
      subst e1
      obtain ⟨g1, g2⟩ := glb_ok h3
      unfold Ev.evE at hb hx ⊢
      obtain ⟨m1, m2⟩ := xf.pf.glc c h5
      refine call_expr (fun pins s I => ld_glob I g1 m1 ⟨rfl, I⟩ g2) ⟨_, _, rfl⟩ (by rw [xf.hK]; exact m2) (plainEs h2) sr (nil_of h2) (sEs as xf h2 sr) hb hx fun p1 ds vs us pins s g x1 rs hb hx e1 I rv => ?_
      rw [e1]
      exact make_ok xf hb (sr.step g x1) rs I rv hx fun z p' v er g' x' rr => ⟨p', z, rfl, er, g', x1.trans x', rr⟩
    · cases hc
  | .meth f o as, X, W, E0, p, ρ, σ, e, xf, hc, sr, hb, hx => by
    unfold chkE at hc
    split at hc
    · rename_i x m apos es pos
      obtain ⟨h1, h2⟩ := and2 hc
      obtain ⟨h3, h4⟩ := and2 h1
      obtain ⟨h5, h6⟩ := and2 h3
      obtain ⟨h7, h8⟩ := and2 h4
      obtain ⟨h9, h10⟩ := and2 h8
      obtain ⟨h11, h12⟩ := and2 h2
      have e1 := of_decide_eq_true h5
      subst e1
      unfold Ev.evE at hb hx ⊢
      obtain ⟨pl, ht⟩ := mcall (m := Z.nm.ms f) (apos := apos) (pos := pos) (env := X.env) h7 (plainEs h12) (of_decide_eq_true h9) h10
      have mt := xf.pf.meth f h6
      intro pins s I
      refine PySem.W.methodCall_KW (pl := pl) (thn ((stepE (sE o xf h11 sr) hb hx (Q := fun v H1 => ∃ p1 d, p1.H = H1 ∧ GoodP Z p1 ∧ Ext p p1 ∧ p1.R Z v d ∧ (if Ev.fld! d ((Ev.fns T k).mcls f) then (Ev.evEs (Ev.fns T k) as ρ p1.S).bnd fun xs S => ((Ev.fns T k).call f (d :: xs) S).bnd fun r S => .ok r.d S else .bad) ≠ .bad ∧
        XOk Z W E0 ρ σ (if Ev.fld! d ((Ev.fns T k).mcls f) then (Ev.evEs (Ev.fns T k) as ρ p1.S).bnd fun xs S => ((Ev.fns T k).call f (d :: xs) S).bnd fun r S => .ok r.d S else .bad) ∧ ((Ev.evE (Ev.fns T k) o ρ p.S).bnd fun x S => if Ev.fld! x ((Ev.fns T k).mcls f) then (Ev.evEs (Ev.fns T k) as ρ S).bnd fun xs S => ((Ev.fns T k).call f (x :: xs) S).bnd fun r S => .ok r.d S else .bad) =
          (if Ev.fld! d ((Ev.fns T k).mcls f) then (Ev.evEs (Ev.fns T k) as ρ p1.S).bnd fun xs S => ((Ev.fns T k).call f (d :: xs) S).bnd fun r S => .ok r.d S else .bad))
        fun p1 d v g1 x1 r1 hb hx e1 => ⟨p1, d, rfl, g1, x1, r1, hb, hx, e1⟩) pins s I) fun u s1 ⟨v, H1, I1, rv, p1, d, eH, g1, x1, r1, hb, hx, e1⟩ => ?_) ht
      subst eH
      rw [e1]
      by_cases hf : Ev.fld! d ((Ev.fns T k).mcls f) = true
      · rw [if_pos hf] at hb hx ⊢
        unfold Ev.fld! at hf
        split at hf
        · rename_i c fs
          have ec : c = T.mcls f := by
            have := of_decide_eq_true hf
            rw [this]; cases k <;> rfl
          subst ec
          cases r1 with
          | @obj a dx vs _ ds cl q1 q2 rf =>
            cases rv
            have nl : vs.lookup (Z.nm.ms f) = none := rf.noneAt (fun n => by
              have := mt.at_
              rw [show PySem.W.findIn Z.K (.ref (Z.ad.ca (T.mcls f))) (Z.nm.ms f) = some none from n] at this
              cases this)
            have hm1 := g1.sub _ _ q1
            refine getmeth_ok I1 hm1 (by rw [xf.hK]; exact cl) (by rw [xf.hK]; exact mt) nl ?_
            have fin : ∀ (p2 : Pt) (xs : List Ev.D) (vs2 : List V) (us : List Value) (s2 : Shared), GoodP Z p2 → Ext p1 p2 → p2.Rs Z vs2 xs → ((Ev.fns T k).call f (.obj (T.mcls f) fs :: xs) p2.S).bnd (fun r S => Ev.R.ok r.d S) ≠ .bad → XOk Z W E0 ρ σ (((Ev.fns T k).call f (.obj (T.mcls f) fs :: xs) p2.S).bnd fun r S => Ev.R.ok r.d S) →
                ((Ev.evEs (Ev.fns T k) as ρ p1.S).bnd fun xs S => ((Ev.fns T k).call f (.obj (T.mcls f) fs :: xs) S).bnd fun r S => .ok r.d S) = (((Ev.fns T k).call f (.obj (T.mcls f) fs :: xs) p2.S).bnd fun r S => Ev.R.ok r.d S) → Inv X pins σ p2.H s2 → Vals vs2 us →
                wpAny (model X.prog X.w) X.A (call (.ref (Z.ad.fa f)) (.ref a :: us)) (EP X pins σ (PostE Z p ((Ev.evEs (Ev.fns T k) as ρ p1.S).bnd fun xs S => ((Ev.fns T k).call f (.obj (T.mcls f) fs :: xs) S).bnd fun r S => .ok r.d S))) X.xe s2 := fun p2 xs vs2 us s2 g2 x2 r2 hb hx e2 I2 rv2 => by
              rw [e2]
              have q1' := x2.g _ _ q1
              refine call_ok xf (vs := .ref a :: vs2) (nb1 hb) (sr.step g2 (x1.trans x2)) (.cons (.obj cl q1' (x2.g _ _ q2) (rf.mono x2.g x2.t)) r2) I2 (.cons rfl rv2) (xo1 hx) fun r p' v er g' x' rr => ?_
              obtain ⟨q, q1, q2, q3, q4, q5⟩ := rr.frz g' x'
              exact ⟨q, r.d, q1, by rw [er, q2]; rfl, q3, (x1.trans x2).trans q4, q5⟩
            cases es with
            | nil =>
              have en := nil_of (F := Ev.fns T k) (ρ := ρ) (S := p1.S) h12 rfl
              rw [en] at hb hx fin ⊢
              exact PySem.W.callWith_K0 (first := [.ref a]) I1.kIn (by rw [xf.hK]; exact mt.kp) (fin p1 [] [] [] s1 g1 (Ext.refl p1) .nil hb hx rfl I1 .nil)
            | cons y ys =>
              have py := plainEs h12
              refine PySem.W.callWith_K (first := [.ref a]) (h₀ := X.base) I1.ok.mod.kin (by rw [xf.hK]; exact mt.kp) (thn (sEs as xf h12 (sr.step g1 x1) (nb1 hb) (xo1 hx) pos pins s1 I1) fun us s2 ⟨vs2, H2, I2, rv2, p2, ds2, e3, er, g2, x2, rs2⟩ => ⟨I2.kIn, ?_⟩) (star1 (py y List.mem_cons_self) _ _) (plains_any (fun z hz => py z (List.mem_cons_of_mem _ hz)) pos X.env)
              subst e3
              rw [er] at hb hx fin ⊢
              exact fin p2 ds2 vs2 us s2 g2 x2 rs2 hb hx rfl I2 rv2
        · cases hf
      · rw [if_neg hf] at hb
        exact absurd rfl hb
    · cases hc
  | .len a, X, W, E0, p, ρ, σ, e, xf, hc, sr, hb, hx => by
    unfold chkE at hc
    split at hc
    · obtain ⟨h1, h2⟩ := and2 hc
      unfold Ev.evE at hb hx ⊢
      refine bE.of (blt1 xf (by decide +kernel) PySem.boot_len h1 (plainB h2)) ?_
      refine stepB (sB a xf h2 sr) hb hx fun p1 d v g1 x1 r1 hb hx e1 => ?_
      rw [e1]
      obtain ⟨z, h5, h6⟩ := of_nb hb
      exact fun pins s σ' us I ru => thn (len_ok xf.hK h5 (sr.step g1 x1) r1 pins s σ' us I ru) fun w s' ⟨y, H', I', ry, q⟩ => ⟨y, H', I', ry, q.E x1 h6⟩
    · cases hc
  | .max2 a b, X, W, E0, p, ρ, σ, e, xf, hc, sr, hb, hx => by
    unfold chkE at hc
    split at hc
    · obtain ⟨h1, h2⟩ := and2 hc
      obtain ⟨h2, h3⟩ := and2 h2
      unfold Ev.evE at hb hx ⊢
      refine bE.of (blt2 xf (id := "max") (by decide +kernel) (by decide +kernel) h1 (plainE h2) (plainE h3)) ?_
      refine stepE (sE a xf h2 sr) hb hx fun p1 d v g1 x1 r1 hb hx e1 => ?_
      rw [e1]
      refine stepE (sE b xf h3 (sr.step g1 x1)) hb hx fun p2 d2 v2 g2 x2 r2 hb hx e2 => ?_
      rw [e2]
      obtain ⟨z, h5, h6⟩ := of_nb hb
      exact fun pins s σ' us I ru => thn (max_ok xf.calm h5 g2 (r1.mono x2.g x2.t) r2 pins s σ' us I ru) fun w s' ⟨y, H', I', ry, q⟩ => ⟨y, H', I', ry, q.E (x1.trans x2) h6⟩
    · cases hc
  | .min2 a b, X, W, E0, p, ρ, σ, e, xf, hc, sr, hb, hx => by
    unfold chkE at hc
    split at hc
    · obtain ⟨h1, h2⟩ := and2 hc
      obtain ⟨h2, h3⟩ := and2 h2
      unfold Ev.evE at hb hx ⊢
      refine bE.of (blt2 xf (id := "min") (by decide +kernel) (by decide +kernel) h1 (plainE h2) (plainE h3)) ?_
      refine stepE (sE a xf h2 sr) hb hx fun p1 d v g1 x1 r1 hb hx e1 => ?_
      rw [e1]
      refine stepE (sE b xf h3 (sr.step g1 x1)) hb hx fun p2 d2 v2 g2 x2 r2 hb hx e2 => ?_
      rw [e2]
      obtain ⟨z, h5, h6⟩ := of_nb hb
      exact fun pins s σ' us I ru => thn (min_ok xf.calm h5 g2 (r1.mono x2.g x2.t) r2 pins s σ' us I ru) fun w s' ⟨y, H', I', ry, q⟩ => ⟨y, H', I', ry, q.E (x1.trans x2) h6⟩
    · cases hc
  | .maxL a, X, W, E0, p, ρ, σ, e, xf, hc, sr, hb, hx => by
    unfold chkE at hc
    split at hc
    · obtain ⟨h1, h2⟩ := and2 hc
      unfold Ev.evE at hb hx ⊢
      refine bE.of (blt1 xf (id := "max") (by decide +kernel) (by decide +kernel) h1 (plainB h2)) ?_
      refine stepB (sB a xf h2 sr) hb hx fun p1 d v g1 x1 r1 hb hx e1 => ?_
      rw [e1]
      obtain ⟨z, h5, h6⟩ := of_nb hb
      exact fun pins s σ' us I ru => thn (maxL_ok xf.hK xf.calm h5 (sr.step g1 x1) r1 pins s σ' us I ru) fun w s' ⟨y, H', I', ry, q⟩ => ⟨y, H', I', ry, q.E x1 h6⟩
    · cases hc
  | .minL a, X, W, E0, p, ρ, σ, e, xf, hc, sr, hb, hx => by
    unfold chkE at hc
    split at hc
    · obtain ⟨h1, h2⟩ := and2 hc
      unfold Ev.evE at hb hx ⊢
      refine bE.of (blt1 xf (id := "min") (by decide +kernel) (by decide +kernel) h1 (plainB h2)) ?_
      refine stepB (sB a xf h2 sr) hb hx fun p1 d v g1 x1 r1 hb hx e1 => ?_
      rw [e1]
      obtain ⟨z, h5, h6⟩ := of_nb hb
      exact fun pins s σ' us I ru => thn (minL_ok xf.hK xf.calm h5 (sr.step g1 x1) r1 pins s σ' us I ru) fun w s' ⟨y, H', I', ry, q⟩ => ⟨y, H', I', ry, q.E x1 h6⟩
    · cases hc
  | .sum a, X, W, E0, p, ρ, σ, e, xf, hc, sr, hb, hx => by
    unfold chkE at hc
    split at hc
    · obtain ⟨h1, h2⟩ := and2 hc
      unfold Ev.evE at hb hx ⊢
      refine bE.of (blt1 xf (id := "sum") (by decide +kernel) (by decide +kernel) h1 (plainB h2)) ?_
      refine stepB (sB a xf h2 sr) hb hx fun p1 d v g1 x1 r1 hb hx e1 => ?_
      rw [e1]
      obtain ⟨z, h5, h6⟩ := of_nb hb
      exact fun pins s σ' us I ru => thn (sum_ok xf.hK xf.calm h5 (sr.step g1 x1) r1 pins s σ' us I ru) fun w s' ⟨y, H', I', ry, q⟩ => ⟨y, H', I', ry, q.E x1 h6⟩
    · cases hc
  | .abs a, X, W, E0, p, ρ, σ, e, xf, hc, sr, hb, hx => by
    unfold chkE at hc
    split at hc
    · obtain ⟨h1, h2⟩ := and2 hc
      unfold Ev.evE at hb hx ⊢
      refine bE.of (blt1 xf (id := "abs") (by decide +kernel) (by decide +kernel) h1 (plainE h2)) ?_
      refine stepE (sE a xf h2 sr) hb hx fun p1 d v g1 x1 r1 hb hx e1 => ?_
      rw [e1]
      obtain ⟨z, h5, h6⟩ := of_nb hb
      exact fun pins s σ' us I ru => thn (abs_ok h5 g1 r1 pins s σ' us I ru) fun w s' ⟨y, H', I', ry, q⟩ => ⟨y, H', I', ry, q.E x1 h6⟩
    · cases hc
  | .toInt a, X, W, E0, p, ρ, σ, e, xf, hc, sr, hb, hx => by
    unfold chkE at hc
    split at hc
    · obtain ⟨h1, h2⟩ := and2 hc
      unfold Ev.evE at hb hx ⊢
      refine bE.of (blty1 xf (id := "int") (by decide +kernel) (by decide +kernel) h1 (plainE h2)) ?_
      refine stepE (sE a xf h2 sr) hb hx fun p1 d v g1 x1 r1 hb hx e1 => ?_
      rw [e1]
      obtain ⟨z, h5, h6⟩ := of_nb hb
      exact fun pins s σ' us I ru => thn (int_ok h5 g1 r1 pins s σ' us I ru) fun w s' ⟨y, H', I', ry, q⟩ => ⟨y, H', I', ry, q.E x1 h6⟩
    · cases hc
  | .isi a t, X, W, E0, p, ρ, σ, e, xf, hc, sr, hb, hx => by
    unfold chkE at hc
    split at hc
    · rename_i f y c pos
      obtain ⟨h1, h2⟩ := and2 hc
      obtain ⟨h3, h4⟩ := and2 h1
      obtain ⟨pc, rfl, gc⟩ := blt_ok h4
      have pc2 : PE X (.Name (tyOf t) pc) (tC (.ty (tyN t))) := pe_bltn gc (blt_free xf (ty_in t)) (boot_ty t) rfl (by cases t <;> decide +kernel) (by cases t <;> decide +kernel)
      obtain ⟨p0, rfl, hg⟩ := blt_ok h3
      unfold Ev.evE at hb hx ⊢
      have py := plainB h2
      refine bE.of (pe_callB (id := "isinstance") callb hg (blt_free xf (by decide +kernel)) (by decide +kernel) (pa_cons peb (pa_cons pc2 pa_nil rfl) (star1 py _ _)) (by decide) (by decide) (star1 py _ _) rfl) ?_
      refine stepB (sB a xf h2 sr) hb hx fun p1 d v g1 x1 r1 hb hx e1 => ?_
      rw [e1]
      obtain ⟨z, h5, h6⟩ := of_nb hb
      obtain ⟨b, h7, rfl⟩ := Option.map_eq_some_iff.mp h5
      exact fun pins s σ' us I ru => thn (isi_ok xf.hK t h7 (sr.step g1 x1) r1 pins s σ' us I ru) fun w s' ⟨y, H', I', ry, q⟩ => ⟨y, H', I', ry, q.E x1 h6⟩
    · cases hc
  | .tupof a, X, W, E0, p, ρ, σ, e, xf, hc, sr, hb, hx => by
    unfold chkE at hc
    split at hc
    · obtain ⟨h1, h2⟩ := and2 hc
      unfold Ev.evE at hb hx ⊢
      refine bE.of (blty1 xf (id := "tuple") (by decide +kernel) (by decide +kernel) h1 (plainB h2)) ?_
      refine stepB (sB a xf h2 sr) hb hx fun p1 d v g1 x1 r1 hb hx e1 => ?_
      rw [e1]
      obtain ⟨z, h5, h6⟩ := of_nb hb
      exact fun pins s σ' us I ru => thn (tupof_ok xf.hK h5 (sr.step g1 x1) r1 pins s σ' us I ru) fun w s' ⟨y, H', I', ry, q⟩ => ⟨y, H', I', ry, q.E x1 h6⟩
    · cases hc
theorem sB : ∀ (t : Ev.B) {X : Cx} {W : WX} {E0 p : Pt} {ρ : Ev.Env} {σ : L2.St} {e : Expr}, XF Z T k N W X → chkB Z.nm N t X.env.scope e = true → SR Z E0 ρ σ p → Ev.evB (Ev.fns T k) t ρ p.S ≠ .bad → XOk Z W E0 ρ σ (Ev.evB (Ev.fns T k) t ρ p.S) →
    bE X e σ p.H (PostB Z ρ σ p (Ev.evB (Ev.fns T k) t ρ p.S))
  | .e x, X, W, E0, p, ρ, σ, e, xf, hc, sr, hb, hx => (sE x xf hc sr hb hx).mono fun v H' ⟨p', d, e1, e2, g, x, r⟩ => ⟨p', d, e1, e2, g, x, .inl r⟩
  | .b i, X, W, E0, p, ρ, σ, e, xf, hc, sr, hb, hx => by
    unfold chkB at hc
    split at hc
    · obtain ⟨h1, h2, h3, h4⟩ := vis_ok hc
      have sl := sr.slot i
      unfold Ev.evB at hb ⊢
      split at hb
      · rename_i xs hg
        rw [hg] at sl
        obtain ⟨a, vs, e1, e2, r, _⟩ := sl
        refine bE.of (pe_var (by rw [xf.hN]; exact h1) h2 h3 h4) ⟨.ref a, ?_, p, .lst xs, rfl, rfl, sr.good, Ext.refl p, .inr ⟨i, xs, hg, e1, rfl⟩⟩
        unfold sg at e1
        cases z : σ[i]? with
        | none => rw [z] at e1; cases e1
        | some o => rw [z] at e1; exact congrArg some e1
      · exact absurd rfl hb
    · cases hc
theorem sEs : ∀ (t : Ev.Es) {X : Cx} {W : WX} {E0 p : Pt} {ρ : Ev.Env} {σ : L2.St} {es : List Expr}, XF Z T k N W X → chkEs Z.nm N t X.env.scope es = true → SR Z E0 ρ σ p → Ev.evEs (Ev.fns T k) t ρ p.S ≠ .bad → XOk Z W E0 ρ σ (Ev.evEs (Ev.fns T k) t ρ p.S) →
    bA X es σ p.H (PostEs Z p (Ev.evEs (Ev.fns T k) t ρ p.S))
  | .nil, X, W, E0, p, ρ, σ, es, xf, hc, sr, hb, hx => by
    unfold chkEs at hc
    split at hc
    · exact bA.of pa_nil ⟨p, [], rfl, rfl, sr.good, Ext.refl p, .nil⟩
    · cases hc
  | .cons x xs, X, W, E0, p, ρ, σ, es, xf, hc, sr, hb, hx => by
    unfold chkEs at hc
    split at hc
    · obtain ⟨h1, h2⟩ := and2 hc
      unfold Ev.evEs at hb hx ⊢
      refine bA.of (pa_cons peb pab (star1 (plainE h1) _ _)) ?_
      refine stepE (sE x xf h1 sr) hb hx fun p1 d v g1 x1 r1 hb hx e1 => ?_
      rw [e1]
      refine stepEs (sEs xs xf h2 (sr.step g1 x1)) hb hx fun p2 ds vs g2 x2 r2 hb hx e2 => ?_
      rw [e2]
      exact ⟨p2, d :: ds, rfl, rfl, g2, x1.trans x2, .cons (r1.mono x2.g x2.t) r2⟩
    · cases hc
theorem sO : ∀ (t : Ev.Oe) {X : Cx} {W : WX} {E0 p : Pt} {ρ : Ev.Env} {σ : L2.St} {e : Option Expr}, XF Z T k N W X → chkOe Z.nm N t X.env.scope e = true → SR Z E0 ρ σ p → Ev.evOe (Ev.fns T k) t ρ p.S ≠ .bad → XOk Z W E0 ρ σ (Ev.evOe (Ev.fns T k) t ρ p.S) →
    ∀ Q : Option Int → Hp → Prop, (∀ p' o, Ev.evOe (Ev.fns T k) t ρ p.S = .ok o p'.S → GoodP Z p' → Ext p p' → Q o p'.H) → bO X e σ p.H Q
  | .no, X, W, E0, p, ρ, σ, e, xf, hc, sr, hb, hx => fun Q h => by
    unfold chkOe at hc
    split at hc
    · exact ⟨_, po_none, h p none rfl sr.good (Ext.refl p)⟩
    · cases hc
  | .yes x, X, W, E0, p, ρ, σ, e, xf, hc, sr, hb, hx => fun Q h => by
    unfold chkOe at hc
    split at hc
    · refine ⟨_, po_some peb, ?_⟩
      unfold Ev.evOe at hb hx h
      refine stepE (sE x xf hc sr) hb hx fun p1 d v g1 x1 r1 hb hx e1 => ?_
      rw [e1] at h
      obtain ⟨o, h5, h6⟩ := of_nb hb
      obtain ⟨i, h7, rfl⟩ := Option.map_eq_some_iff.mp h5
      unfold Ev.intOf at h7
      split at h7
      · cases h7; cases r1
        exact ⟨_, rfl, h p1 _ h6 g1 x1⟩
      · cases h7
    · cases hc
theorem sT : ∀ (t : Ev.T) {X : Cx} {W : WX} {E0 p : Pt} {ρ : Ev.Env} {σ : L2.St} {e : Expr}, XF Z T k N W X → chkT Z.nm N t X.env.scope e = true → SR Z E0 ρ σ p → Ev.evT (Ev.fns T k) t ρ p.S ≠ .bad → XOk Z W E0 ρ σ (Ev.evT (Ev.fns T k) t ρ p.S) →
    bT X e σ p.H (PostT Z p (Ev.evT (Ev.fns T k) t ρ p.S))
  | .tru x, X, W, E0, p, ρ, σ, e, xf, hc, sr, hb, hx => by
    unfold chkT at hc
    obtain ⟨h1, h2⟩ := and2 hc
    unfold Ev.evT at hb hx ⊢
    refine bT.of (pt_truth peb (isT h1 X.env)) ?_
    refine stepB (sB x xf h2 sr) hb hx fun p1 d v g1 x1 r1 hb hx e1 => ?_
    rw [e1]
    obtain ⟨z, h5, h6⟩ := of_nb hb
    exact ⟨z, tru_ok' xf.hK h5 (sr.step g1 x1) r1, p1, rfl, h6, g1, x1⟩
  | .cmp o a b, X, W, E0, p, ρ, σ, e, xf, hc, sr, hb, hx => by
    unfold chkT at hc
    split at hc
    · obtain ⟨h1, h2⟩ := and2 hc
      obtain ⟨h3, h4⟩ := and2 h2
      have e1 := of_decide_eq_true h1
      subst e1
      unfold Ev.evT at hb hx ⊢
      refine bT.of (pt_cmpR op2b peb peb (marks (plainB h4) _)) ?_
      refine stepB (sB a xf h3 sr) hb hx fun p1 d v g1 x1 r1 hb hx e1 => ?_
      rw [e1]
      refine stepB (sB b xf h4 (sr.step g1 x1)) hb hx fun p2 d2 v2 g2 x2 r2 hb hx e2 => ?_
      rw [e2]
      obtain ⟨z, h5, h6⟩ := of_nb hb
      refine (cmp_ok o xf.hK xf.hu h5 (sr.step g2 (x1.trans x2)) (r1.step x2) r2).mono fun v H' q => ?_
      obtain ⟨rfl, p3, rfl, eS, g3, x3⟩ := q.b
      exact ⟨z, rfl, p3, rfl, by rw [h6, eS], g3, (x1.trans x2).trans x3⟩
    · cases hc
  | .chain o o' a b c, X, W, E0, p, ρ, σ, e, xf, hc, sr, hb, hx => by
    unfold chkT at hc
    split at hc
    · obtain ⟨h1, h2⟩ := and2 hc
      obtain ⟨h0, h0'⟩ := and2 h1
      obtain ⟨h3, h4⟩ := and2 h2
      obtain ⟨h4, h5⟩ := and2 h4
      have e1 := of_decide_eq_true h0
      have e2 := of_decide_eq_true h0'
      subst e1 e2
      unfold Ev.evT at hb hx ⊢
      refine bT.of (pt_chain op2b op2b peb peb peb (marks (plainE h5) _)) ?_
      refine stepE (sE a xf h3 sr) hb hx fun p1 d v g1 x1 r1 hb hx e1 => ?_
      rw [e1]
      refine stepE (sE b xf h4 (sr.step g1 x1)) hb hx fun p2 d2 v2 g2 x2 r2 hb hx e2 => ?_
      rw [e2]
      obtain ⟨z, h6, h7⟩ := of_nb (nb1 hb)
      rw [h7] at hb hx ⊢
      simp only [Ev.R.bnd_ok] at hb hx ⊢
      refine (cmp_ok (Z := Z) (ρ := ρ) (σ := σ) o xf.hK xf.hu h6 (sr.step g2 (x1.trans x2)) (.inl (r1.mono x2.g x2.t)) (.inl r2)).mono fun v3 H3 q => ?_
      obtain ⟨rfl, p3, rfl, eS, g3, x3⟩ := q.b
      refine ⟨z, rfl, ?_⟩
      rw [← eS] at hb hx ⊢
      cases z with
      | true =>
        rw [if_pos rfl] at hb hx ⊢
        rw [if_pos rfl]
        refine stepE (sE c xf h5 (sr.step g3 ((x1.trans x2).trans x3))) hb hx fun p4 d4 v4 g4 x4 r4 hb hx e4 => ?_
        rw [e4]
        obtain ⟨y, h8, h9⟩ := of_nb hb
        have x34 := x3.trans x4
        refine (cmp_ok (Z := Z) (ρ := ρ) (σ := σ) o' xf.hK xf.hu h8 (sr.step g4 ((x1.trans x2).trans x34)) (.inl (r2.mono x34.g x34.t)) (.inl r4)).mono fun v H' q => ?_
        obtain ⟨rfl, p5, rfl, eS5, g5, x5⟩ := q.b
        exact ⟨y, rfl, p5, rfl, by rw [h9, eS5], g5, ((x1.trans x2).trans x34).trans x5⟩
      | false =>
        rw [if_neg Bool.false_ne_true] at hb hx ⊢
        rw [if_neg Bool.false_ne_true]
        exact ⟨_, rfl, p3, rfl, rfl, g3, (x1.trans x2).trans x3⟩
    · cases hc
  | .isn a, X, W, E0, p, ρ, σ, e, xf, hc, sr, hb, hx => by
    unfold chkT at hc
    split at hc
    · unfold Ev.evT at hb hx ⊢
      refine bT.of (pt_cmp (pc_isN peb) rfl) ?_
      refine stepE (sE a xf hc sr) hb hx fun p1 d v g1 x1 r1 hb hx e1 => ?_
      rw [e1, non_of r1]
      exact ⟨_, rfl, p1, rfl, rfl, g1, x1⟩
    · cases hc
  | .isnn a, X, W, E0, p, ρ, σ, e, xf, hc, sr, hb, hx => by
    unfold chkT at hc
    split at hc
    · unfold Ev.evT at hb hx ⊢
      refine bT.of (pt_cmp (pc_notN peb) rfl) ?_
      refine stepE (sE a xf hc sr) hb hx fun p1 d v g1 x1 r1 hb hx e1 => ?_
      rw [e1, non_of r1]
      exact ⟨_, rfl, p1, rfl, rfl, g1, x1⟩
    · cases hc
  | .and a b, X, W, E0, p, ρ, σ, e, xf, hc, sr, hb, hx => by
    unfold chkT at hc
    split at hc
    · rename_i x y r pos
      obtain ⟨h1, h2⟩ := and2 hc
      unfold Ev.evT at hb hx ⊢
      have rest : ∀ {p1 : Pt}, SR Z E0 ρ σ p1 → Ev.evT (Ev.fns T k) b ρ p1.S ≠ .bad → XOk Z W E0 ρ σ (Ev.evT (Ev.fns T k) b ρ p1.S) → bW X (.BoolOp .And (y :: r) pos) σ p1.H (PostT Z p1 (Ev.evT (Ev.fns T k) b ρ p1.S)) := fun {p1} sr hb hx => by
        cases r with
        | nil => exact bW.of (pw_and1 ptb) (sT b xf h2 sr hb hx)
        | cons z zs => exact fun wh pins s I => sT b xf h2 sr hb hx pins s I
      refine bT.of (PW.pt (pw_and ptb pwb)) ?_
      refine stepT (sT a xf h1 sr) hb hx fun p1 c g1 x1 hb hx e1 => ?_
      rw [e1]
      cases c with
      | true =>
        rw [if_pos rfl] at hb hx ⊢
        rw [if_pos rfl]
        exact fun wh pins s I => thn (rest (sr.step g1 x1) hb hx wh pins s I) fun u s' ⟨H', I', q⟩ => ⟨H', I', q.E x1 rfl⟩
      | false =>
        rw [if_neg Bool.false_ne_true]
        exact ⟨p1, rfl, rfl, g1, x1⟩
    · cases hc
  | .or a b, X, W, E0, p, ρ, σ, e, xf, hc, sr, hb, hx => by
    unfold chkT at hc
    split at hc
    · rename_i x y r pos
      obtain ⟨h1, h2⟩ := and2 hc
      unfold Ev.evT at hb hx ⊢
      have rest : ∀ {p1 : Pt}, SR Z E0 ρ σ p1 → Ev.evT (Ev.fns T k) b ρ p1.S ≠ .bad → XOk Z W E0 ρ σ (Ev.evT (Ev.fns T k) b ρ p1.S) → bW X (.BoolOp .Or (y :: r) pos) σ p1.H (PostT Z p1 (Ev.evT (Ev.fns T k) b ρ p1.S)) := fun {p1} sr hb hx => by
        cases r with
        | nil => exact bW.of (pw_or1 ptb) (sT b xf h2 sr hb hx)
        | cons z zs => exact fun wh pins s I => sT b xf h2 sr hb hx pins s I
      refine bT.of (PW.pt (pw_or ptb pwb)) ?_
      refine stepT (sT a xf h1 sr) hb hx fun p1 c g1 x1 hb hx e1 => ?_
      rw [e1]
      cases c with
      | true =>
        rw [if_pos rfl]
        exact ⟨p1, rfl, rfl, g1, x1⟩
      | false =>
        rw [if_neg Bool.false_ne_true] at hb hx ⊢
        rw [if_neg Bool.false_ne_true]
        exact fun wh pins s I => thn (rest (sr.step g1 x1) hb hx wh pins s I) fun u s' ⟨H', I', q⟩ => ⟨H', I', q.E x1 rfl⟩
    · cases hc
  | .not a, X, W, E0, p, ρ, σ, e, xf, hc, sr, hb, hx => by
    unfold chkT at hc
    split at hc
    · unfold Ev.evT at hb hx ⊢
      refine bT.of (pt_not ptb) ?_
      refine stepT (sT a xf hc sr) hb hx fun p1 c g1 x1 hb hx e1 => ?_
      rw [e1]
      exact ⟨p1, rfl, rfl, g1, x1⟩
    · cases hc
theorem sL : ∀ (t : Ev.L) {X : Cx} {W : WX} {E0 p : Pt} {ρ : Ev.Env} {σ : L2.St} {e : Expr}, XF Z T k N W X → chkL Z.nm N t X.env.scope e = true → SR Z E0 ρ σ p → Ev.evL (Ev.fns T k) t ρ p.S ≠ .bad → XOk Z W E0 ρ σ (Ev.evL (Ev.fns T k) t ρ p.S) →
    bE X e σ p.H (PostL Z p (Ev.evL (Ev.fns T k) t ρ p.S))
  | .disp as, X, W, E0, p, ρ, σ, e, xf, hc, sr, hb, hx => by
    unfold chkL at hc
    split at hc
    · unfold Ev.evL at hb hx ⊢
      refine bE.of (pe_lst pab) ?_
      refine stepEs (sEs as xf hc sr) hb hx fun p1 ds vs g1 x1 r1 hb hx e1 => ?_
      rw [e1]
      by_cases hz : ds.length ≤ Ev.line
      · simp only [if_pos hz]
        exact ⟨by rw [r1.length, ← line_eq]; exact hz, fun l hl => (PostL.new g1 r1 hl).E x1 rfl⟩
      · simp only [if_neg hz] at hb
        exact absurd rfl hb
    · cases hc
  | .comp tg it c x own, X, W, E0, p, ρ, σ, e, xf, hc, sr, hb, hx => by
    unfold chkL at hc
    split at hc
    · rename_i elt tgt iter ifs scope pos
      obtain ⟨h1, h2⟩ := and2 hc
      obtain ⟨h2, h3⟩ := and2 h2
      obtain ⟨h3, h4⟩ := and2 h3
      obtain ⟨h4, h5⟩ := and2 h4
      obtain ⟨h5, h6⟩ := and2 h5
      unfold Ev.evL at hb hx ⊢
      refine comp_ok (ri := Ev.evIt (Ev.fns T k) it ρ p.S) (fc := fun ρ1 S => Ev.evOt (Ev.fns T k) c ρ1 S) (fe := fun ρ1 S => Ev.evE (Ev.fns T k) x ρ1 S) xf h1 h2 (plainIt h4) (fun s H C cl fp => pg_TgC (X := X.blk s H scope (compEnvC scope cl C X.env) fp) xf.hN xf.nd xf.calm h3) sr (sI it xf h4 sr)
        (fun s0 H0 C cl fp q ρ1 σ1 s1 => sC c (xf.blk s0 H0 scope (compEnvC scope cl C X.env) fp) h5 s1) (fun s0 H0 C cl fp q ρ1 σ1 s1 => sE x (xf.blk s0 H0 scope (compEnvC scope cl C X.env) fp) h6 s1) rfl hb hx
    · cases hc
  | .slice a lo hi, X, W, E0, p, ρ, σ, e, xf, hc, sr, hb, hx => by
    unfold chkL at hc
    split at hc
    · obtain ⟨h1, h2⟩ := and2 hc
      obtain ⟨h2, h3⟩ := and2 h2
      unfold Ev.evL at hb hx ⊢
      refine bE.of (pe_slice sl_list peb pob pob) ?_
      refine stepB (sB a xf h1 sr) hb hx fun p1 d v g1 x1 r1 hb hx e1 => ?_
      rw [e1]
      refine sO lo xf h2 (sr.step g1 x1) (nb1 hb) (xo1 hx) _ fun p2 l el g2 x2 => ?_
      rw [el] at hb hx ⊢
      simp only [Ev.R.bnd_ok] at hb hx ⊢
      refine sO hi xf h3 (sr.step g2 (x1.trans x2)) (nb1 hb) (xo1 hx) _ fun p3 u eu g3 x3 => ?_
      rw [eu] at hb hx ⊢
      simp only [Ev.R.bnd_ok] at hb hx ⊢
      have x123 := (x1.trans x2).trans x3
      split at hb
      · obtain ⟨y, vs, e2, q, r, _⟩ := (r1.step (x2.trans x3)).lst (sr.step g3 x123)
        subst e2
        exact ⟨y, vs, rfl, by rw [xf.hK]; exact q, fun m hm => (PostL.new g3 (cut_of l u r) hm).E x123 rfl⟩
      · exact absurd rfl hb
    · cases hc
  | .cat a b, X, W, E0, p, ρ, σ, e, xf, hc, sr, hb, hx => by
    unfold chkL at hc
    split at hc
    · obtain ⟨h1, h2⟩ := and2 hc
      unfold Ev.evL at hb hx ⊢
      refine bE.of (pe_op op2b peb peb) ?_
      refine stepB (sB a xf h1 sr) hb hx fun p1 d v g1 x1 r1 hb hx e1 => ?_
      rw [e1]
      refine stepB (sB b xf h2 (sr.step g1 x1)) hb hx fun p2 d2 v2 g2 x2 r2 hb hx e2 => ?_
      rw [e2]
      split at hb
      · split at hb
        · rename_i hz
          rw [if_pos hz]
          exact (cat_ok xf.hK hz (sr.step g2 (x1.trans x2)) (r1.step x2) r2).mono fun v H' q => q.E (x1.trans x2) rfl
        · exact absurd rfl hb
      · exact absurd rfl hb
    · cases hc
  | .lof a, X, W, E0, p, ρ, σ, e, xf, hc, sr, hb, hx => by
    unfold chkL at hc
    split at hc
    · obtain ⟨h1, h2⟩ := and2 hc
      unfold Ev.evL at hb hx ⊢
      refine bE.of (blty1 xf (id := "list") (by decide +kernel) (by decide +kernel) h1 (plainB h2)) ?_
      refine stepB (sB a xf h2 sr) hb hx fun p1 d v g1 x1 r1 hb hx e1 => ?_
      rw [e1]
      obtain ⟨z, h5, h6⟩ := of_nb hb
      exact fun pins s σ' us I ru => thn (lof_ok xf.hK h5 (sr.step g1 x1) r1 pins s σ' us I ru) fun w s' ⟨y, H', I', ry, q⟩ => ⟨y, H', I', ry, q.E x1 h6⟩
    · cases hc
  | .sorted a, X, W, E0, p, ρ, σ, e, xf, hc, sr, hb, hx => by
    unfold chkL at hc
    split at hc
    · obtain ⟨h1, h2⟩ := and2 hc
      unfold Ev.evL at hb hx ⊢
      refine bE.of (blt1 xf (id := "sorted") (by decide +kernel) (by decide +kernel) h1 (plainB h2)) ?_
      refine stepB (sB a xf h2 sr) hb hx fun p1 d v g1 x1 r1 hb hx e1 => ?_
      rw [e1]
      obtain ⟨z, h5, h6⟩ := of_nb hb
      exact fun pins s σ' us I ru => thn (sorted_ok xf.hK h5 (sr.step g1 x1) r1 pins s σ' us I ru) fun w s' ⟨y, H', I', ry, q⟩ => ⟨y, H', I', ry, q.E x1 h6⟩
    · cases hc
  | .call f as, X, W, E0, p, ρ, σ, e, xf, hc, sr, hb, hx => by
    unfold chkL at hc
    split at hc
    · rename_i x p0 es pos
      obtain ⟨h1, h2⟩ := and2 hc
      obtain ⟨h0, h3⟩ := and2 h1
      obtain ⟨h4, h5⟩ := and2 h0
      have e1 := of_decide_eq_true h4
      subst e1
      obtain ⟨g1, g2⟩ := glb_ok h3
      unfold Ev.evL at hb hx ⊢
      obtain ⟨m1, m2⟩ := xf.pf.glo f h5
      refine call_expr (fun pins s I => ld_glob I g1 m1 ⟨rfl, I⟩ g2) ⟨_, _, rfl⟩ (by rw [xf.hK]; exact m2) (plainEs h2) sr (nil_of h2) (sEs as xf h2 sr) hb hx fun p1 ds vs us pins s g x1 rs hb hx e1 I rv => ?_
      rw [e1]
      refine call_ok xf (nb1 hb) (sr.step g x1) rs I rv (xo1 hx) fun r p' v er g' x' rr => ?_
      rw [er] at hb ⊢
      simp only [Ev.R.bnd_ok] at hb ⊢
      cases r with
      | v d => exact absurd rfl hb
      | l ys =>
        obtain ⟨a, vs', e2, f1, f2, f3, f4, f5⟩ := rr
        have q : PostL Z p1 (.ok ys p'.S) v p'.H := ⟨p', a, vs', ys, rfl, rfl, g', x', e2, f1, f2, f3, f4, f5⟩
        exact q.E x1 rfl
    · cases hc
  | .lrng a b, X, W, E0, p, ρ, σ, e, xf, hc, sr, hb, hx => by
    unfold chkL at hc
    split at hc
    · rename_i f0 g0 x y pos1 pos2
      obtain ⟨h1, h2⟩ := and2 hc
      obtain ⟨h3, h4⟩ := and2 h1
      obtain ⟨h5, h6⟩ := and2 h2
      obtain ⟨q1, rfl, g1⟩ := blt_ok h3
      obtain ⟨q2, rfl, g2⟩ := blt_ok h4
      unfold Ev.evL at hb hx ⊢
      refine bE.of (pe_listRg xf.calm g1 (blt_free xf (by decide +kernel)) (prg_2 g2 (blt_free xf (by decide +kernel)) peb peb (star1 (plainE h5) _ _) (star1 (plainE h6) _ _) (plains_any (es := [y]) (fun e he => by rcases List.mem_singleton.mp he with rfl; exact plainE h6) _ X.env)) rfl) ?_
      refine stepE (sE a xf h5 sr) hb hx fun p1 d v gd1 x1 r1 hb hx e1 => ?_
      rw [e1]
      refine stepE (sE b xf h6 (sr.step gd1 x1)) hb hx fun p2 d2 v2 gd2 x2 r2 hb hx e2 => ?_
      rw [e2]
      split at hb
      · split at hb
        · rename_i hz
          cases r1; cases r2
          rw [if_pos hz]
          obtain ⟨z1, z3⟩ := and2 hz
          obtain ⟨z1, z2⟩ := and2 z1
          unfold Ev.small at z1 z2
          obtain ⟨z1a, z1b⟩ := and2 z1
          obtain ⟨z2a, z2b⟩ := and2 z2
          have z3 := of_decide_eq_true z3
          rw [show Ev.line = 2 ^ 24 from rfl] at z3
          refine ⟨_, _, rfl, rfl, ⟨of_decide_eq_true z1a, of_decide_eq_true z1b, of_decide_eq_true z2a, of_decide_eq_true z2b, z3⟩, fun q hq => ?_⟩
          exact PostL.E (PostL.new gd2 (reps_map _ fun k => .int _) hq) (x1.trans x2) rfl
        · exact absurd rfl hb
      · exact absurd rfl hb
    · cases hc
theorem sI : ∀ (t : Ev.It) {X : Cx} {W : WX} {E0 p : Pt} {ρ : Ev.Env} {σ : L2.St} {tgt e : Expr}, XF Z T k N W X → chkIt Z.nm N t X.env.scope tgt e = true → SR Z E0 ρ σ p → Ev.evIt (Ev.fns T k) t ρ p.S ≠ .bad → XOk Z W E0 ρ σ (Ev.evIt (Ev.fns T k) t ρ p.S) →
    bI X tgt e σ p.H (PostI Z p (Ev.itOk t) (Ev.evIt (Ev.fns T k) t ρ p.S))
  | .seq x, X, W, E0, p, ρ, σ, tgt, e, xf, hc, sr, hb, hx => by
    unfold chkIt at hc
    unfold Ev.evIt at hb hx ⊢
    -- a list or a tuple, by the value
    intro pins s I
    have go : ∀ {v : V} {H1 : Hp} {u : Value} {s1 : Shared}, Inv X pins σ H1 s1 → RelV v u → (∃ p1 d, p1.H = H1 ∧ GoodP Z p1 ∧ Ext p p1 ∧ RB Z ρ σ p1 v d ∧ Ev.R.of (Ev.seqV d) p1.S ≠ .bad ∧ ((Ev.evB (Ev.fns T k) x ρ p.S).bnd fun d S => Ev.R.of (Ev.seqV d) S) = Ev.R.of (Ev.seqV d) p1.S ∧ (Ev.itOk (.seq x) = true → p1.R Z v d)) →
        wpAny (model X.prog X.w) X.A (pyIter u) (PIE X pins σ tgt (PostI Z p (Ev.itOk (.seq x)) ((Ev.evB (Ev.fns T k) x ρ p.S).bnd fun d S => Ev.R.of (Ev.seqV d) S))) X.xe s1 := by
      rintro v H1 u s1 I1 rv ⟨p1, d, rfl, g1, x1, r1, hb, e1, hfz⟩
      obtain ⟨ds, h5, h6⟩ := of_nb hb
      rw [e1, h6]
      unfold Ev.seqV at h5
      split at h5
      · cases h5
        obtain ⟨a, vs, rfl, q, qG, r⟩ := r1.tup (sr.step g1 x1)
        cases rv
        have c : PE X e (fun σ' H Q => Q (.ref a) H ∧ False) := ⟨fun _ _ _ _ _ _ h => h.2.elim⟩
        have q' := q
        rw [← xf.hK] at q'
        obtain ⟨its, rits, pt, hz⟩ := I1.tuple q'
        refine wpAny_pyIter_tuple (show s1.heap.IsTuple a its.toArray from pt) ?_
        refine ⟨s1.heap.objs.size, [s1.heap.objs.size], _, _, p1.H, rfl, I1.kept (t' := s1.toks) fun b o e => Heap.get?_push_of_some _ e, turn_tuple a _, ⟨_, Heap.get?_push_size _ rfl, rfl, rfl⟩, fun b hb => ?_, p1, ds, rfl, rfl, g1, x1, ?_, fun _ => ?_⟩
        · have e : b = s1.heap.objs.size := by simpa using hb
          subst e
          exact I1.fpOk (Nat.le_refl _) (I1.hok.fresh (Nat.le_refl _))
        · exact walk_itt (fun _ _ => Ext.le) r fun q2 e g => by rw [xf.hK]; exact sqT_mono (fun b u h => g.sub _ _ (e.g _ _ h)) qG
        · exact walk_itt (fun _ _ h => h) r fun q2 e g => by rw [xf.hK]; exact sqT_mono (fun b u h => g.sub _ _ (e.1 _ _ h)) qG
      · cases h5
        obtain ⟨a, vs, rfl, q, r, hor⟩ := r1.lst (sr.step g1 x1)
        cases rv
        have q' := q
        rw [← xf.hK] at q'
        obtain ⟨its, rits, pt, hz⟩ := I1.list q'
        refine wpAny_pyIter_list pt.isList ?_
        refine ⟨s1.heap.objs.size, [s1.heap.objs.size], _, _, p1.H, rfl, I1.kept (t' := s1.toks) fun b o e => Heap.get?_push_of_some _ e, turn_list a _, ⟨_, Heap.get?_push_size _ rfl, rfl, rfl⟩, fun b hb => ?_, p1, ds, rfl, rfl, g1, x1, ?_, fun hk => ?_⟩
        · have e : b = s1.heap.objs.size := by simpa using hb
          subst e
          exact I1.fpOk (Nat.le_refl _) (I1.hok.fresh (Nat.le_refl _))
        · refine walk_itl (fun _ _ => Ext.le) r fun q2 e g => ?_
          rw [xf.hK]
          rcases hor with ⟨hor, m⟩ | hor
          · exact .of (e.h _ _ hor m).1
          · exact sqL_mono (fun b u h => g.sub _ _ (e.g _ _ h)) hor
        · have rr := hfz hk
          cases rr with
          | lst qq rr =>
            exact walk_itl (fun _ _ h => h) rr fun q2 e g => by rw [xf.hK]; exact sqL_mono (fun b u h => g.sub _ _ (e.1 _ _ h)) qq
      · cases h5
    cases x with
    | e y =>
      refine thn ((stepE (Q := fun v H1 => ∃ p1 d, p1.H = H1 ∧ GoodP Z p1 ∧ Ext p p1 ∧ RB Z ρ σ p1 v d ∧ Ev.R.of (Ev.seqV d) p1.S ≠ .bad ∧ ((Ev.evB (Ev.fns T k) (.e y) ρ p.S).bnd fun d S => Ev.R.of (Ev.seqV d) S) = Ev.R.of (Ev.seqV d) p1.S ∧ (Ev.itOk (.seq (.e y)) = true → p1.R Z v d)) (sE y xf hc sr) hb hx fun p1 d v g1 x1 r1 hb hx e1 => ⟨p1, d, rfl, g1, x1, .inl r1, hb, e1, fun _ => r1⟩) pins s I) fun u s1 ⟨v, H1, I1, rv, q⟩ => go I1 rv q
    | b i =>
      refine thn ((stepB (Q := fun v H1 => ∃ p1 d, p1.H = H1 ∧ GoodP Z p1 ∧ Ext p p1 ∧ RB Z ρ σ p1 v d ∧ Ev.R.of (Ev.seqV d) p1.S ≠ .bad ∧ ((Ev.evB (Ev.fns T k) (.b i) ρ p.S).bnd fun d S => Ev.R.of (Ev.seqV d) S) = Ev.R.of (Ev.seqV d) p1.S ∧ (Ev.itOk (.seq (.b i)) = true → p1.R Z v d)) (sB (.b i) xf hc sr) hb hx fun p1 d v g1 x1 r1 hb hx e1 => ⟨p1, d, rfl, g1, x1, r1, hb, e1, fun z => by cases z⟩) pins s I) fun u s1 ⟨v, H1, I1, rv, q⟩ => go I1 rv q
  | .rng1 a, X, W, E0, p, ρ, σ, tgt, e, xf, hc, sr, hb, hx => by
    unfold chkIt at hc
    split at hc
    · obtain ⟨h1, h2⟩ := and2 hc
      obtain ⟨p0, rfl, hg⟩ := blt_ok h1
      unfold Ev.evIt at hb hx ⊢
      refine bI.of (pi_range1 hg (blt_free xf (by decide +kernel)) pab (star1 (plainE h2) _ _)) ?_
      refine bA.of (pa_cons peb pa_nil (star1 (plainE h2) _ _)) ?_
      refine stepE (sE a xf h2 sr) hb hx fun p1 d v g1 x1 r1 hb hx e1 => ?_
      rw [e1]
      split at hb
      · split at hb
        · rename_i hz
          cases r1
          unfold Ev.small at hz
          obtain ⟨z1, z2⟩ := and2 hz
          refine ⟨_, rfl, of_decide_eq_true z1, of_decide_eq_true z2, p1, _, rfl, ?_, g1, x1, walk_rng (fun _ _ => Ext.le), fun _ => walk_rng (fun _ _ h => h)⟩
          simp only [Ev.small, hz, z1, z2]; rfl
        · exact absurd rfl hb
      · exact absurd rfl hb
    · cases hc
  | .rng2 a b, X, W, E0, p, ρ, σ, tgt, e, xf, hc, sr, hb, hx => by
    unfold chkIt at hc
    split at hc
    · obtain ⟨h1, h2⟩ := and2 hc
      obtain ⟨h2, h3⟩ := and2 h2
      obtain ⟨p0, rfl, hg⟩ := blt_ok h1
      unfold Ev.evIt at hb hx ⊢
      refine bI.of (pi_range2 hg (blt_free xf (by decide +kernel)) pab (by rw [star1 (plainE h2), star1 (plainE h3)]; rfl) (star1 (plainE h3) _ _)) ?_
      refine bA.of (pa_cons peb (pa_cons peb pa_nil (star1 (plainE h3) _ _)) (star1 (plainE h2) _ _)) ?_
      refine stepE (sE a xf h2 sr) hb hx fun p1 d v g1 x1 r1 hb hx e1 => ?_
      rw [e1]
      refine stepE (sE b xf h3 (sr.step g1 x1)) hb hx fun p2 d2 v2 g2 x2 r2 hb hx e2 => ?_
      rw [e2]
      split at hb
      · split at hb
        · rename_i hz
          cases r1; cases r2
          rw [if_pos hz]
          unfold Ev.small at hz
          obtain ⟨z1, z2⟩ := and2 hz
          obtain ⟨z1, z3⟩ := and2 z1
          obtain ⟨z2, z4⟩ := and2 z2
          exact ⟨_, _, rfl, ⟨of_decide_eq_true z1, of_decide_eq_true z3, of_decide_eq_true z2, of_decide_eq_true z4⟩, p2, _, rfl, rfl, g2, x1.trans x2, walk_rng (fun _ _ => Ext.le), fun _ => walk_rng (fun _ _ h => h)⟩
        · exact absurd rfl hb
      · exact absurd rfl hb
    · cases hc
  | .str a, X, W, E0, p, ρ, σ, tgt, e, xf, hc, sr, hb, hx => by
    unfold chkIt at hc
    unfold Ev.evIt at hb hx ⊢
    refine bI.of (pi_str peb) ?_
    refine stepE (sE a xf hc sr) hb hx fun p1 d v g1 x1 r1 hb hx e1 => ?_
    rw [e1]
    split at hb
    · cases r1
      exact ⟨_, rfl, p1, _, rfl, rfl, g1, x1, walk_str (fun _ _ => Ext.le), fun _ => walk_str (fun _ _ h => h)⟩
    · exact absurd rfl hb
  | .zip a b, X, W, E0, p, ρ, σ, tgt, e, xf, hc, sr, hb, hx => by
    cases hc
theorem sC : ∀ (t : Ev.Ot) {X : Cx} {W : WX} {E0 p : Pt} {ρ : Ev.Env} {σ : L2.St} {es : List Expr}, XF Z T k N W X → chkOt Z.nm N t X.env.scope es = true → SR Z E0 ρ σ p → Ev.evOt (Ev.fns T k) t ρ p.S ≠ .bad → XOk Z W E0 ρ σ (Ev.evOt (Ev.fns T k) t ρ p.S) →
    bTs X es σ p.H (PostT Z p (Ev.evOt (Ev.fns T k) t ρ p.S))
  | .no, X, W, E0, p, ρ, σ, es, xf, hc, sr, hb, hx => by
    unfold chkOt at hc
    split at hc
    · exact bTs.of pts_nil ⟨p, rfl, rfl, sr.good, Ext.refl p⟩
    · cases hc
  | .yes t, X, W, E0, p, ρ, σ, es, xf, hc, sr, hb, hx => by
    unfold chkOt at hc
    split at hc
    · unfold Ev.evOt at hb hx ⊢
      exact bTs.of (pts_one ptb) (sT t xf hc sr hb hx)
    · cases hc
end
end
end Snd

set_option Elab.async false
set_option linter.all false
set_option maxRecDepth 100000
set_option maxHeartbeats 2000000
/-! Statements. -/
namespace Snd
open PySem PySem.Spec PyProof.Rows L2
def bSs (X : Cx) (sts : List Stmt) : TS := fun D σ H => ∀ pins s, Inv X pins σ H s → wpAny (model X.prog X.w) X.A (execs sts X.env) (SP X pins D) X.xe s
theorem pssb {X : Cx} {sts : List Stmt} : PSs X sts (bSs X sts) := ⟨fun pins s σ H D I h => h pins s I⟩
theorem bSs.of {X : Cx} {sts : List Stmt} {t : TS} (h : PSs X sts t) {D : Ends} {σ : L2.St} {H : Hp} (q : t D σ H) : bSs X sts D σ H := fun pins s I => h.run pins s σ H D I q
theorem bSs.one {X : Cx} {st : Stmt} {r : List Stmt} {t : TS} (h : PS X st t) {D : Ends} {σ : L2.St} {H : Hp} (q : t { D with nx := bSs X r D } σ H) : bSs X (st :: r) D σ H := bSs.of (pss_cons h pssb) q
structure XS (Z : Fx) (T : Ev.Tbl) (k : Nat) (N : List Str) (W : WX) (X : Cx) : Prop where
  xf : XF Z T k N W X
  fn : ∀ x, X.fn x = true
  own : PassesOwn (model X.prog X.w) X.A X.env X.xe
  kind : X.env.scope.kind = .function
theorem Le.refl (p : Pt) : Le p p := ⟨fun _ _ h => h, [], by simp⟩
theorem Le.trans {p q r : Pt} (x : Le p q) (y : Le q r) : Le p r := by
  obtain ⟨x1, t, e⟩ := x
  obtain ⟨y1, u, f⟩ := y
  exact ⟨fun a o h => y1 a o (x1 a o h), t ++ u, by rw [f, e, List.append_assoc]⟩
/-- what is to be shown of a statement's end -/
def Fin (X : Cx) (Z : Fx) (W : WX) (E0 p : Pt) (rest : List Stmt) (D : Ends) : Ev.O → Prop
  | .next ρ S => ∀ σ' p', p'.S = S → SR Z E0 ρ σ' p' → Le p p' → bSs X rest D σ' p'.H
  | .ret r S => ∀ v p', p'.S = S → GoodP Z p' → Ext E0 p' → RetR Z E0 p' v r → D.rt v p'.H
  | .brk ρ S => ∀ σ' p', p'.S = S → SR Z E0 ρ σ' p' → Le p p' → D.bk σ' p'.H
  | .cnt ρ S => ∀ σ' p', p'.S = S → SR Z E0 ρ σ' p' → Le p p' → D.ct σ' p'.H
  | .exc c fs ρ S => ∀ σ' p' cls d, p'.S = S → SR Z E0 ρ σ' p' → XR Z p' cls d c fs → W cls d σ' p'.H
  | .bad => False
section
variable {Z : Fx} {T : Ev.Tbl} {k : Nat} {N : List Str} {W : WX} {X : Cx} {E0 p q : Pt} {ρ : Ev.Env} {σ : L2.St} {rest : List Stmt} {D : Ends}
theorem Fin.le {o : Ev.O} (h : Fin X Z W E0 p rest D o) (e : Le p q) : Fin X Z W E0 q rest D o := by
  cases o with
  | next ρ S => exact fun σ' p' a b c => h σ' p' a b (e.trans c)
  | ret r S => exact h
  | brk ρ S => exact fun σ' p' a b c => h σ' p' a b (e.trans c)
  | cnt ρ S => exact fun σ' p' a b c => h σ' p' a b (e.trans c)
  | exc c fs ρ S => exact h
  | bad => exact h
theorem Fin.nb {o : Ev.O} (h : Fin X Z W E0 p rest D o) : o ≠ .bad := by
  rintro rfl
  exact h
theorem Fin.nil {o : Ev.O} (h : Fin X Z W E0 p rest D o) : Fin X Z W E0 p [] { D with nx := bSs X rest D } o := by
  cases o with
  | next ρ S => exact fun σ' p' a b c => bSs.of pss_nil (h σ' p' a b c)
  | ret r S => exact h
  | brk ρ S => exact h
  | cnt ρ S => exact h
  | exc c fs ρ S => exact h
  | bad => exact h
theorem Fin.x {α : Type} {r : Ev.R α} {f : α → Ev.Sto → Ev.O} (h : Fin X Z W E0 p rest D (r.st ρ f)) : XOk Z W E0 ρ σ r := fun c fs S' e p' cls d eS s x => by
  subst e
  exact h σ p' cls d eS s x
theorem Fin.rb {α : Type} {r : Ev.R α} {f : α → Ev.Sto → Ev.O} (h : Fin X Z W E0 p rest D (r.st ρ f)) : r ≠ .bad := by
  rintro rfl
  exact h
theorem st_E {e : Expr} {ra : Ev.R Ev.D} {f : Ev.D → Ev.Sto → Ev.O} {Q : VK} (ha : ra ≠ .bad → XOk Z W E0 ρ σ ra → bE X e σ p.H (PostE Z p ra)) (hF : Fin X Z W E0 p rest D (ra.st ρ f))
    (h : ∀ p1 d v, GoodP Z p1 → Ext p p1 → p1.R Z v d → Fin X Z W E0 p1 rest D (f d p1.S) → Q v p1.H) : bE X e σ p.H Q :=
  (ha hF.rb hF.x).mono fun v H' ⟨p1, d, eH, er, g, x, r⟩ => by
    subst eH
    rw [er] at hF
    exact h p1 d v g x r (Fin.le hF x.le)
theorem st_T {e : Expr} {ra : Ev.R Bool} {f : Bool → Ev.Sto → Ev.O} {Q : Bool → Hp → Prop} (ha : ra ≠ .bad → XOk Z W E0 ρ σ ra → bT X e σ p.H (PostT Z p ra)) (hF : Fin X Z W E0 p rest D (ra.st ρ f))
    (h : ∀ p1 b, GoodP Z p1 → Ext p p1 → Fin X Z W E0 p1 rest D (f b p1.S) → Q b p1.H) : bT X e σ p.H Q :=
  (ha hF.rb hF.x).mono fun v H' ⟨p1, eH, er, g, x⟩ => by
    subst eH
    rw [er] at hF
    exact h p1 v g x (Fin.le hF x.le)
theorem slot_ok (xs : XS Z T k N W X) {i : Nat} {e : Expr} (h : slotB N X.env.scope i e = true) : ∃ x pos, e = .Name x pos ∧ N[i]? = some x ∧ Loc X.env.scope x ∧ PE X e (tVar i) := by
  unfold slotB at h
  split at h
  · rename_i x pos
    obtain ⟨h1, h2⟩ := and2 h
    obtain ⟨a1, a2, a3, a4⟩ := vis_ok h1
    refine ⟨x, pos, rfl, a1, ?_, pe_var (by rw [xs.xf.hN]; exact a1) a2 a3 a4⟩
    rw [Bool.or_eq_true, decide_eq_true_eq, decide_eq_true_eq] at h2
    exact h2
  · cases h
theorem sg_var {i : Nat} {v : V} (h : sg σ i = some v) : σ[i]? = some (some v) := by
  unfold sg at h
  cases e : σ[i]? with
  | none => rw [e] at h; cases h
  | some o => rw [e] at h; exact congrArg some h
theorem fns_flds : (Ev.fns T k).flds = T.flds := by cases k <;> rfl
theorem no_sw {t v : Expr} {env : Env} (h1 : noSw t v = true) : swappedStores [t] v env = pure none := by
  cases t <;> first
    | rfl
    | (cases v <;> first | rfl | cases h1)
theorem each_ok {sc : Scope} {tg : Ev.Tg} {t : Expr} {env : Env} (h : chkTgS N sc tg t = true) : (assignEach [t] env).map (·.2) = [assign t env] := by
  cases t <;> first
    | rfl
    | (cases tg <;> cases h)
theorem aug_ok (o : Ev.Bop) {x y z : Ev.D} {v u : V} (h : Ev.augV o x y = some z) (g : GoodP Z p) (rx : p.R Z v x) (ry : p.R Z u y) : ∃ ti, PIp X (opOf o) ti ∧ ti v u p.H (PostV Z p z) := by
  unfold Ev.augV at h
  split at h
  · cases h; cases rx; cases ry
    exact ⟨_, iop_add, _, _, rfl, rfl, .same g (.int _)⟩
  · split at h
    · rename_i hz
      cases h; cases rx; cases ry
      refine ⟨_, iop_add_str, _, _, rfl, rfl, ?_, ?_⟩
      · rw [str_len, str_len, ← line_eq]; exact hz
      · rw [str_app]; exact .same g (.str _)
    · cases h
  · cases h
theorem ixN_eq2 {n : Nat} {i : Int} {j : Nat} (h : Ev.ixN n i = some j) : L2.ixN n i = some j := h
end
end Snd

set_option Elab.async false
set_option linter.all false
set_option maxRecDepth 100000
set_option maxHeartbeats 2000000
/-! Statements: soundness. -/
namespace Snd
open PySem PySem.Spec PyProof.Rows L2
section
variable {Z : Fx} {T : Ev.Tbl} {k : Nat} {N : List Str}
theorem sole_eq (t v : Expr) (l : Nat) (env : Env) : swapsWithSole [t] v l env = swapsWith v (some t) l env := rfl
theorem nil_ok {o : Option (List Stmt)} (h : nilB o = true) : o = some [] := by
  unfold nilB at h
  split at h
  · rfl
  · cases h
theorem forL_cons (body : Ev.D → Ev.Env → Ev.Sto → Ev.O) (cl : List Nat) (x : Ev.D) (xs : List Ev.D) (ρ : Ev.Env) (S : Ev.Sto) : Ev.forL body cl (x :: xs) ρ S = (body x ρ S).turn cl fun ρ S => Ev.forL body cl xs ρ S := rfl
theorem whlL_succ (test : Ev.Env → Ev.Sto → Ev.R Bool) (body : Ev.Env → Ev.Sto → Ev.O) (cl : List Nat) (n : Nat) (ρ : Ev.Env) (S : Ev.Sto) : Ev.whlL test body cl (n + 1) ρ S = (test ρ S).st ρ fun k S => if k then (body ρ S).turn cl fun ρ S => Ev.whlL test body cl n ρ S else .next ρ S := rfl
theorem sS : ∀ (t : Ev.S) {X : Cx} {W : WX} {E0 p : Pt} {ρ : Ev.Env} {σ : L2.St} {sts rest : List Stmt} {D : Ends}, XS Z T k N W X → chkS Z.nm N X.env.scope t sts = some rest → SR Z E0 ρ σ p →
    Fin X Z W E0 p rest D (Ev.evS (Ev.fns T k) t ρ p.S) → bSs X sts D σ p.H
  | .pass, X, W, E0, p, ρ, σ, sts, rest, D, xs, hc, sr, hF => by
    unfold chkS at hc
    split at hc
    · cases hc
      exact bSs.one ps_pass (hF σ p rfl sr (Le.refl p))
    · cases hc
  | .never, X, W, E0, p, ρ, σ, sts, rest, D, xs, hc, sr, hF => hF.elim
  | .asg tg e, X, W, E0, p, ρ, σ, sts, rest, D, xs, hc, sr, hF => by
    unfold chkS at hc
    split at hc
    · split at hc
      · rename_i t v pos r h
        cases hc
        obtain ⟨h0, h1⟩ := and2 h
        obtain ⟨h0, h4⟩ := and2 h0
        obtain ⟨h2, h3⟩ := and2 h1
        unfold Ev.evS at hF
        have h5 := pg_TgS xs.xf.hN xs.xf.nd xs.fn xs.xf.calm h2
        refine bSs.one (ps_asg peb h5 (noSwap h0 (plainE h3) _ _ _) (no_sw h4) ?_) ?_
        · exact each_ok h2
        · refine st_E (sE e xs.xf h3 sr) hF fun p1 d v g x rv hF => ?_
          split at hF
          · rename_i ρ' hs
            exact gTg_ok xs.xf.hK hs rv (sr.step g x) fun σ' s' _ _ => hF σ' p1 rfl s' (Le.refl p1)
          · exact hF.elim
      · cases hc
    · cases hc
  | .asgL i l, X, W, E0, p, ρ, σ, sts, rest, D, xs, hc, sr, hF => by
    unfold chkS at hc
    split at hc
    · rename_i x px v pos r
      split at hc
      · rename_i h
        cases hc
        obtain ⟨h0, h1⟩ := and2 h
        obtain ⟨h2, h3⟩ := and2 h1
        obtain ⟨y, py, e0, n1, n2, n3⟩ := slot_ok xs h0
        cases e0
        unfold Ev.evS at hF
        have fin : ∀ v H', PostL Z p (Ev.evL (Ev.fns T k) l ρ p.S) v H' → gName i v σ H' (bSs X rest D) := fun v H' ⟨p1, a, vs, ds, eH, er, g1, x1, ev, f1, f2, f3, f4, f5⟩ => by
          subst eH ev
          rw [er] at hF
          have s1 := sr.putOwn i x1 g1 f5 f1 f2 f3 f4
          exact hF _ p1 rfl s1 x1.le
        have hl := sL l xs.xf h3 sr hF.rb hF.x
        by_cases hv : noLc v = true
        · exact bSs.one (ps_set (i := i) (by rw [xs.xf.hN]; exact xs.xf.nd) (by rw [xs.xf.hN]; exact n1) n2 peb (noSwap hv (plainL h3) _ _ _) (.inl (xs.fn _))) (hl.mono fin)
        · cases v with
          | ListComp elt gens scope lpos =>
            unfold lcB at h2
            simp only [Bool.or_eq_true, Bool.and_eq_true, decide_eq_true_eq, Bool.not_eq_true'] at h2
            rcases h2 with hcell | ⟨hloc, hl1, hl2⟩
            · refine bSs.one (ps_set (i := i) (by rw [xs.xf.hN]; exact xs.xf.nd) (by rw [xs.xf.hN]; exact n1) n2 peb ?_ (.inl (xs.fn _))) (hl.mono fin)
              have ky : X.env.kindOf x = some .cell := hcell
              unfold swapsWith
              have kz : (some NameKind.cell == some NameKind.local) = false := by decide
              simp only [ky, kz, Bool.and_false, Bool.false_and]
            · cases l with
              | comp tg it c y own =>
                unfold chkL at h3
                split at h3
                · rename_i elt' tgt iter ifs scope' pos' heq
                  cases heq
                  obtain ⟨h1, h2⟩ := and2 h3
                  obtain ⟨h2, h3⟩ := and2 h2
                  obtain ⟨h3, h4⟩ := and2 h3
                  obtain ⟨h4, h5⟩ := and2 h4
                  obtain ⟨h5, h6⟩ := and2 h5
                  have hown : (ownOf N own).map (·.2) = own := by
                    unfold ownOf
                    rw [List.map_map]
                    exact List.map_id' _
                  refine bSs.one (ps_setLc (i := i) (own := ownOf N own) (g := gTg X.K tg)
                    (tt := fun σ H Q => ∀ s0 H0 C cl fp, bTs (X.blk s0 H0 scope (compEnvC scope cl C X.env) fp) ifs σ H Q) (te := fun σ H Q => ∀ s0 H0 C cl fp, bE (X.blk s0 H0 scope (compEnvC scope cl C X.env) fp) elt σ H Q)
                    xs.xf.calm (by rw [xs.xf.hN]; exact xs.xf.nd) (by rw [xs.xf.hN]; exact n1) hloc (sw_true xs.kind hloc hl1 hl2) pib (blkOk_by (by rw [xs.xf.hN]; exact h1))
                    (fun s H C cl fp => pg_TgC (X := X.blk s H scope (compEnvC scope cl C X.env) fp) xs.xf.hN xs.xf.nd xs.xf.calm h3) (fun s H C cl fp => ⟨fun pins s1 σ1 H1 Q I q => ptsb.run pins s1 σ1 H1 Q I (q s H C cl fp)⟩) (fun s H C cl fp => ⟨fun pins s1 σ1 H1 Q I q => peb.run pins s1 σ1 H1 Q I (q s H C cl fp)⟩) (folded (plainIt h4) X.env)) ?_
                  rw [hown]
                  unfold Ev.evL at hF fin
                  exact comp_tlc (ri := Ev.evIt (Ev.fns T k) it ρ p.S) (fc := fun ρ1 S => Ev.evOt (Ev.fns T k) c ρ1 S) (fe := fun ρ1 S => Ev.evE (Ev.fns T k) y ρ1 S) xs.xf h1 h2 (plainIt h4) (fun s H C cl fp => pg_TgC (X := X.blk s H scope (compEnvC scope cl C X.env) fp) xs.xf.hN xs.xf.nd xs.xf.calm h3) sr (sI it xs.xf h4 sr)
                    (fun s0 H0 C cl fp q ρ1 σ1 s1 => sC c (xs.xf.blk s0 H0 scope (compEnvC scope cl C X.env) fp) h5 s1) (fun s0 H0 C cl fp q ρ1 σ1 s1 => sE y (xs.xf.blk s0 H0 scope (compEnvC scope cl C X.env) fp) h6 s1) rfl hF.rb hF.x fin
                · cases h3
              | _ => cases h3
          | _ => exact absurd rfl hv
      · cases hc
    · cases hc
  | .aug i o e, X, W, E0, p, ρ, σ, sts, rest, D, xs, hc, sr, hF => by
    unfold chkS at hc
    split at hc
    · split at hc
      · rename_i t op v pos r h
        cases hc
        obtain ⟨h0, h1⟩ := and2 h
        obtain ⟨h2, h3⟩ := and2 h1
        have e0 := of_decide_eq_true h0
        subst e0
        obtain ⟨y, py, e0, n1, n2, n3⟩ := slot_ok xs h2
        cases e0
        unfold Ev.evS at hF
        have sl := sr.slot i
        split at hF
        · rename_i x hg
          rw [hg] at sl
          obtain ⟨vx, ex, rx⟩ := sl
          have po : PIp X (opOf o) (b2 X (inplaceOp (opOf o))) := fun pins s σ H x y v u Q I rx ry h => h pins s σ v u I rx ry
          refine bSs.one (ps_aug (i := i) (by rw [xs.xf.hN]; exact xs.xf.nd) (by rw [xs.xf.hN]; exact n1) n2 peb po (.inl (xs.fn _))) ⟨vx, sg_var ex, ?_⟩
          refine st_E (sE e xs.xf h3 sr) hF fun p1 d u g x1 ru hF => ?_
          split at hF
          · rename_i z hz
            obtain ⟨ti, t1, t2⟩ := aug_ok (X := X) o hz g (rx.mono x1.g x1.t) ru
            refine (b2.of t1 t2).mono fun w H' ⟨p2, e1, e2, g2, x2, rw2⟩ => ?_
            subst e1
            exact hF _ p2 e2 ((sr.step g2 (x1.trans x2)).put i rw2) x2.le
          · exact hF.elim
        · exact hF.elim
      · cases hc
    · cases hc
  | .app i e, X, W, E0, p, ρ, σ, sts, rest, D, xs, hc, sr, hF => by
    unfold chkS at hc
    split at hc
    · split at hc
      · rename_i t m apos v pos pos2 r h
        cases hc
        obtain ⟨h0, h1⟩ := and2 h
        obtain ⟨h0, hl⟩ := and2 h0
        obtain ⟨h2, h3⟩ := and2 h1
        have e0 := of_decide_eq_true h0
        subst e0
        obtain ⟨y, py, e0, n1, n2, n3⟩ := slot_ok xs h2
        cases e0
        unfold Ev.evS at hF
        have sl := sr.slot i
        split at hF
        · rename_i ys hg
          refine bSs.one (ps_expr (pe_bm PySem.F.plainAttrs_list PySem.F.slot_list_append PySem.F.type_list_append mt_append n3 (pa_cons peb pa_nil (star1 (plainE h3) [] _)) rfl ?_ hl (star1 (plainE h3) [] _) rfl) rfl) ?_
          · rw [star1 (plainE h3)]; rfl
          · rw [hg] at sl
            obtain ⟨a, vs, ex, hH, rs, hG, ht⟩ := sl
            refine ⟨.ref a, sg_var ex, .inl ⟨rfl, vs, ?_⟩, ?_⟩
            · exact .of hH
            · refine st_E (sE e xs.xf h3 sr) hF fun p1 d u g x1 ru hF => ?_
              by_cases hz : ys.length < Ev.line
              · rw [if_pos hz] at hF
                have s1 := sr.step g x1
                obtain ⟨a1, a2, a3⟩ := x1.h _ _ hH ht
                refine ⟨a, vs, u, rfl, rfl, a1, by rw [rs.length, ← line_eq]; exact hz, ?_⟩
                refine hF σ { p1 with H := upd p1.H a (.lst (vs ++ [u])) } rfl ?_ (Le.refl p1)
                exact s1.mut (by rw [hg]; rfl) ex rfl ⟨a, vs ++ [u], rfl, upd_same, (rs.mono x1.g x1.t).append (.cons ru .nil), a3 hG, a2⟩
              · rw [if_neg hz] at hF; exact hF.elim
        · exact hF.elim
      · cases hc
    · cases hc
  | .setL i x e, X, W, E0, p, ρ, σ, sts, rest, D, xs, hc, sr, hF => by
    unfold chkS at hc
    split at hc
    · split at hc
      · rename_i t key kpos v pos r h
        cases hc
        obtain ⟨h0, h1⟩ := and2 h
        obtain ⟨h2, h1⟩ := and2 h1
        obtain ⟨h4, h3⟩ := and2 h1
        obtain ⟨y, py, e0, n1, n2, n3⟩ := slot_ok xs h2
        cases e0
        unfold Ev.evS at hF
        have sl := sr.slot i
        split at hF
        · rename_i ys hg
          have hp := plainE h4
          refine bSs.one (ps_asg peb (pg_sub n3 peb set_list ?_) (by rw [sole_eq]; exact noSwap h0 (plainE h3) _ _ _) rfl rfl) ?_
          · intro w
            cases key <;> first | rfl | cases hp
          · rw [hg] at sl
            obtain ⟨a, vs, ex, hH, rs, hG, ht⟩ := sl
            refine st_E (sE e xs.xf h3 sr) hF fun p1 d u g x1 ru hF => ?_
            have s1 := sr.step g x1
            refine ⟨.ref a, sg_var ex, ?_⟩
            refine st_E (sE x xs.xf h4 s1) hF fun p2 d2 u2 g2 x2 ru2 hF => ?_
            have s2 := s1.step g2 x2
            have x12 := x1.trans x2
            obtain ⟨a1, a2, a3⟩ := x12.h _ _ hH ht
            split at hF
            · rename_i z
              cases ru2
              split at hF
              · rename_i j hj
                have rs2 := rs.mono x12.g x12.t
                refine ⟨a, vs, z, j, rfl, rfl, a1, by rw [rs.length]; exact hj, ?_⟩
                refine hF σ { p2 with H := upd p2.H a (.lst (vs.set j u)) } rfl ?_ (Le.refl p2)
                exact s2.mut (by rw [hg]; rfl) ex rfl ⟨a, vs.set j u, rfl, upd_same, rs2.set (ru.mono x2.g x2.t) j, a3 hG, a2⟩
              · exact hF.elim
            · exact hF.elim
        · exact hF.elim
      · cases hc
    · cases hc
  | .setF f e, X, W, E0, p, ρ, σ, sts, rest, D, xs, hc, sr, hF => by
    unfold chkS at hc
    split at hc
    · split at hc
      · rename_i t m apos v pos r h
        cases hc
        obtain ⟨h0, h1⟩ := and2 h
        obtain ⟨h2, h1⟩ := and2 h1
        obtain ⟨h4, h3⟩ := and2 h1
        have e1 := of_decide_eq_true h2
        subst e1
        obtain ⟨y, py, e0, n1, n2, n3⟩ := slot_ok xs h4
        cases e0
        unfold Ev.evS at hF
        refine bSs.one (ps_fld n3 peb (noSwap h0 (plainE h3) _ _ _)) ?_
        refine st_E (sE e xs.xf h3 sr) hF fun p1 d u g x1 ru hF => ?_
        have s1 := sr.step g x1
        have sl := s1.slot 0
        split at hF
        · rename_i c fs hg
          rw [hg] at sl
          obtain ⟨a, dx, vs, ex, hH, hd, rf, hG, ht⟩ := sl
          split at hF
          · rename_i hz
            obtain ⟨hz, z3⟩ := and2 hz
            obtain ⟨z1, z2⟩ := and2 hz
            have z2 := of_decide_eq_true z2
            rw [fns_flds] at z3
            obtain ⟨c1, c2⟩ := xs.xf.pf.noat c f (by simpa using z3)
            have z1 : fs.lookup f = none := by simpa using z1
            refine ⟨.ref a, sg_var ex, a, _, dx, vs, rfl, hH, by rw [xs.xf.hK]; exact c1, by rw [xs.xf.hK]; exact c2, by rw [rf.length]; omega, ?_⟩
            refine hF σ { p1 with H := upd p1.H a (.ins (Z.ad.ca c) dx (L2.putF (Z.nm.fl f) u vs)) } rfl ?_ (Le.refl p1)
            exact s1.mut (by rw [hg]; rfl) ex rfl ⟨a, dx, _, rfl, upd_same, hd, rf.putF ru c2 z1, hG, ht⟩ fun _ _ _ => ⟨c, fs, hg⟩
          · exact hF.elim
        · exact hF.elim
      · cases hc
    · cases hc
  | .ret e, X, W, E0, p, ρ, σ, sts, rest, D, xs, hc, sr, hF => by
    unfold chkS at hc
    split at hc
    · split at hc
      · rename_i v pos r h
        cases hc
        unfold Ev.evS at hF
        refine bSs.one (r := r) (ps_ret peb) ?_
        exact st_E (sE e xs.xf h sr) hF fun p1 d u g x1 ru hF => hF u p1 rfl g (sr.ext.trans x1) ru
      · cases hc
    · cases hc
  | .retl i, X, W, E0, p, ρ, σ, sts, rest, D, xs, hc, sr, hF => by
    unfold chkS at hc
    split at hc
    · split at hc
      · rename_i v pos r h
        cases hc
        obtain ⟨y, py, e0, n1, n2, n3⟩ := slot_ok xs h
        unfold Ev.evS at hF
        refine bSs.one (r := r) (ps_ret n3) ?_
        have sl := sr.slot i
        split at hF
        · rename_i ys hg
          rw [hg] at sl
          obtain ⟨a, vs, ex, hH, rs, hG, ht⟩ := sl
          exact ⟨.ref a, sg_var ex, hF (.ref a) p rfl sr.good sr.ext ⟨a, vs, rfl, hH, rs, hG, ht, sr.fresh i a (by rw [hg]; rfl) ex⟩⟩
        · exact hF.elim
      · cases hc
    · cases hc
  | .retm l, X, W, E0, p, ρ, σ, sts, rest, D, xs, hc, sr, hF => by
    unfold chkS at hc
    split at hc
    · split at hc
      · rename_i v pos r h
        cases hc
        unfold Ev.evS at hF
        refine bSs.one (r := r) (ps_ret peb) ?_
        refine (sL l xs.xf h sr hF.rb hF.x).mono fun v H' ⟨p1, a, vs, ds, eH, er, g1, x1, ev, f1, f2, f3, f4, f5⟩ => ?_
        subst eH ev
        rw [er] at hF
        exact hF (.ref a) p1 rfl g1 (sr.ext.trans x1) ⟨a, vs, rfl, f1, f2, f3, f4, sr.ext.fresh sr.good f5⟩
      · cases hc
    · cases hc
  | .retn, X, W, E0, p, ρ, σ, sts, rest, D, xs, hc, sr, hF => by
    unfold chkS at hc
    split at hc
    · cases hc
      exact bSs.one ps_retN (hF .non p rfl sr.good sr.ext .non)
    · cases hc
  | .ite t a b, X, W, E0, p, ρ, σ, sts, rest, D, xs, hc, sr, hF => by
    unfold chkS at hc
    split at hc
    · split at hc
      · rename_i c x y pos r h
        cases hc
        obtain ⟨h0, h1⟩ := and2 h
        obtain ⟨h2, h3⟩ := and2 h1
        unfold Ev.evS at hF
        refine bSs.one (ps_if ptb pssb pssb) ?_
        refine st_T (sT t xs.xf h0 sr) hF fun p1 bb g x1 hF => ?_
        have s1 := sr.step g x1
        cases bb with
        | true =>
          rw [if_pos rfl] at hF ⊢
          exact sS a xs (nil_ok h2) s1 hF.nil
        | false =>
          rw [if_neg (by decide)] at hF ⊢
          exact sS b xs (nil_ok h3) s1 hF.nil
      · cases hc
    · cases hc
  | .loop tg it b cl, X, W, E0, p, ρ, σ, sts, rest, D, xs, hc, sr, hF => by
    unfold chkS at hc
    split at hc
    · split at hc
      · rename_i t e x pos r h
        cases hc
        obtain ⟨h0, h1⟩ := and2 h
        obtain ⟨h2, h3⟩ := and2 h1
        unfold Ev.evS at hF
        by_cases hit : Ev.itOk it = true
        · rw [if_pos hit] at hF
          refine bSs.one (ps_for xs.own xs.xf.calm pib (pg_TgS xs.xf.hN xs.xf.nd xs.fn xs.xf.calm h0) pssb (folded (plainIt h2) X.env)) ?_
          intro pins s I
          refine thn (sI it xs.xf h2 sr hF.rb hF.x pins s I) fun u s1 h1 => thn h1 fun u2 s2 h2 => ?_
          obtain ⟨itv, fp, tn, J, H', e1, e2, e3, e4, e5, p1, ds, eH, er, g1, x1, _, wk⟩ := h2
          refine ⟨itv, fp, tn, J, H', e1, e2, e3, e4, e5, ?_⟩
          subst eH
          replace wk := wk hit
          rw [er] at hF
          replace hF := Fin.le hF x1.le
          rw [Ev.R.st_ok] at hF
          generalize hbody : (fun (x : Ev.D) (ρ : Ev.Env) (S : Ev.Sto) => match Ev.setTg ρ tg x with | some ρ => Ev.evS (Ev.fns T k) b ρ S | none => .bad) = body at hF
          refine ⟨fun i m σ' H => m = ds.length - i ∧ i ≤ ds.length ∧ ∃ (q : Pt) (ρ' : Ev.Env), q.H = H ∧ SR Z E0 ρ' σ' q ∧ Le p1 q ∧ Fin X Z W E0 q rest D (Ev.forL body cl (ds.drop i) ρ' q.S), ⟨_, rfl, Nat.zero_le _, p1, ρ, rfl, sr.step g1 x1, Le.refl p1, hF⟩, ?_⟩
          rintro i m σ' H ⟨rfl, hle, q, ρ', rfl, sq, lq, hF⟩
          obtain ⟨w1, w2⟩ := wk q lq sq.good i
          by_cases hlt : i < ds.length
          · have hd : ds[i]? = some ds[i] := List.getElem?_eq_getElem hlt
            obtain ⟨go, yl⟩ := w1 _ hd
            refine .inr ⟨go, fun σ' H => i + 1 ≤ ds.length ∧ ∃ (q : Pt) (ρ' : Ev.Env), q.H = H ∧ SR Z E0 ρ' σ' q ∧ Le p1 q ∧ Fin X Z W E0 q rest D (Ev.forL body cl (ds.drop (i + 1)) ρ' q.S), fun σ' H' ⟨z1, z2⟩ => ⟨ds.length - (i + 1), by omega, rfl, z1, z2⟩, fun xv H' y => ?_⟩
            obtain ⟨q', rfl, eS, gq', xq', rx⟩ := yl xv H' y
            rw [List.drop_eq_getElem_cons hlt, forL_cons, ← eS] at hF
            replace hF := Fin.le hF xq'.le
            have sq' := sq.step gq' xq'
            have lq' := lq.trans xq'.le
            have hbx : body ds[i] ρ' q'.S = match Ev.setTg ρ' tg ds[i] with | some ρ => Ev.evS (Ev.fns T k) b ρ q'.S | none => .bad := by rw [← hbody]
            rw [hbx] at hF
            cases hset : Ev.setTg ρ' tg ds[i] with
            | none => rw [hset] at hF; exact hF.elim
            | some ρ1 =>
              rw [hset] at hF
              simp only at hF
              refine gTg_ok xs.xf.hK hset rx sq' fun σ2 s2 _ _ => ?_
              refine sS b xs (nil_ok h3) s2 ?_
              cases ho : Ev.evS (Ev.fns T k) b ρ1 q'.S with
              | next ρ2 S2 =>
                rw [ho] at hF
                intro σ3 p3 e3 s3 l3
                rw [Ev.O.turn_next, ← e3] at hF
                exact bSs.of pss_nil ⟨hlt, p3, _, rfl, s3.clear cl, lq'.trans l3, hF.le l3⟩
              | cnt ρ2 S2 =>
                rw [ho] at hF
                intro σ3 p3 e3 s3 l3
                rw [Ev.O.turn_cnt, ← e3] at hF
                exact ⟨hlt, p3, _, rfl, s3.clear cl, lq'.trans l3, hF.le l3⟩
              | brk ρ2 S2 =>
                rw [ho] at hF
                intro σ3 p3 e3 s3 l3
                exact hF σ3 p3 e3 (s3.clear cl) l3
              | ret r S2 =>
                rw [ho] at hF
                exact hF
              | exc c fs ρ2 S2 =>
                rw [ho] at hF
                exact hF
              | bad =>
                rw [ho] at hF
                exact hF.elim
          · have e : i = ds.length := by omega
            subst e
            rw [List.drop_length] at hF
            exact .inl ⟨w2 (Nat.le_refl _), hF σ' q rfl sq (Le.refl q)⟩
        · rw [if_neg hit] at hF; exact hF.elim
      · cases hc
    · cases hc
  | .whl t b cl, X, W, E0, p, ρ, σ, sts, rest, D, xs, hc, sr, hF => by
    unfold chkS at hc
    split at hc
    · split at hc
      · rename_i c x pos r h
        cases hc
        obtain ⟨h0, h3⟩ := and2 h
        unfold Ev.evS at hF
        refine bSs.one (ps_while xs.own ptb pssb) ?_
        refine ⟨fun m σ' H => ∃ (q : Pt) (ρ' : Ev.Env), q.H = H ∧ SR Z E0 ρ' σ' q ∧ Fin X Z W E0 q rest D (Ev.whlL (Ev.evT (Ev.fns T k) t) (Ev.evS (Ev.fns T k) b) cl m ρ' q.S), ⟨_, p, ρ, rfl, sr, hF⟩, ?_⟩
        rintro m σ' H ⟨q, ρ', rfl, sq, hF⟩
        cases m with
        | zero => exact hF.elim
        | succ m =>
          rw [whlL_succ] at hF
          refine st_T (sT t xs.xf h0 sq) hF fun p1 bb g x1 hF => ?_
          have s1 := sq.step g x1
          cases bb with
          | false =>
            rw [if_neg (by decide)] at hF ⊢
            exact hF σ' p1 rfl s1 (Le.refl p1)
          | true =>
            rw [if_pos rfl] at hF ⊢
            refine ⟨fun σ' H => ∃ (q : Pt) (ρ' : Ev.Env), q.H = H ∧ SR Z E0 ρ' σ' q ∧ Fin X Z W E0 q rest D (Ev.whlL (Ev.evT (Ev.fns T k) t) (Ev.evS (Ev.fns T k) b) cl m ρ' q.S), fun σ' H' z => ⟨m, Nat.lt_succ_self m, z⟩, ?_⟩
            refine sS b xs (nil_ok h3) s1 ?_
            cases ho : Ev.evS (Ev.fns T k) b ρ' p1.S with
            | next ρ2 S2 =>
              rw [ho] at hF
              intro σ3 p3 e3 s3 l3
              rw [Ev.O.turn_next, ← e3] at hF
              exact bSs.of pss_nil ⟨p3, _, rfl, s3.clear cl, hF.le l3⟩
            | cnt ρ2 S2 =>
              rw [ho] at hF
              intro σ3 p3 e3 s3 l3
              rw [Ev.O.turn_cnt, ← e3] at hF
              exact ⟨p3, _, rfl, s3.clear cl, hF.le l3⟩
            | brk ρ2 S2 =>
              rw [ho] at hF
              intro σ3 p3 e3 s3 l3
              exact hF σ3 p3 e3 (s3.clear cl) l3
            | ret r S2 =>
              rw [ho] at hF
              exact hF
            | exc c fs ρ2 S2 =>
              rw [ho] at hF
              exact hF
            | bad =>
              rw [ho] at hF
              exact hF.elim
      · cases hc
    · cases hc
  | .brk, X, W, E0, p, ρ, σ, sts, rest, D, xs, hc, sr, hF => by
    unfold chkS at hc
    split at hc
    · cases hc
      exact bSs.one ps_break (hF σ p rfl sr (Le.refl p))
    · cases hc
  | .cnt, X, W, E0, p, ρ, σ, sts, rest, D, xs, hc, sr, hF => by
    unfold chkS at hc
    split at hc
    · cases hc
      exact bSs.one ps_continue (hF σ p rfl sr (Le.refl p))
    · cases hc
  | .seq a b, X, W, E0, p, ρ, σ, sts, rest, D, xs, hc, sr, hF => by
    unfold chkS at hc
    split at hc
    · rename_i r h
      unfold Ev.evS at hF
      refine sS a xs h sr ?_
      cases ho : Ev.evS (Ev.fns T k) a ρ p.S with
      | next ρ2 S2 =>
        rw [ho] at hF
        intro σ3 p3 e3 s3 l3
        rw [Ev.O.sq_next, ← e3] at hF
        exact sS b xs hc s3 (hF.le l3)
      | cnt ρ2 S2 =>
        rw [ho] at hF
        exact hF
      | brk ρ2 S2 =>
        rw [ho] at hF
        exact hF
      | ret r S2 =>
        rw [ho] at hF
        exact hF
      | exc c fs ρ2 S2 =>
        rw [ho] at hF
        exact hF
      | bad =>
        rw [ho] at hF
        exact hF.elim
    · cases hc
  | .ex e, X, W, E0, p, ρ, σ, sts, rest, D, xs, hc, sr, hF => by
    unfold chkS at hc
    split at hc
    · split at hc
      · rename_i v pos r h
        cases hc
        obtain ⟨h0, h3⟩ := and2 h
        unfold Ev.evS at hF
        refine bSs.one (ps_expr peb (noSwap h0 (plainE h3) _ _ _)) ?_
        exact st_E (sE e xs.xf h3 sr) hF fun p1 d u g x1 ru hF => hF σ p1 rfl (sr.step g x1) (Le.refl p1)
      · cases hc
    · cases hc
  | .fz i, X, W, E0, p, ρ, σ, sts, rest, D, xs, hc, sr, hF => by
    unfold chkS at hc
    cases hc
    unfold Ev.evS at hF
    have sl := sr.slot i
    split at hF
    · rename_i ys hg
      rw [hg] at sl
      obtain ⟨a, vs, ex, hH, rs, hG, ht⟩ := sl
      have s2 := sr.give (d := .lst ys) (o := .lst vs) (by rw [hg]; rfl) ex hH fun sub => .lst (.of upd_same) (rs.mono sub ⟨[], by simp⟩)
      refine hF σ { p with G := upd p.G a (.lst vs) } rfl s2 ⟨fun b u hb => ?_, [], by simp⟩
      have z : b ≠ a := by rintro rfl; rw [hG] at hb; cases hb
      show upd p.G a (.lst vs) b = some u
      rw [upd_ne z]; exact hb
    · exact hF.elim
  | .clr is, X, W, E0, p, ρ, σ, sts, rest, D, xs, hc, sr, hF => by
    unfold chkS at hc
    cases hc
    exact hF σ p rfl (sr.clear is) (Le.refl p)
end
end Snd

set_option Elab.async false
set_option linter.all false
set_option maxRecDepth 100000
set_option maxHeartbeats 2000000
/-! The program: every def keeps its promise. -/
namespace Snd
open PySem PySem.Spec PyProof.Rows L2
/-- a def of the text against its datum -/
structure DefOK (Z : Fx) (f : Nat) (d : Ev.Def) : Prop where
  ex : ∃ (N ps : List Str) (x qual : Str) (params : Arguments) (body : List Stmt) (scope : Scope) (dvs : List V) (fd : FuncData),
    FunD Z.K x qual params body scope dvs [] (Z.ad.fa f) fd ∧ FnScope N ps scope ∧ N.length = d.ns ∧ ps.length = d.np ∧ nilB (chkS Z.nm N scope d.body body) = true ∧
    ∀ n, n ≤ d.np → d.np ≤ n + d.dfl.length → ∃ ds dvs, Vals dvs ds ∧ Binds Z.K fd ps ds ∧ ∀ th G, Reps Z th G dvs (d.dfl.drop (d.dfl.length - (d.np - n)))
/-- what does not change with the depth -/
structure SF (Z : Fx) (T : Ev.Tbl) (mg : Str → Option Value) : Prop where
  bl : ∀ x ∈ blts, mg x = none
  cst : ∀ n d, T.cst n = some d → ∃ v u, mg (Z.nm.cs n) = some u ∧ RelV v u ∧ ∀ th G, Rep Z th G v d
  glo : ∀ f, Z.nm.gl f = true → mg (Z.nm.fn f) = some (.ref (Z.ad.fa f)) ∧ PySem.W.keepIn Z.K (.ref (Z.ad.fa f)) = true
  glc : ∀ c, Z.nm.gc c = true → mg (Z.nm.cl c) = some (.ref (Z.ad.ca c)) ∧ PySem.W.keepIn Z.K (.ref (Z.ad.ca c)) = true
  meth : ∀ f, Z.nm.gm f = true → Meth Z.K (Z.ad.ca (T.mcls f)) (Z.nm.ms f) (Z.ad.fa f)
  defs : ∀ f d, T.fn f = some d → DefOK Z f d
  init : ∀ c f, T.init c = some f → Mk Z.K (Z.ad.ca c) (Z.ad.fa f) ∧ Cls Z.K (Z.ad.ca c)
  noat : ∀ c f, f ∈ T.flds c → Cls Z.K (Z.ad.ca c) ∧ NoAttr Z.K (Z.ad.ca c) (Z.nm.fl f)
section
variable {Z : Fx} {T : Ev.Tbl} {P : Program} {w : World} {mg : Str → Option Value} {base : Heap}
theorem env_get (n : Nat) : ∀ (ss : List Ev.Sl) (i : Nat), (Ev.envOf n ss).get i = ss[i]?
  | [], i => by
    show Ev.Env.get (List.replicate (n - 0) (none : Option Ev.Sl)) i = none
    generalize n - 0 = m
    induction m generalizing i with
    | zero => rfl
    | succ m ih =>
      cases i with
      | zero => rfl
      | succ i => exact ih i
  | s :: ss, 0 => rfl
  | s :: ss, i + 1 => by
    have h := env_get (n - 1) ss i
    have e : Ev.envOf n (s :: ss) = some s :: Ev.envOf (n - 1) ss := by
      unfold Ev.envOf
      rw [List.map_cons, List.cons_append, List.length_cons, Nat.sub_sub, Nat.add_comm 1]
    rw [e, Ev.Env.get_succ, h]; rfl
theorem env_len {n : Nat} {ss : List Ev.Sl} (h : ss.length ≤ n) : (Ev.envOf n ss).length = n := by
  unfold Ev.envOf
  rw [List.length_append, List.length_map, List.length_replicate]
  omega
theorem start_get {N : List Str} {vs : List V} {i : Nat} {v : V} (h : vs[i]? = some v) : sg (L2.start N vs) i = some v := by
  unfold sg L2.start
  have l : i < vs.length := (List.getElem?_eq_some_iff.mp h).1
  rw [List.getElem?_append_left (by rw [List.length_map]; exact l), List.getElem?_map, h]
  rfl
theorem start_len {N : List Str} {vs : List V} (h : vs.length ≤ N.length) : (L2.start N vs).length = N.length := by
  unfold L2.start
  rw [List.length_append, List.length_map, List.length_replicate]
  omega
theorem entry {p : Pt} {N : List Str} {vs : List V} {ds : List Ev.D} {n : Nat} (g : GoodP Z p) (r : p.Rs Z vs ds) (hn : N.length = n) (hl : ds.length ≤ n) : SR Z p (Ev.envOf n (ds.map .v)) (L2.start N vs) p := by
  have own0 : ∀ i, isOwn ((Ev.envOf n (ds.map .v)).get i) = false := fun i => by
    rw [env_get, List.getElem?_map]
    cases ds[i]? <;> rfl
  have l2 : (ds.map Ev.Sl.v).length ≤ n := by rw [List.length_map]; exact hl
  refine ⟨g, Ext.refl p, fun i => ?_, fun i j a h => ?_, fun i a h => ?_, ?_, fun i c fs h => ?_⟩
  · rw [env_get, List.getElem?_map]
    cases e : ds[i]? with
    | none => trivial
    | some d =>
      obtain ⟨v, h1, h2⟩ := r.get e
      exact ⟨v, start_get h1, h2⟩
  · rw [own0] at h; cases h
  · rw [own0] at h; cases h
  · rw [env_len l2, start_len (by rw [r.length, hn]; exact hl), hn]
  · have z := own0 i
    rw [h] at z; cases z
theorem entryI {p : Pt} {N : List Str} {vs : List V} {ds : List Ev.D} {n c : Nat} {a dx : Addr} (g : GoodP Z p) (r : p.Rs Z vs ds) (hn : N.length = n) (hl : ds.length + 1 ≤ n) (h1 : p.H a = none) (h2 : p.H dx = none) (h3 : dx ≠ a) :
    ∃ p1, p1.H = upd (upd p.H dx (.own a)) a (.ins (Z.ad.ca c) dx []) ∧ p1.S = p.S ∧ SR Z { p with me := a } (Ev.envOf n (.o c [] :: ds.map .v)) (L2.start N (.ref a :: vs)) p1 := by
  obtain ⟨g1, e1⟩ := g.new (a := dx) (o := .own a) h2
  have h1' : upd p.H dx (.own a) a = none := by rw [upd_ne (fun z => h3 z.symm)]; exact h1
  obtain ⟨g2, e2⟩ := g1.own (a := a) (o := .ins (Z.ad.ca c) dx []) h1'
  have e12 := e1.trans e2
  refine ⟨{ p with H := upd (upd p.H dx (.own a)) a (.ins (Z.ad.ca c) dx []), G := upd p.G dx (.own a) }, rfl, rfl, g2, ⟨e12.g, e12.t, e12.h⟩, fun i => ?_, fun i j b o1 o2 q1 q2 => ?_, fun i b o1 q1 => ?_, ?_, fun i c' fs h => ?_⟩
  · rw [env_get]
    cases i with
    | zero =>
      refine ⟨a, dx, [], start_get rfl, upd_same, upd_same, .nil, ?_, ?_⟩
      · show upd p.G dx (.own a) a = none
        rw [upd_ne (fun z => h3 z.symm)]
        cases e : p.G a with
        | none => rfl
        | some u => rw [g.sub _ _ e] at h1; cases h1
      · intro m
        obtain ⟨u, hu⟩ := g.there m
        rw [h1] at hu; cases hu
    | succ i =>
      rw [List.getElem?_cons_succ, List.getElem?_map]
      cases e : ds[i]? with
      | none => trivial
      | some d =>
        obtain ⟨v, q1, q2⟩ := r.get e
        exact ⟨v, start_get (by rw [List.getElem?_cons_succ]; exact q1), q2.mono e12.g e12.t⟩
  · have z : ∀ i, isOwn ((Ev.envOf n (.o c [] :: ds.map .v)).get i) = true → i = 0 := fun i h => by
      rw [env_get] at h
      cases i with
      | zero => rfl
      | succ i =>
        rw [List.getElem?_cons_succ, List.getElem?_map] at h
        cases e : ds[i]? <;> rw [e] at h <;> cases h
    rw [z i o1, z j o2]
  · rw [env_get] at o1
    cases i with
    | zero =>
      have q2 : sg (L2.start N (.ref a :: vs)) 0 = some (.ref a) := start_get rfl
      rw [q2] at q1; cases q1
      exact h1
    | succ i =>
      rw [List.getElem?_cons_succ, List.getElem?_map] at o1
      cases e : ds[i]? <;> rw [e] at o1 <;> cases o1
  · rw [env_len (by rw [List.length_cons, List.length_map]; exact hl), start_len (by rw [List.length_cons, r.length, hn]; exact hl), hn]
  · rw [env_get] at h
    cases i with
    | zero => exact start_get rfl
    | succ i =>
      rw [List.getElem?_cons_succ, List.getElem?_map] at h
      cases e : ds[i]? <;> rw [e] at h <;> cases h
theorem np_le {N ps : List Str} {sc : Scope} (S : FnScope N ps sc) : ps.length ≤ N.length := by
  have := congrArg List.length S.pre
  rw [List.length_take] at this
  omega
theorem def_ok {k f : Nat} {d : Ev.Def} {N ps : List Str} {x qual : Str} {params : Arguments} {body : List Stmt} {scope : Scope} {dvs : List V} {fd : FuncData} (ih : PF Z T k P w mg base) (F : FunD Z.K x qual params body scope dvs [] (Z.ad.fa f) fd) (S : FnScope N ps scope)
    (hns : N.length = d.ns) (hnp : ps.length = d.np) (hchk : nilB (chkS Z.nm N scope d.body body) = true) : FnOk P w Z.K mg base (L2.CX P w) (2 * (k + 1)) (Z.ad.fa f) fd ps (spF Z (Ev.fns T k) d) := by
  have hchk := nil_ok hchk
  have hle := np_le S
  refine FunD.ok (k := 2 * k + 1) F S (fun vs H Q E h => ?_) (fun cdv A outer s H vs Q E hr h => ⟨bSs _ body, pssb, ?_⟩)
  · obtain ⟨p, ds, _, _, r, l, _⟩ := h
    rw [r.length, l, hnp]
  · obtain ⟨p, ds, rfl, g, r, l, nb, h1, h2⟩ := h
    have xf : XF Z T k N (fun cls d' _ H' => E cls d' H') (cxOf (L2.CX P w) P w Z.K mg base N qual scope (Z.ad.fa f) cdv A outer s p.H E) := ⟨ih, rfl, rfl, S.nd, rfl, hr, takes_of rfl rfl rfl rfl⟩
    have xs : XS Z T k N (fun cls d' _ H' => E cls d' H') (cxOf (L2.CX P w) P w Z.K mg base N qual scope (Z.ad.fa f) cdv A outer s p.H E) := ⟨xf, fun _ => rfl, passes_of rfl, S.kind⟩
    refine sS d.body xs hchk (entry g r hns (by rw [l, ← hnp, ← hns]; exact hle)) ?_
    unfold Ev.callD at nb h1 h2
    cases ho : Ev.evS (Ev.fns T k) d.body (Ev.envOf d.ns (ds.map .v)) p.S with
    | next ρ S =>
      rw [ho] at h1
      exact fun σ' p' e s' _ => bSs.of pss_nil (h1 (.v .non) p' .non (by rw [e]; rfl) s'.good s'.ext .non)
    | ret rr S =>
      rw [ho] at h1
      exact fun v p' e g' x' rr' => h1 rr p' v (by rw [e]; rfl) g' x' rr'
    | brk ρ S => rw [ho] at nb; exact absurd rfl nb
    | cnt ρ S => rw [ho] at nb; exact absurd rfl nb
    | exc c fs ρ S =>
      rw [ho] at h2
      exact fun σ' p' cls dx e s' xr => h2 c fs p' cls dx (by rw [e]; rfl) s'.good s'.ext xr
    | bad => rw [ho] at nb; exact absurd rfl nb
theorem prog_ok (sf : SF Z T mg) : ∀ k, PF Z T k P w mg base
  | 0 => ⟨sf.bl, sf.cst, sf.glo, sf.glc, sf.meth, fun _ _ _ h => (by cases h), fun _ _ _ _ h => (by cases h), fun c f h => (sf.init c f h).2, sf.noat⟩
  | k + 1 => by
    have ih := prog_ok sf k
    refine ⟨sf.bl, sf.cst, sf.glo, sf.glc, sf.meth, fun j f d hj hf => ?_, fun j c f d hj hc hf => ⟨(sf.init c f hc).1, ?_⟩, fun c f h => (sf.init c f h).2, sf.noat⟩
    · cases hj
      obtain ⟨N, ps, x, qual, params, body, scope, dvs, fd, F, S, hns, hnp, hchk, hb⟩ := (sf.defs f d hf).ex
      exact ⟨fd, ps, def_ok ih F S hns hnp hchk, hb⟩
    · cases hj
      obtain ⟨N, ps, x, qual, params, body, scope, dvs, fd, F, S, hns, hnp, hchk, hb⟩ := (sf.defs f d hf).ex
      refine ⟨fd, ps, ?_, hb⟩
      have hchk := nil_ok hchk
      have hle := np_le S
      have hcls := (sf.init c f hc).2
      refine FunD.ok (k := 2 * k + 1) F S (fun vs H Q E h => ?_) (fun cdv A outer s H vs Q E hr h => ⟨bSs _ body, pssb, ?_⟩)
      · obtain ⟨p, a, dx, vs', ds, rfl, _, _, _, _, _, r, l, _⟩ := h
        rw [List.length_cons, r.length, l, hnp]
      · obtain ⟨p, a, dx, vs', ds, rfl, rfl, n1, n2, n3, g, r, l, nb, h1, h2⟩ := h
        obtain ⟨p1, e1, e2, s1⟩ := entryI (c := c) (N := N) (n := d.ns) g r hns (by rw [l, ← hnp, ← hns]; exact hle) n1 n2 n3
        rw [← e1]
        have xf : XF Z T k N (fun cls d' _ H' => E cls d' H') (cxOf (L2.CX P w) P w Z.K mg base N qual scope (Z.ad.fa f) cdv A outer s p1.H E) := ⟨ih, rfl, rfl, S.nd, rfl, hr, takes_of rfl rfl rfl rfl⟩
        have xs : XS Z T k N (fun cls d' _ H' => E cls d' H') (cxOf (L2.CX P w) P w Z.K mg base N qual scope (Z.ad.fa f) cdv A outer s p1.H E) := ⟨xf, fun _ => rfl, passes_of rfl, S.kind⟩
        refine sS d.body xs hchk s1 ?_
        unfold Ev.makeD at nb h1 h2
        rw [e2]
        have ex2 : ∀ {q : Pt}, Ext { p with me := a } q → Ext p q := fun e => ⟨e.g, e.t, e.h⟩
        cases ho : Ev.evS (Ev.fns T k) d.body (Ev.envOf d.ns (.o c [] :: ds.map .v)) p.S with
        | next ρ S =>
          rw [ho] at h1 nb
          refine fun σ' p' e s' _ => bSs.of pss_nil ?_
          have sl := s'.slot 0
          have em : (Ev.O.next ρ S).made c = match ρ.get 0 with | some (.o e fs) => if e = c then .ok (.obj c fs) S else .bad | _ => .bad := rfl
          rw [em] at h1 nb
          split at nb
          · rename_i c' fs hg
            rw [hg] at sl
            simp only [hg] at h1
            obtain ⟨a', dx', vs, ex, hH, hd, rf, hG, ht⟩ := sl
            have em := s'.me 0 c' fs hg
            rw [ex] at em
            cases em
            by_cases hc' : c' = c
            · subst hc'
              simp only [if_pos] at h1
              have s2 := s'.give (i := 0) (d := .obj c' fs) (by rw [hg]; rfl) ex hH fun sub => .obj hcls upd_same (sub _ _ hd) (rf.mono sub ⟨[], by simp⟩)
              refine h1 (.obj c' fs) { p' with G := upd p'.G a (.ins (Z.ad.ca c') dx' vs) } (by rw [e]) s2.good (ex2 s2.ext) ?_
              exact .obj hcls upd_same (by
                show upd p'.G a _ dx' = _
                have z : dx' ≠ a := by rintro rfl; rw [hG] at hd; cases hd
                rw [upd_ne z]; exact hd) (rf.mono (fun b u hb => by
                show upd p'.G a _ b = _
                have z : b ≠ a := by rintro rfl; rw [hG] at hb; cases hb
                rw [upd_ne z]; exact hb) ⟨[], by simp⟩)
            · rw [if_neg hc'] at nb; exact absurd rfl nb
          · exact absurd rfl nb
        | ret rr S => rw [ho] at nb; exact absurd rfl nb
        | brk ρ S => rw [ho] at nb; exact absurd rfl nb
        | cnt ρ S => rw [ho] at nb; exact absurd rfl nb
        | exc c' fs ρ S =>
          rw [ho] at h2
          exact fun σ' p' cls dx e s' xr => h2 c' fs p' cls dx (by rw [e]; rfl) s'.good (ex2 s'.ext) xr
        | bad => rw [ho] at nb; exact absurd rfl nb
end
end Snd

set_option Elab.async false
set_option linter.all false
set_option maxRecDepth 100000
set_option maxHeartbeats 2000000
/-! The head: from the facts of the tables to the law. -/
namespace Snd
open PySem PySem.Spec PyProof.Rows L2
/-- one def: its datum, its names, its parameters, the evaluator's -/
structure Ent where
  dd : He.DefD
  N : List Str
  ps : List Str
  d : Ev.Def
inductive Cv where
  | int (i : Int) | str (s : List Nat)
def Cv.d : Cv → Ev.D
  | .int i => .int i
  | .str s => .str s
structure Tabs where
  ents : List Ent
  clss : List Str := []
  flds : List Str := []
  init : List (Nat × Nat) := []
  cflds : List (Nat × List Nat) := []
  mcls : List (Nat × Nat) := []
  csts : List (Str × Cv) := []
def fldOf (ns : List Str) (i : Nat) : Str := match ns[i]? with
  | some x => x
  | none => ⟨(List.replicate (i + 100) 0).toArray⟩
theorem fldOf_inj {ns : List Str} (h1 : ns.Nodup) (h2 : ∀ x ∈ ns, x.length < 100) (i j : Nat) (h : fldOf ns i = fldOf ns j) : i = j := by
  unfold fldOf at h
  have len : ∀ n : Nat, (Str.mk (List.replicate n 0).toArray).length = n := fun n => by show (List.replicate n 0).toArray.size = n; simp
  cases e1 : ns[i]? with
  | none =>
    cases e2 : ns[j]? with
    | none =>
      rw [e1, e2] at h
      have := congrArg Str.length h
      rw [len, len] at this
      omega
    | some y =>
      rw [e1, e2] at h
      have l := h2 y (List.mem_of_getElem? e2)
      have h' : Str.mk (List.replicate (i + 100) 0).toArray = y := h
      rw [← h', len] at l
      omega
  | some x =>
    cases e2 : ns[j]? with
    | none =>
      rw [e1, e2] at h
      have l := h2 x (List.mem_of_getElem? e1)
      have h' : x = Str.mk (List.replicate (j + 100) 0).toArray := h
      rw [h', len] at l
      omega
    | some y =>
      rw [e1, e2] at h
      have h' : x = y := h
      subst h'
      obtain ⟨l1, q1⟩ := List.getElem?_eq_some_iff.mp e1
      obtain ⟨l2, q2⟩ := List.getElem?_eq_some_iff.mp e2
      exact (List.getElem_inj h1).mp (q1.trans q2.symm)
section
variable (t : Tabs)
def Tabs.at_ (f : Nat) : Str × Option Str := match t.ents[f]? with
  | some e => e.dd.at_
  | none => (Str.empty, none)
def Tabs.nm : Nm where
  fn := fun f => (t.at_ f).1
  gl := fun f => decide (f < t.ents.length) && (t.at_ f).2.isNone
  gc := fun c => decide (c < t.clss.length)
  gm := fun f => (t.mcls.lookup f).isSome
  cl := fun c => t.clss.getD c Str.empty
  fl := fldOf t.flds
  ms := fun f => (t.at_ f).2.getD Str.empty
  cs := fun n => (t.csts.getD n (Str.empty, .int 0)).1
def Tabs.T : Ev.Tbl where
  fn := fun f => t.ents[f]?.map (·.d)
  init := fun c => t.init.lookup c
  cst := fun n => t.csts[n]?.map fun q => q.2.d
  mcls := fun f => (t.mcls.lookup f).getD 0
  flds := fun c => (t.cflds.lookup c).getD []
def Tabs.facts : List He.Fa :=
  blts.map .free ++ ((t.ents.filter fun e => e.dd.at_.2.isNone).map fun e => .glo e.dd.at_.1) ++ (t.csts.map fun q => match q.2 with | .int i => .int q.1 i | .str s => .str q.1 ⟨s.toArray⟩) ++
    (t.clss.map fun x => .glo x) ++ (t.clss.map fun x => .keep x) ++ (t.clss.map fun x => .cls x) ++ (t.init.map fun q => .mkr (t.clss.getD q.1 Str.empty)) ++
    (t.cflds.flatMap fun q => q.2.map fun f => .noat (t.clss.getD q.1 Str.empty) (fldOf t.flds f)) ++ (t.mcls.map fun q => .meth (t.clss.getD q.2 Str.empty) ((t.at_ q.1).2.getD Str.empty))
def fnScopeB (N ps : List Str) (sc : Scope) : Bool := (match sc.kind with | .function => true | _ => false) && (!sc.isCoroutine && (!sc.isGenerator && (decide N.Nodup && (decide (N.take ps.length = ps) && ((ps.all fun x => decide (sc.names.lookup x = some .local) || decide (sc.names.lookup x = some .cell)) && (sc.names.all fun y => match y.2 with | .free => false | _ => true))))))
theorem fnScope_ok {N ps : List Str} {sc : Scope} (h : fnScopeB N ps sc = true) : FnScope N ps sc := by
  unfold fnScopeB at h
  obtain ⟨h1, h⟩ := and2 h
  obtain ⟨h2, h⟩ := and2 h
  obtain ⟨h3, h⟩ := and2 h
  obtain ⟨h4, h⟩ := and2 h
  obtain ⟨h5, h⟩ := and2 h
  obtain ⟨h6, h7⟩ := and2 h
  refine ⟨?_, by simpa using h2, by simpa using h3, of_decide_eq_true h4, of_decide_eq_true h5, fun x hx => ?_, fun y hy e => ?_⟩
  · split at h1
    · assumption
    · cases h1
  · have := List.all_eq_true.mp h6 x hx
    simpa using this
  · have := List.all_eq_true.mp h7 y hy
    rw [e] at this
    cases this
def okE (nm : Nm) (e : Ent) : Bool := fnScopeB e.N e.ps e.dd.scope && (decide (e.N.length = e.d.ns) && (decide (e.ps.length = e.d.np) && (e.dd.dfl.isEmpty && (e.dd.kwd.isEmpty && (e.d.dfl.isEmpty && nilB (chkS nm e.N e.dd.scope e.d.body e.dd.body))))))
def Tabs.ok : Bool := (decide t.flds.Nodup && t.flds.all fun x => decide (x.length < 100)) && ((t.ents.all fun e => okE t.nm e) && ((t.init.all fun q => decide (q.1 < t.clss.length) && decide (t.at_ q.2 = (t.clss.getD q.1 Str.empty, some ("__init__" : Str)))) &&
  ((t.cflds.all fun q => decide (q.1 < t.clss.length)) && (t.mcls.all fun q => decide (t.at_ q.1 = (t.clss.getD q.2 Str.empty, some ((t.at_ q.1).2.getD Str.empty)))))))
def BindE (e : Ent) : Prop := ∀ (kV doc pm : Value) (an : Option Addr) (cdv ct : Value) (us : List Value), us.length = e.ps.length → bindArgs (PySem.W.fnOf e.dd.name e.dd.qual e.dd.params e.dd.body e.dd.scope .none kV doc pm an cdv ct) ⟨us, []⟩ = pure (e.ps.zip us)
def BindAll : List Ent → Prop
  | [] => True
  | e :: r => BindE e ∧ BindAll r
theorem BindAll.at_ : ∀ {es : List Ent} {i : Nat} {e : Ent}, BindAll es → es[i]? = some e → BindE e
  | [], _, _, _, h => by simp at h
  | _ :: _, 0, _, b, h => by cases h; exact b.1
  | _ :: r, i + 1, e, b, h => BindAll.at_ (es := r) (i := i) b.2 h
end
theorem lookup_mem {α β : Type} [BEq α] [LawfulBEq α] {a : α} {b : β} : ∀ {l : List (α × β)}, l.lookup a = some b → (a, b) ∈ l
  | [], h => by cases h
  | (x, y) :: r, h => by
    rw [List.lookup_cons] at h
    split at h
    · rename_i e
      cases h
      rw [eq_of_beq e]
      exact List.mem_cons_self
    · exact List.mem_cons_of_mem _ (lookup_mem h)
section
variable {t : Tabs} {K : PySem.W.Frag} {h : Heap} {mg : Str → Option Value}
def Zof (t : Tabs) (hinj : ∀ i j, fldOf t.flds i = fldOf t.flds j → i = j) (K : PySem.W.Frag) : Fx := ⟨K, t.nm, ⟨fun f => He.fAd K (t.at_ f), fun c => He.ga K (t.clss.getD c Str.empty)⟩, hinj⟩
theorem Tabs.inj (ok : t.ok = true) : ∀ i j, fldOf t.flds i = fldOf t.flds j → i = j := by
  obtain ⟨h1, _⟩ := and2 ok
  obtain ⟨h1, h2⟩ := and2 h1
  exact fldOf_inj (of_decide_eq_true h1) fun x hx => of_decide_eq_true (List.all_eq_true.mp h2 x hx)
theorem fact_of (c : He.SaysD t.facts (t.ents.map (·.dd)) K) {f : He.Fa} (hf : f ∈ t.facts) : f.ok K = true := by
  obtain ⟨i, hi⟩ := List.getElem?_of_mem hf
  exact c.fact i hi
theorem clss_mem {c : Nat} (h : c < t.clss.length) : t.clss.getD c Str.empty ∈ t.clss := by
  rw [List.getD_eq_getElem?_getD, List.getElem?_eq_getElem h]
  exact List.getElem_mem h
theorem sf_of (ok : t.ok = true) (hinj : ∀ i j, fldOf t.flds i = fldOf t.flds j → i = j) (X : K.In h) (G : h.Ns mainGlobals mg) (c : He.SaysD t.facts (t.ents.map (·.dd)) K) (b : BindAll t.ents) : SF (Zof t hinj K) t.T mg := by
  obtain ⟨_, ok⟩ := and2 ok
  obtain ⟨o1, ok⟩ := and2 ok
  obtain ⟨o2, ok⟩ := and2 ok
  obtain ⟨o3, o4⟩ := and2 ok
  have hcls : ∀ i, i < t.clss.length → Cls K (He.ga K (t.clss.getD i Str.empty)) := fun i hi => He.cls_ok (fact_of c (f := .cls (t.clss.getD i Str.empty)) (by
    unfold Tabs.facts
    simp only [List.mem_append]
    exact .inl (.inl (.inl (.inr (List.mem_map.mpr ⟨_, clss_mem hi, rfl⟩))))))
  refine ⟨fun x hx => ?_, fun n d hd => ?_, fun f hf => ?_, fun i hi => ?_, fun f hf => ?_, fun f d hf => ?_, fun i f hi => ?_, fun i f hf => ?_⟩
  · refine He.free_ok X G (fact_of c (f := .free x) ?_)
    unfold Tabs.facts
    simp only [List.mem_append]
    exact .inl (.inl (.inl (.inl (.inl (.inl (.inl (.inl (List.mem_map.mpr ⟨x, hx, rfl⟩))))))))
  · have hd' : (t.csts[n]?).map (fun q => q.2.d) = some d := hd
    obtain ⟨q, h1, h2⟩ := Option.map_eq_some_iff.mp hd'
    have hn : (Zof t hinj K).nm.cs n = q.1 := by
      show (t.csts.getD n (Str.empty, .int 0)).1 = q.1
      rw [List.getD_eq_getElem?_getD, h1]; rfl
    rw [hn]
    obtain ⟨x, cv⟩ := q
    have hm : (match (x, cv).2 with | .int i => He.Fa.int (x, cv).1 i | .str s => .str (x, cv).1 ⟨s.toArray⟩) ∈ t.facts := by
      unfold Tabs.facts
      simp only [List.mem_append]
      exact .inl (.inl (.inl (.inl (.inl (.inl (.inr (List.mem_map.mpr ⟨(x, cv), List.mem_of_getElem? h1, rfl⟩)))))))
    have h2' : cv.d = d := h2
    subst h2'
    cases cv with
    | int i =>
      obtain ⟨tk, e⟩ := He.int_ok X G (fact_of c hm)
      exact ⟨.int i, _, e, ⟨tk, rfl⟩, fun _ _ => .int i⟩
    | str s =>
      obtain ⟨tk, e⟩ := He.str_ok X G (fact_of c hm)
      exact ⟨.str ⟨s.toArray⟩, _, e, ⟨tk, rfl⟩, fun _ _ => .str s⟩
  · obtain ⟨h1, h2⟩ := and2 (show (decide (f < t.ents.length) && (t.at_ f).2.isNone) = true from hf)
    have h1 := of_decide_eq_true h1
    have e : t.ents[f]? = some t.ents[f] := List.getElem?_eq_getElem h1
    have ea : t.at_ f = t.ents[f].dd.at_ := by unfold Tabs.at_; rw [e]
    obtain ⟨fd, F⟩ := c.def_ f (d := t.ents[f].dd) (by rw [List.getElem?_map, e]; rfl)
    have hfa : He.fAd K (t.at_ f) = He.ga K (t.at_ f).1 := by
      unfold He.fAd
      cases z : (t.at_ f).2 with
      | none => rfl
      | some m => rw [z] at h2; cases h2
    refine ⟨?_, ?_⟩
    · show mg (t.at_ f).1 = some (.ref (He.fAd K (t.at_ f)))
      rw [hfa]
      refine He.glo_ok X G (fact_of c (f := .glo (t.at_ f).1) ?_)
      unfold Tabs.facts
      simp only [List.mem_append]
      refine .inl (.inl (.inl (.inl (.inl (.inl (.inl (.inr (List.mem_map.mpr ⟨t.ents[f], List.mem_filter.mpr ⟨List.getElem_mem h1, ?_⟩, ?_⟩))))))))
      · rw [← ea]; exact h2
      · rw [ea]
    · show PySem.W.keepIn K (.ref (He.fAd K (t.at_ f))) = true
      rw [ea]; exact F.kp
  · have h1 := of_decide_eq_true (show decide (i < t.clss.length) = true from hi)
    refine ⟨He.glo_ok X G (fact_of c (f := .glo (t.clss.getD i Str.empty)) ?_), He.keep_ok (fact_of c (f := .keep (t.clss.getD i Str.empty)) ?_)⟩
    · unfold Tabs.facts
      simp only [List.mem_append]
      exact .inl (.inl (.inl (.inl (.inl (.inr (List.mem_map.mpr ⟨_, clss_mem h1, rfl⟩))))))
    · unfold Tabs.facts
      simp only [List.mem_append]
      exact .inl (.inl (.inl (.inl (.inr (List.mem_map.mpr ⟨_, clss_mem h1, rfl⟩)))))
  · have hf' : (t.mcls.lookup f).isSome = true := hf
    obtain ⟨cc, hc⟩ := Option.isSome_iff_exists.mp hf'
    have hm := lookup_mem hc
    have ha := of_decide_eq_true (List.all_eq_true.mp o4 _ hm)
    have hmc : t.T.mcls f = cc := by show (t.mcls.lookup f).getD 0 = cc; rw [hc]; rfl
    rw [hmc]
    have hfa : (Zof t hinj K).ad.fa f = He.ma K (He.ga K (t.clss.getD cc Str.empty)) ((t.at_ f).2.getD Str.empty) := by
      show He.fAd K (t.at_ f) = _
      simp only at ha
      rw [ha]; rfl
    rw [hfa]
    refine He.meth_ok (fact_of c (f := .meth (t.clss.getD cc Str.empty) ((t.at_ f).2.getD Str.empty)) ?_)
    unfold Tabs.facts
    simp only [List.mem_append]
    exact .inr (List.mem_map.mpr ⟨(f, cc), hm, rfl⟩)
  · have hf' : (t.ents[f]?).map (·.d) = some d := hf
    obtain ⟨e, h1, h2⟩ := Option.map_eq_some_iff.mp hf'
    subst h2
    have ea : t.at_ f = e.dd.at_ := by unfold Tabs.at_; rw [h1]
    obtain ⟨fd, F⟩ := c.def_ f (d := e.dd) (by rw [List.getElem?_map, h1]; rfl)
    have hok := List.all_eq_true.mp o1 e (List.mem_of_getElem? h1)
    unfold okE at hok
    obtain ⟨k1, hok⟩ := and2 hok
    obtain ⟨k2, hok⟩ := and2 hok
    obtain ⟨k3, hok⟩ := and2 hok
    obtain ⟨k4, hok⟩ := and2 hok
    obtain ⟨k5, hok⟩ := and2 hok
    obtain ⟨k6, k7⟩ := and2 hok
    have e4 : e.dd.dvs K = [] := by
      unfold He.DefD.dvs
      rw [List.isEmpty_iff.mp k4]; rfl
    have e5 : e.dd.kws K = [] := by
      unfold He.DefD.kws
      rw [List.isEmpty_iff.mp k5]; rfl
    rw [e4, e5, ← ea] at F
    have e6 := List.isEmpty_iff.mp k6
    have k3 := of_decide_eq_true k3
    refine ⟨e.N, e.ps, _, _, _, _, _, _, fd, F, fnScope_ok k1, of_decide_eq_true k2, k3, k7, fun n hn1 hn2 => ⟨[], [], .nil, F.bindsN (b.at_ h1), fun th G => ?_⟩⟩
    rw [e6, List.drop_nil]
    exact .nil
  · have hm := lookup_mem (show t.init.lookup i = some f from hi)
    obtain ⟨q1, q2⟩ := and2 (List.all_eq_true.mp o2 _ hm)
    have q1 := of_decide_eq_true q1
    have q2 := of_decide_eq_true q2
    simp only at q1 q2
    refine ⟨?_, hcls i q1⟩
    have hfa : (Zof t hinj K).ad.fa f = He.ma K (He.ga K (t.clss.getD i Str.empty)) "__init__" := by
      show He.fAd K (t.at_ f) = _
      rw [q2]; rfl
    rw [hfa]
    refine He.mkr_ok (fact_of c (f := .mkr (t.clss.getD i Str.empty)) ?_)
    unfold Tabs.facts
    simp only [List.mem_append]
    exact .inl (.inl (.inr (List.mem_map.mpr ⟨(i, f), hm, rfl⟩)))
  · have hf' : f ∈ (t.cflds.lookup i).getD [] := hf
    cases hl : t.cflds.lookup i with
    | none => rw [hl] at hf'; cases hf'
    | some fs =>
      rw [hl] at hf'
      have hm := lookup_mem hl
      have q1 := of_decide_eq_true (List.all_eq_true.mp o3 _ hm)
      simp only at q1
      refine ⟨hcls i q1, He.noat_ok (fact_of c (f := .noat (t.clss.getD i Str.empty) (fldOf t.flds f)) ?_)⟩
      unfold Tabs.facts
      simp only [List.mem_append]
      exact .inl (.inr (List.mem_flatMap.mpr ⟨(i, fs), hm, List.mem_map.mpr ⟨f, hf', rfl⟩⟩))
end

/-! ### the law -/
theorem walk_ofW {l : PySem.W.OpenLaw} {n k : Nat} {q : Program} {loose : List Str} {XP : (Str → Option Value) → Heap → Prop} {YP : World → Heap → Prop} {d : DefRec} {CX : World → CXT} {x : Str}
    (hn : l.most = some n) (hn2 : n ≤ sizeLine) (hdf : d.params.defaults = []) (hr : Room k callerA)
    (F : ∀ (w : World) (mg : Str → Option Value) (fa : Addr) (h : Heap), YP w h → h.Ns mainGlobals mg → mg d.name = some (.ref fa) →
      ∃ (K : PySem.W.Frag) (fd : FuncData) (sp : Sp), K.In h ∧ (∀ (s : Shared) (u : Value), BindsTo s fd ⟨[u], []⟩ [(x, u)]) ∧
        (∀ (H : Hp) (a : Addr) (ns : List Int), ns.length ≤ n → Only H → SqL K H a (ns.map V.int) → sp [.ref a] H (fun v _ => v = .bl true) fun _ _ _ => False) ∧
        ∀ base : Heap, K.In base → base.Ns mainGlobals mg → FnOk l.prog w K mg base (CX w) k fa fd [x] sp)
    (hCX : ∀ (w : World) (H : Hp) (s : Shared) (e : Value) (s' : Shared), CX w [] H s (fun _ _ _ => False) e s' → False) :
    PySem.W.WalkO q loose XP YP l.row.toRowW d [] (fun f vs => PySem.call f vs) := by
  refine Att.attach_call hn hdf fun w s₀ s₁ mg mb fa o pm cd doc a vs ns G Y ho hd hcd hmg hobj hints hlen hg => ?_
  obtain ⟨K, fd, sp, KX, hb, hsp, hF⟩ := F w mg fa _ Y G.T.g hmg
  exact law_call KX G.T.g G.T.b G.T.builtins G.T.nolimit hg hobj hints (Nat.le_trans hlen hn2) hr hF hb (fun H hO hS => hsp H a ns hlen hO hS) fun H e s' => hCX w H s₁ e s'
theorem law_sp {Z : Fx} {F : Ev.Fns} {d : Ev.Def} {n : Nat} (hd : d.np = 1) (law : ∀ ns : List Int, ns.length ≤ n → Ev.callD F d [.lst (ns.map .int)] [] = .ok (.v (.bl true)) [])
    (H : Hp) (a : Addr) (ns : List Int) (hl : ns.length ≤ n) (hS : SqL Z.K H a (ns.map V.int)) : spF Z F d [.ref a] H (fun v _ => v = .bl true) fun _ _ _ => False := by
  refine ⟨{ G := H, th := [], H := H, S := [] }, [.lst (ns.map .int)], rfl, ⟨fun _ _ h => h, rfl, List.nodup_nil, fun n a c h => by simp at h, fun a h => by cases h⟩, .cons (.lst hS (reps_ints (p := { G := H, th := [], H := H, S := [] }) ns)) .nil, hd.symm, ?_, ?_, ?_⟩
  · rw [law ns hl]; intro z; cases z
  · intro r p' v e _ _ rr
    rw [law ns hl] at e
    injection e with e1 e2
    subst e1
    exact R_bl rr
  · intro c fs p' cls dx e
    rw [law ns hl] at e
    cases e
theorem law_walk {l : PySem.W.OpenLaw} {n k lf : Nat} {t : Tabs} {e : Ent} {q : Program} {loose : List Str} {XP : (Str → Option Value) → Heap → Prop} {YP : World → Heap → Prop} {d : DefRec} {x : Str} (ok : t.ok = true) (b : BindAll t.ents)
    (he : t.ents[lf]? = some e) (hat : e.dd.at_ = (d.name, none)) (hps : e.ps = [x]) (hY : ∀ w h, YP w h → ∃ K : PySem.W.Frag, K.In h ∧ He.SaysD t.facts (t.ents.map (·.dd)) K)
    (hn : l.most = some n) (hn2 : n ≤ sizeLine) (hdf : d.params.defaults = []) (hr : Room (2 * (k + 1)) callerA)
    (law : ∀ ns : List Int, ns.length ≤ n → Ev.callD (Ev.fns t.T k) e.d [.lst (ns.map .int)] [] = .ok (.v (.bl true)) []) :
    PySem.W.WalkO q loose XP YP l.row.toRowW d [] (fun f vs => PySem.call f vs) := by
  have ok' := ok
  obtain ⟨_, ok2⟩ := and2 ok'
  obtain ⟨o1, _⟩ := and2 ok2
  have hok := List.all_eq_true.mp o1 e (List.mem_of_getElem? he)
  unfold okE at hok
  obtain ⟨k1, hok⟩ := and2 hok
  obtain ⟨k2, hok⟩ := and2 hok
  obtain ⟨k3, hok⟩ := and2 hok
  obtain ⟨k4, hok⟩ := and2 hok
  obtain ⟨k5, hok⟩ := and2 hok
  have k3 := of_decide_eq_true k3
  refine walk_ofW (CX := fun w => L2.CX l.prog w) (x := x) hn hn2 hdf hr (fun w mg fa h Y G hmg => ?_) fun w H s e s' z => ?_
  · obtain ⟨K, KX, c⟩ := hY w h Y
    have sf := sf_of ok (Tabs.inj ok) KX G c b
    have ea : t.at_ lf = e.dd.at_ := by unfold Tabs.at_; rw [he]
    have hlt : lf < t.ents.length := (List.getElem?_eq_some_iff.mp he).1
    have hgl : t.nm.gl lf = true := by
      show (decide (lf < t.ents.length) && (t.at_ lf).2.isNone) = true
      rw [ea, hat, decide_eq_true hlt]; rfl
    obtain ⟨m1, m2⟩ := sf.glo lf hgl
    have hnm : (Zof t (Tabs.inj ok) K).nm.fn lf = d.name := by
      show (t.at_ lf).1 = d.name
      rw [ea, hat]
    rw [hnm, hmg] at m1
    have efa : fa = (Zof t (Tabs.inj ok) K).ad.fa lf := by injection m1 with m1; injection m1
    obtain ⟨fd0, F0⟩ := c.def_ lf (d := e.dd) (by rw [List.getElem?_map, he]; rfl)
    have hT : t.T.fn lf = some e.d := by show (t.ents[lf]?).map (·.d) = _; rw [he]; rfl
    -- the law's def by its row
    have e4 : e.dd.dvs K = [] := by
      unfold He.DefD.dvs
      rw [List.isEmpty_iff.mp k4]; rfl
    have e5 : e.dd.kws K = [] := by
      unfold He.DefD.kws
      rw [List.isEmpty_iff.mp k5]; rfl
    rw [e4, e5] at F0
    have bA := FunD.bindsA F0 (b.at_ he)
    have hfa0 : He.fAd K e.dd.at_ = fa := by
      rw [efa]
      show _ = He.fAd K (t.at_ lf)
      rw [ea]
    refine ⟨K, fd0, spF (Zof t (Tabs.inj ok) K) (Ev.fns t.T k) e.d, KX, fun s u => ?_, fun H a ns hl _ hS => law_sp (Z := Zof t (Tabs.inj ok) K) (by rw [← k3, hps]; rfl) law H a ns hl hS, fun base KB GB => ?_⟩
    · have z := bA s [u] (by rw [hps]; rfl)
      rw [hps] at z
      exact z
    · have pf := prog_ok (P := l.prog) (w := w) (base := base) sf k
      have k7 : nilB (chkS t.nm e.N e.dd.scope e.d.body e.dd.body) = true := (and2 hok).2
      have FO := def_ok (f := lf) pf (Z := Zof t (Tabs.inj ok) K) (d := e.d) (by
        show FunD K _ _ _ _ _ _ _ (He.fAd K (t.at_ lf)) fd0
        rw [ea]; exact F0) (fnScope_ok k1) (of_decide_eq_true k2) k3 k7
      rw [← efa, hps] at FO
      exact FO
  · obtain ⟨a, B, H', cls, dx, _, _, _, _, _, _, _, z⟩ := z
    exact z
end Snd

set_option linter.all false
set_option maxRecDepth 100000
/-! Tools for the plain laws. -/
namespace Ev
section
variable (i j : Int) (b : Bool) (x y : List Nat) (xs ys : List D) (ρ : Env) (S : Sto) (r : Ret) (c : Nat) (fs : List (Nat × D)) (a d : D)
@[simp] theorem end_next : (O.next ρ S).end = .ok (.v .non) S := rfl
@[simp] theorem end_ret : (O.ret r S).end = .ok r S := rfl
@[simp] theorem end_exc : (O.exc c fs ρ S).end = .exc c fs S := rfl
@[simp] theorem made_next : (O.next ρ S).made c = match ρ.get 0 with | some (.o e fs) => if e = c then .ok (.obj c fs) S else .bad | _ => .bad := rfl
@[simp] theorem addV_i : addV (.int i) (.int j) = some (.int (i + j)) := rfl
@[simp] theorem subV_i : subV (.int i) (.int j) = some (.int (i - j)) := rfl
@[simp] theorem mulV_i : mulV (.int i) (.int j) = if mulOk i j then some (.int (i * j)) else none := rfl
@[simp] theorem fdivV_i : fdivV (.int i) (.int j) = if decide (0 < j) && decide (j.natAbs.log2 < 9000) then some (.int (i / j)) else none := rfl
@[simp] theorem modV_i : modV (.int i) (.int j) = if 0 < j then some (.int (i % j)) else none := rfl
@[simp] theorem powV_i : powV (.int i) (.int j) = if decide (0 ≤ j) && decide (j ≤ 1000000) && decide (i.natAbs < 2 ^ 64) then some (.int (i ^ j.toNat)) else none := rfl
@[simp] theorem augV_i : augV .add (.int i) (.int j) = some (.int (i + j)) := rfl
@[simp] theorem negV_i : negV (.int i) = some (.int (-i)) := rfl
@[simp] theorem notV_b : notV (.bl b) = some (.bl (!b)) := rfl
@[simp] theorem absV_i : absV (.int i) = some (.int (if i < 0 then -i else i)) := rfl
@[simp] theorem intV_i : intV (.int i) = some (.int i) := rfl
@[simp] theorem intV_b : intV (.bl b) = some (.int (if b then 1 else 0)) := rfl
@[simp] theorem maxV_i : maxV (.int i) (.int j) = some (.int (if j > i then j else i)) := rfl
@[simp] theorem minV_i : minV (.int i) (.int j) = some (.int (if j < i then j else i)) := rfl
@[simp] theorem truV_n : truV .non = some false := rfl
@[simp] theorem truV_b : truV (.bl b) = some b := rfl
@[simp] theorem truV_i : truV (.int i) = some (i != 0) := rfl
@[simp] theorem truV_t : truV (.tup xs) = some (!xs.isEmpty) := rfl
@[simp] theorem truV_l : truV (.lst xs) = some (!xs.isEmpty) := rfl
@[simp] theorem seqV_t : seqV (.tup xs) = some xs := rfl
@[simp] theorem seqV_l : seqV (.lst xs) = some xs := rfl
@[simp] theorem lenV_t : lenV (.tup xs) = some (.int xs.length) := rfl
@[simp] theorem lenV_l : lenV (.lst xs) = some (.int xs.length) := rfl
@[simp] theorem ltV_i : ltV (.int i) (.int j) = some (decide (i < j)) := rfl
@[simp] theorem leV_i : leV (.int i) (.int j) = some (decide (i ≤ j)) := rfl
@[simp] theorem intOf_i : intOf (.int i) = some i := rfl
@[simp] theorem isNon_n : isNon .non = true := rfl
@[simp] theorem isNon_i : isNon (.int i) = false := rfl
@[simp] theorem isNon_b : isNon (.bl b) = false := rfl
@[simp] theorem isNon_s : isNon (.str x) = false := rfl
@[simp] theorem isNon_t : isNon (.tup xs) = false := rfl
@[simp] theorem isNon_l : isNon (.lst xs) = false := rfl
@[simp] theorem isNon_o : isNon (.obj c fs) = false := rfl
@[simp] theorem idxV_t : idxV (.tup xs) (.int i) = atI xs i := rfl
@[simp] theorem idxV_l : idxV (.lst xs) (.int i) = atI xs i := rfl
@[simp] theorem eqV_i : eqV (.int i) (.int j) = some (i == j) := rfl
@[simp] theorem eqV_b (b' : Bool) : eqV (.bl b) (.bl b') = some (b == b') := rfl
@[simp] theorem eqV_s : eqV (.str x) (.str y) = some (decide (x = y)) := rfl
@[simp] theorem ty_ll : tyIs .list (.lst xs) = some true := rfl
@[simp] theorem ty_tt : tyIs .tuple (.tup xs) = some true := rfl
@[simp] theorem ty_ii : tyIs .int (.int i) = some true := rfl
@[simp] theorem ty_bb : tyIs .bool (.bl b) = some true := rfl
end
theorem mulOk_r {i j : Int} (h1 : -(2 ^ 64) < j) (h2 : j < 2 ^ 64) : mulOk i j = true := by
  unfold mulOk
  rw [decide_eq_true (p := -(2 ^ 64) < j ∧ j < 2 ^ 64) ⟨h1, h2⟩]; simp
theorem mulOk_l {i j : Int} (h1 : -(2 ^ 64) < i) (h2 : i < 2 ^ 64) : mulOk i j = true := by
  unfold mulOk
  rw [decide_eq_true (p := -(2 ^ 64) < i ∧ i < 2 ^ 64) ⟨h1, h2⟩]; simp
theorem atI_ofNat {α : Type} (xs : List α) (k : Nat) (h : k < xs.length) : atI xs (k : Int) = some xs[k] := by
  unfold atI ixN
  rw [if_pos (Int.natCast_nonneg k), if_pos (by omega)]
  simp [h]
@[simp] theorem atI_0 (a : D) (xs : List D) : atI (a :: xs) 0 = some a := atI_ofNat (a :: xs) 0 (by simp)
@[simp] theorem atI_1 (a b : D) (xs : List D) : atI (a :: b :: xs) 1 = some b := atI_ofNat (a :: b :: xs) 1 (by simp)
def rowC : Ev.S := (.seq (.ite (.cmp .lt (.e (.var 2)) (.e (.bin .pow (.int 10) (.int 9)))) (.seq (.asg (.nm 2) (.bin .mod (.toInt (.bin .add (.bin .mul (.bin .add (.var 2) (.int 1)) (.int 48271)) (.bin .mul (.bin .add (.var 1) (.int 1)) (.int 69621)))) (.int 2147483647)))
    (.asg (.nm 2) (.bin .add (.bin .mul (.bin .mod (.toInt (.bin .add (.bin .add (.bin .mul (.var 2) (.int 16807)) (.bin .mul (.var 1) (.int 40014))) (.int 11))) (.int 2147483399)) (.int 2147483029)) (.bin .mod (.toInt (.bin .mul (.var 2) (.var 2))) (.int 2147482951))))) (.clr []))
    (.ret (.var 2)))
def rowB : Ev.S := (.seq (.ite (.cmp .lt (.e (.var 2)) (.e (.int 0))) (.asg (.nm 2) (.bin .sub (.int 1) (.bin .mul (.int 2) (.var 2)))) (.clr [])) rowC)
def RowD : Def := ⟨2, 3, [], (.seq (.asg (.nm 2) (.int 0))
    (.seq (.ite (.cmp .lt (.e (.var 1)) (.e (.len (.e (.var 0))))) (.asg (.nm 2) (.toInt (.idx (.e (.var 0)) (.var 1)))) (.clr [])) rowB))⟩
theorem row_fin (F : Fns) (S : Sto) (l : D) (k : Nat) (r1 : Int) (h1 : 0 ≤ r1) : ∃ r : Int, 0 ≤ r ∧ (evS F rowC [some (.v l), some (.v (.int k)), some (.v (.int r1))] S).end = .ok (.v (.int r)) S := by
  have m1 : ∀ x : Int, mulOk x 48271 = true := fun x => mulOk_r (by decide) (by decide)
  have m2 : ∀ x : Int, mulOk x 69621 = true := fun x => mulOk_r (by decide) (by decide)
  have m3 : ∀ x : Int, mulOk x 16807 = true := fun x => mulOk_r (by decide) (by decide)
  have m4 : ∀ x : Int, mulOk x 40014 = true := fun x => mulOk_r (by decide) (by decide)
  have m5 : ∀ x : Int, mulOk x 2147483029 = true := fun x => mulOk_r (by decide) (by decide)
  have m7 : ∀ x : Int, mulOk (x % 2147483647) (x % 2147483647) = true := fun x => mulOk_l (by omega) (by omega)
  by_cases c : r1 < 1000000000
  · obtain ⟨q, hq⟩ : ∃ q : Int, q = ((r1 + 1) * 48271 + ((k : Int) + 1) * 69621) % 2147483647 := ⟨_, rfl⟩
    have m8 : mulOk q q = true := by rw [hq]; exact m7 _
    refine ⟨(q * 16807 + (k : Int) * 40014 + 11) % 2147483399 * 2147483029 + q * q % 2147482951, Int.add_nonneg (Int.mul_nonneg (Int.emod_nonneg _ (by decide)) (by decide)) (Int.emod_nonneg _ (by decide)), ?_⟩
    simp -implicitDefEqProofs [evE, evB, evEs, evOe, evT, evL, evIt, evOt, evS, binV, cmpV, setTg, fill, itOk, rowC, c, m1, m2, m3, m4, m5, m8, ← hq]
  · exact ⟨r1, h1, by simp -implicitDefEqProofs [evE, evB, evEs, evOe, evT, evL, evIt, evOt, evS, binV, cmpV, setTg, fill, itOk, rowC, c]⟩
theorem row_key (F : Fns) (S : Sto) (l : D) (k : Nat) (r0 : Int) : ∃ r : Int, 0 ≤ r ∧ (evS F rowB [some (.v l), some (.v (.int k)), some (.v (.int r0))] S).end = .ok (.v (.int r)) S := by
  have m6 : ∀ x : Int, mulOk 2 x = true := fun x => mulOk_l (by decide) (by decide)
  by_cases c : r0 < 0
  · obtain ⟨r, h1, h2⟩ := row_fin F S l k (1 - 2 * r0) (by omega)
    refine ⟨r, h1, ?_⟩
    rw [← h2]
    simp -implicitDefEqProofs [evE, evB, evEs, evOe, evT, evL, evIt, evOt, evS, binV, cmpV, setTg, fill, itOk, rowB, c, m6]
  · obtain ⟨r, h1, h2⟩ := row_fin F S l k r0 (by omega)
    refine ⟨r, h1, ?_⟩
    rw [← h2]
    simp -implicitDefEqProofs [evE, evB, evEs, evOe, evT, evL, evIt, evOt, evS, binV, cmpV, setTg, fill, itOk, rowB, c]
/-- the row drawn of the script: some number, not below 0 -/
theorem row_ok (F : Fns) (ns : List Int) (k : Nat) (S : Sto) : ∃ r : Int, 0 ≤ r ∧ callD F RowD [.lst (ns.map .int), .int k] S = .ok (.v (.int r)) S := by
  by_cases c : k < ns.length
  · obtain ⟨r, h1, h2⟩ := row_key F S (.lst (ns.map .int)) k ns[k]
    refine ⟨r, h1, ?_⟩
    rw [← h2]
    have e : atI (ns.map D.int) (k : Int) = some (.int ns[k]) := by
      rw [atI_ofNat _ _ (by simpa using c)]; simp
    simp -implicitDefEqProofs [evE, evB, evEs, evOe, evT, evL, evIt, evOt, evS, binV, cmpV, setTg, fill, itOk, callD, RowD, envOf, c, idxV, e]
  · obtain ⟨r, h1, h2⟩ := row_key F S (.lst (ns.map .int)) k 0
    refine ⟨r, h1, ?_⟩
    rw [← h2]
    simp -implicitDefEqProofs [evE, evB, evEs, evOe, evT, evL, evIt, evOt, evS, binV, cmpV, setTg, fill, itOk, callD, RowD, envOf, c]
@[simp] theorem log_ok (n : Nat) (h : n < 18446744073709551616) : n.log2 < 9000 := by
  by_cases z : n = 0
  · subst z; decide
  · have : n.log2 < 64 := (Nat.log2_lt z).mpr h
    omega
@[simp] theorem ln0 : (0 : Nat) < line := by decide
@[simp] theorem ln1 : (1 : Nat) ≤ line := by decide
@[simp] theorem ln2 : (2 : Nat) ≤ line := by decide
@[simp] theorem ln3 : (3 : Nat) ≤ line := by decide
@[simp] theorem ln4 : (4 : Nat) ≤ line := by decide
@[simp] theorem ln5 : (5 : Nat) ≤ line := by decide
@[simp] theorem ln6 : (6 : Nat) ≤ line := by decide
@[simp] theorem ln7 : (7 : Nat) ≤ line := by decide
@[simp] theorem ln8 : (8 : Nat) ≤ line := by decide
/-- a turn's body -/
@[simp] def lb (F : Fns) (tg : Tg) (b : Ev.S) (x : D) (ρ : Env) (S : Sto) : O := match setTg ρ tg x with | some ρ => evS F b ρ S | none => .bad
theorem loop_of {F : Fns} {tg : Tg} {it : It} {b : Ev.S} {cl : List Nat} {ρ : Env} {S S1 : Sto} {xs : List D} (h : evIt F it ρ S = .ok xs S1) (hit : itOk it = true := by rfl) :
    evS F (.loop tg it b cl) ρ S = forL (lb F tg b) cl xs ρ S1 := by
  simp only [evS, hit, if_true, h, R.st_ok]
  rfl
theorem call_of {T : Tbl} {k f : Nat} {d : Def} {xs : List D} {S : Sto} (h : T.fn f = some d) (hl : xs.length = d.np) (hd : d.dfl = []) : (fns T (k + 1)).call f xs S = callD (fns T k) d xs S := by
  have e : argsOf d xs = some xs := by
    unfold argsOf
    rw [if_pos ⟨by omega, by omega⟩, hd]
    simp
  show (match T.fn f with | some d => (match argsOf d xs with | some ys => callD (fns T k) d ys S | none => .bad) | none => .bad) = _
  rw [h]
  simp only [e]
theorem filterMap_if {α : Type} (c : α → Bool) (xs : List α) : xs.filterMap (fun p => if c p = true then some p else none) = xs.filter c := by
  induction xs with
  | nil => rfl
  | cons x xs ih =>
    rw [List.filterMap_cons, List.filter_cons, ih]
    cases c x <;> rfl
/-! ### loops -/
@[simp] theorem forL_nil (body : D → Env → Sto → O) (cl : List Nat) (ρ : Env) (S : Sto) : forL body cl [] ρ S = .next ρ S := rfl
theorem forL_cons' (body : D → Env → Sto → O) (cl : List Nat) (x : D) (xs : List D) (ρ : Env) (S : Sto) : forL body cl (x :: xs) ρ S = (body x ρ S).turn cl fun ρ S => forL body cl xs ρ S := rfl
theorem forL_fold {α β : Type} {body : D → Env → Sto → O} {cl : List Nat} {S : Sto} (env : α → Env) (dat : β → D) (f : α → β → α) (P : α → List β → Prop)
    (h : ∀ a x xs (K : Env → Sto → O), P a (x :: xs) → P (f a x) xs ∧ (body (dat x) (env a) S).turn cl K = K (env (f a x)) S) : ∀ (xs : List β) (a : α), P a xs → forL body cl (xs.map dat) (env a) S = .next (env (xs.foldl f a)) S
  | [], a, _ => rfl
  | x :: xs, a, p => by
    obtain ⟨p2, e⟩ := h a x xs (fun ρ S => forL body cl (xs.map dat) ρ S) p
    rw [List.map_cons, forL_cons', e]
    exact forL_fold env dat f P h xs _ p2
theorem forL_same {β : Type} {body : D → Env → Sto → O} {cl : List Nat} {S : Sto} {ρ : Env} (dat : β → D) : ∀ (xs : List β), (∀ x ∈ xs, ∀ K : Env → Sto → O, (body (dat x) ρ S).turn cl K = K ρ S) → forL body cl (xs.map dat) ρ S = .next ρ S
  | [], _ => rfl
  | x :: xs, h => by
    rw [List.map_cons, forL_cons', h x List.mem_cons_self]
    exact forL_same dat xs fun y hy => h y (List.mem_cons_of_mem _ hy)
theorem forL_any {β : Type} {body : D → Env → Sto → O} {cl : List Nat} {S : Sto} {ρ : Env} (dat : β → D) (p : β → Bool) (r : Ret) : ∀ (xs : List β), (∀ x ∈ xs, ∀ K : Env → Sto → O, (body (dat x) ρ S).turn cl K = if p x then .ret r S else K ρ S) →
    forL body cl (xs.map dat) ρ S = if xs.any p then .ret r S else .next ρ S
  | [], _ => rfl
  | x :: xs, h => by
    rw [List.map_cons, forL_cons', List.any_cons, h x List.mem_cons_self]
    cases c : p x with
    | true => rfl
    | false =>
      rw [Bool.false_or]
      exact forL_any dat p r xs fun y hy => h y (List.mem_cons_of_mem _ hy)
theorem compL_map {β γ : Type} {f : D → Sto → R (Option D)} {S : Sto} (dat : β → D) (out : γ → D) (g : β → Option γ) : ∀ (xs : List β) (acc : List D), (∀ x ∈ xs, f (dat x) S = .ok ((g x).map out) S) → acc.length + xs.length ≤ line → compL f (xs.map dat) acc S = .ok (acc ++ (xs.filterMap g).map out) S
  | [], acc, _, _ => by rw [List.map_nil, List.filterMap_nil, List.map_nil, List.append_nil]; rfl
  | x :: xs, acc, h, hl => by
    have hx := h x List.mem_cons_self
    have ht := fun y hy => h y (List.mem_cons_of_mem x hy)
    rw [List.length_cons] at hl
    have e : compL f ((x :: xs).map dat) acc S = match f (dat x) S with
      | .ok none S1 => compL f (xs.map dat) acc S1
      | .ok (some y) S1 => if acc.length < line then compL f (xs.map dat) (acc ++ [y]) S1 else .bad
      | _ => .bad := rfl
    rw [e, hx]
    cases c : g x with
    | none =>
      rw [List.filterMap_cons, c]
      exact compL_map dat out g xs acc ht (by omega)
    | some y =>
      rw [List.filterMap_cons, c]
      show (if acc.length < line then compL f (xs.map dat) (acc ++ [out y]) S else .bad) = _
      rw [if_pos (by omega), compL_map dat out g xs (acc ++ [out y]) ht (by rw [List.length_append]; simp; omega)]
      simp
theorem rangeL_map (lo : Int) (n : Nat) : rangeL lo n = ((List.range n).map fun k : Nat => lo + (k : Int)).map D.int := by
  unfold rangeL
  rw [List.map_map]; rfl
theorem small_of {i : Int} (h1 : -(2 ^ 62) ≤ i) (h2 : i < 2 ^ 62) : small i = true := by
  unfold small
  rw [decide_eq_true h1, decide_eq_true h2]; rfl
theorem atI_last (xs : List D) (d : D) : atI (xs ++ [d]) (-1) = some d := by
  have e : ixN (xs ++ [d]).length (-1) = some xs.length := by
    unfold ixN
    rw [List.length_append, List.length_singleton, if_neg (by decide), if_pos (by omega)]
    congr 1
    omega
  unfold atI
  rw [e]
  simp
theorem ixN_last (n : Nat) : ixN (n + 1) (-1) = some n := by
  unfold ixN
  rw [if_neg (by decide), if_pos (by omega)]
  congr 1
  omega
/-! ### pairs -/
theorem pairsOf_map : ∀ xs : List (Int × Int), pairsOf (xs.map pairD) = some xs
  | [] => rfl
  | x :: xs => by
    rw [List.map_cons]
    unfold pairsOf
    rw [pairsOf_map xs]
    rfl
theorem sortedV_pairs (xs : List (Int × Int)) : sortedV (.lst (xs.map pairD)) = some ((sortBy ltPair xs).map pairD) := by
  cases xs with
  | nil => rfl
  | cons x xs =>
    have e : intsOf ((x :: xs).map pairD) = none := rfl
    unfold sortedV
    simp only [e, pairsOf_map]
end Ev
namespace Ev
/-! ### == of lists -/
theorem shpL_pairs (n : Nat) : ∀ xs : List (Int × Int), shpL (xs.map pairD) (n + 1) = true
  | [] => rfl
  | x :: xs => by
    show (shp (pairD x) (n + 1) && shpL (xs.map pairD) (n + 1)) = true
    rw [shpL_pairs n xs]; rfl
theorem shpL_ints (n : Nat) : ∀ xs : List Int, shpL (xs.map D.int) n = true
  | [] => rfl
  | x :: xs => by
    show (shp (.int x) n && shpL (xs.map D.int) n) = true
    rw [shpL_ints n xs]; rfl
theorem eqL_pairs : ∀ xs ys : List (Int × Int), eqL (xs.map pairD) (ys.map pairD) = decide (xs = ys)
  | [], [] => rfl
  | [], _ :: _ => rfl
  | _ :: _, [] => rfl
  | x :: xs, y :: ys => by
    show (eqD (pairD x) (pairD y) && eqL (xs.map pairD) (ys.map pairD)) = _
    rw [eqL_pairs xs ys]
    have e : eqD (pairD x) (pairD y) = ((x.1 == y.1) && ((x.2 == y.2) && true)) := rfl
    rw [e, Bool.eq_iff_iff]
    simp [Prod.ext_iff]
theorem eqL_ints : ∀ xs ys : List Int, eqL (xs.map D.int) (ys.map D.int) = decide (xs = ys)
  | [], [] => rfl
  | [], _ :: _ => rfl
  | _ :: _, [] => rfl
  | x :: xs, y :: ys => by
    show (eqD (.int x) (.int y) && eqL (xs.map D.int) (ys.map D.int)) = _
    rw [eqL_ints xs ys]
    have e : eqD (.int x) (.int y) = (x == y) := rfl
    rw [e, Bool.eq_iff_iff]
    simp
theorem eqV_lp (xs ys : List (Int × Int)) : eqV (.lst (xs.map pairD)) (.lst (ys.map pairD)) = some (decide (xs = ys)) := by
  have e : eqV (.lst (xs.map pairD)) (.lst (ys.map pairD)) = if (shpL (xs.map pairD) 59 && shpL (ys.map pairD) 59) = true then some (eqL (xs.map pairD) (ys.map pairD)) else none := rfl
  rw [e, shpL_pairs, shpL_pairs, eqL_pairs]; rfl
theorem eqV_li (xs ys : List Int) : eqV (.lst (xs.map D.int)) (.lst (ys.map D.int)) = some (decide (xs = ys)) := by
  have e : eqV (.lst (xs.map D.int)) (.lst (ys.map D.int)) = if (shpL (xs.map D.int) 59 && shpL (ys.map D.int) 59) = true then some (eqL (xs.map D.int) (ys.map D.int)) else none := rfl
  rw [e, shpL_ints, shpL_ints, eqL_ints]; rfl
theorem eqV_lin (xs : List Int) : eqV (.lst (xs.map D.int)) (.lst []) = some xs.isEmpty := by
  have := eqV_li xs []
  rw [List.map_nil] at this
  rw [this]
  cases xs <;> rfl
end Ev

set_option linter.all false
set_option maxRecDepth 100000
/-! Spans: joined and common. -/
namespace Sp
abbrev Pr := Int × Int
def within (xs : List Pr) (t : Int) : Bool := xs.any fun p => decide (p.1 ≤ t) && decide (t ≤ p.2)
def step (acc : List Pr) (p : Pr) : List Pr := match acc.getLast? with
  | some q => if p.1 ≤ q.2 + 1 then acc.dropLast ++ [(q.1, if q.2 > p.2 then q.2 else p.2)] else acc ++ [p]
  | none => [p]
def joined (xs : List Pr) : List Pr := (Ev.sortBy Ev.ltPair (xs.filter fun p => decide (p.1 ≤ p.2))).foldl step []
def proper (xs : List Pr) : Prop := (∀ p ∈ xs, p.1 ≤ p.2) ∧ xs.Pairwise fun p q => p.2 + 1 < q.1
theorem within_append (xs ys : List Pr) (t : Int) : within (xs ++ ys) t = (within xs t || within ys t) := by
  unfold within
  rw [List.any_append]
theorem within_one (p : Pr) (t : Int) : within [p] t = (decide (p.1 ≤ t) && decide (t ≤ p.2)) := by
  unfold within
  simp
theorem within_iff {xs : List Pr} {t : Int} : within xs t = true ↔ ∃ p ∈ xs, p.1 ≤ t ∧ t ≤ p.2 := by
  unfold within
  simp [List.any_eq_true]
theorem within_perm {xs ys : List Pr} (h : xs.Perm ys) (t : Int) : within xs t = within ys t := by
  rw [Bool.eq_iff_iff, within_iff, within_iff]
  exact ⟨fun ⟨p, a, b⟩ => ⟨p, h.mem_iff.mp a, b⟩, fun ⟨p, a, b⟩ => ⟨p, h.mem_iff.mpr a, b⟩⟩
theorem within_filter (xs : List Pr) (t : Int) : within (xs.filter fun p => decide (p.1 ≤ p.2)) t = within xs t := by
  rw [Bool.eq_iff_iff, within_iff, within_iff]
  refine ⟨fun ⟨p, a, b⟩ => ⟨p, (List.mem_filter.mp a).1, b⟩, fun ⟨p, a, b⟩ => ⟨p, List.mem_filter.mpr ⟨a, ?_⟩, b⟩⟩
  exact decide_eq_true (Int.le_trans b.1 b.2)
theorem cases_last (xs : List Pr) : xs = [] ∨ ∃ i q, xs = i ++ [q] := by
  rcases List.eq_nil_or_concat xs with h | ⟨i, q, h⟩
  · exact .inl h
  · exact .inr ⟨i, q, by rw [h]; simp⟩
theorem step_last (i : List Pr) (q p : Pr) : step (i ++ [q]) p = if p.1 ≤ q.2 + 1 then i ++ [(q.1, if q.2 > p.2 then q.2 else p.2)] else i ++ [q] ++ [p] := by
  unfold step
  rw [List.getLast?_append]
  simp
/-- what a turn keeps -/
theorem step_ok {acc : List Pr} {p : Pr} (h : proper acc) (hp : p.1 ≤ p.2) (hl : ∀ q ∈ acc, q.1 ≤ p.1) : proper (step acc p) ∧ (∀ t, within (step acc p) t = (within acc t || (decide (p.1 ≤ t) && decide (t ≤ p.2)))) ∧ ∀ q ∈ step acc p, q.1 ≤ p.1 := by
  rcases cases_last acc with rfl | ⟨i, q, rfl⟩
  · refine ⟨⟨fun x hx => ?_, List.pairwise_singleton _ _⟩, fun t => ?_, fun x hx => ?_⟩
    · rcases List.mem_singleton.mp hx with rfl; exact hp
    · rw [show step [] p = [p] from rfl, within_one]; rfl
    · rcases List.mem_singleton.mp hx with rfl; exact Int.le_refl _
  · obtain ⟨h1, h2⟩ := h
    rw [List.pairwise_append] at h2
    obtain ⟨h2, _, h3⟩ := h2
    have hq := h1 q (by simp)
    have hqp := hl q (by simp)
    rw [step_last]
    by_cases c : p.1 ≤ q.2 + 1
    · rw [if_pos c]
      refine ⟨⟨fun x hx => ?_, ?_⟩, fun t => ?_, fun x hx => ?_⟩
      · rcases List.mem_append.mp hx with hx | hx
        · exact h1 x (by simp [hx])
        · rcases List.mem_singleton.mp hx with rfl
          show q.1 ≤ if q.2 > p.2 then q.2 else p.2
          split <;> omega
      · rw [List.pairwise_append]
        refine ⟨h2, List.pairwise_singleton _ _, fun a ha b hb => ?_⟩
        rcases List.mem_singleton.mp hb with rfl
        exact h3 a ha q (by simp)
      · rw [within_append, within_append, within_one, within_one, Bool.or_assoc]
        congr 1
        rw [Bool.eq_iff_iff]
        simp only [Bool.or_eq_true, Bool.and_eq_true, decide_eq_true_eq]
        split <;> omega
      · rcases List.mem_append.mp hx with hx | hx
        · exact hl x (by simp [hx])
        · rcases List.mem_singleton.mp hx with rfl
          exact hqp
    · rw [if_neg c]
      refine ⟨⟨fun x hx => ?_, ?_⟩, fun t => ?_, fun x hx => ?_⟩
      · rcases List.mem_append.mp hx with hx | hx
        · exact h1 x hx
        · rcases List.mem_singleton.mp hx with rfl; exact hp
      · rw [List.pairwise_append]
        refine ⟨List.pairwise_append.mpr ⟨h2, List.pairwise_singleton _ _, h3⟩, List.pairwise_singleton _ _, fun a ha b hb => ?_⟩
        rcases List.mem_singleton.mp hb with rfl
        rcases List.mem_append.mp ha with ha | ha
        · have := h3 a ha q (by simp)
          have := h1 a (by simp [ha])
          omega
        · rcases List.mem_singleton.mp ha with rfl; omega
      · rw [within_append _ [p], within_one]
      · rcases List.mem_append.mp hx with hx | hx
        · exact hl x hx
        · rcases List.mem_singleton.mp hx with rfl; exact Int.le_refl _
theorem fold_ok : ∀ (xs acc : List Pr), proper acc → (∀ p ∈ xs, p.1 ≤ p.2) → xs.Pairwise (fun p q => p.1 ≤ q.1) → (∀ q ∈ acc, ∀ p ∈ xs, q.1 ≤ p.1) → proper (xs.foldl step acc) ∧ ∀ t, within (xs.foldl step acc) t = (within acc t || within xs t)
  | [], acc, h, _, _, _ => ⟨h, fun t => by simp [within]⟩
  | p :: xs, acc, h, h1, h2, h3 => by
    rw [List.pairwise_cons] at h2
    obtain ⟨a, b, c⟩ := step_ok h (h1 p (by simp)) (fun q hq => h3 q hq p (by simp))
    obtain ⟨d, e⟩ := fold_ok xs (step acc p) a (fun q hq => h1 q (by simp [hq])) h2.2 (fun q hq r hr => Int.le_trans (c q hq) (h2.1 r hr))
    refine ⟨d, fun t => ?_⟩
    show within (List.foldl step (step acc p) xs) t = _
    rw [e, b, Bool.or_assoc]
    rfl
theorem sorted_fst (xs : List Pr) : (Ev.sortBy Ev.ltPair xs).Pairwise fun p q => p.1 ≤ q.1 := by
  have h := Snd.sortBy_sorted (lt := Ev.ltPair) (fun x y h => ?_) (fun x y z h1 h2 => ?_) xs
  · refine h.imp fun {a b} hab => ?_
    unfold Ev.ltPair at hab
    simp at hab
    omega
  · unfold Ev.ltPair at h ⊢
    simp at h ⊢
    omega
  · unfold Ev.ltPair at h1 h2 ⊢
    simp at h1 h2 ⊢
    omega
theorem joined_ok (xs : List Pr) : proper (joined xs) ∧ ∀ t, within (joined xs) t = within xs t := by
  have hm := Snd.sortBy_perm Ev.ltPair (xs.filter fun p => decide (p.1 ≤ p.2))
  obtain ⟨a, b⟩ := fold_ok (Ev.sortBy Ev.ltPair (xs.filter fun p => decide (p.1 ≤ p.2))) [] ⟨fun _ h => by simp at h, List.Pairwise.nil⟩ (fun p hp => by
    have := (List.mem_filter.mp (hm.mem_iff.mp hp)).2
    exact of_decide_eq_true this) (sorted_fst _) (fun _ h => by simp at h)
  refine ⟨a, fun t => ?_⟩
  show within (joined xs) t = _
  unfold joined
  rw [b, within_perm hm, within_filter]
  simp [within]
end Sp
namespace Sp
def ticks (b e : Int) : List Int := (List.range (e + 1 - b).toNat).map fun k : Nat => b + (k : Int)
theorem mem_ticks {b e t : Int} : t ∈ ticks b e ↔ b ≤ t ∧ t ≤ e := by
  unfold ticks
  rw [List.mem_map]
  refine ⟨fun ⟨k, h1, h2⟩ => ?_, fun ⟨h1, h2⟩ => ⟨(t - b).toNat, ?_, ?_⟩⟩
  · have := List.mem_range.mp h1
    omega
  · rw [List.mem_range]; omega
  · omega
theorem len_ticks (b e : Int) : (ticks b e).length = (e + 1 - b).toNat := by
  unfold ticks
  rw [List.length_map, List.length_range]
theorem filter_len {α : Type} (c : α → Bool) : ∀ xs : List α, (xs.filter c).length = xs.length ↔ ∀ x ∈ xs, c x = true
  | [] => by simp
  | x :: xs => by
    rw [List.filter_cons]
    have hle := List.length_filter_le c xs
    cases h : c x with
    | true =>
      rw [if_pos rfl, List.length_cons, List.length_cons, Nat.succ_inj, filter_len c xs]
      simp [h]
    | false =>
      rw [if_neg (by decide)]
      constructor
      · intro e; rw [List.length_cons] at e; omega
      · intro e
        have := e x List.mem_cons_self
        rw [h] at this; cases this
theorem covers_all {xs : List Pr} (hp : proper xs) {b e : Int} (h : b ≤ e) : (∃ p ∈ xs, p.1 ≤ b ∧ e ≤ p.2) ↔ ∀ t, b ≤ t → t ≤ e → within xs t = true := by
  constructor
  · rintro ⟨p, hm, h1, h2⟩ t h3 h4
    exact within_iff.mpr ⟨p, hm, by omega, by omega⟩
  · intro ha
    obtain ⟨p, hm, h1, h2⟩ := within_iff.mp (ha b (Int.le_refl _) h)
    by_cases c : e ≤ p.2
    · exact ⟨p, hm, h1, c⟩
    · exfalso
      obtain ⟨q, hq, h3, h4⟩ := within_iff.mp (ha (p.2 + 1) (by omega) (by omega))
      obtain ⟨i, hi, rfl⟩ := List.getElem_of_mem hm
      obtain ⟨j, hj, rfl⟩ := List.getElem_of_mem hq
      have pw := List.pairwise_iff_getElem.mp hp.2
      rcases Nat.lt_trichotomy i j with l | l | l
      · have := pw i j hi hj l
        omega
      · subst l; omega
      · have := pw j i hj hi l
        omega
theorem cover_len (xs : List Pr) {b e : Int} (h : b ≤ e) : ((joined xs).any fun p => decide (p.1 ≤ b) && decide (e ≤ p.2)) = decide ((((ticks b e).filter fun t => within xs t).length : Int) = e - b + 1) := by
  obtain ⟨hp, hw⟩ := joined_ok xs
  rw [Bool.eq_iff_iff, List.any_eq_true, decide_eq_true_eq]
  have e1 : ((((ticks b e).filter fun t => within xs t).length : Int) = e - b + 1) ↔ ((ticks b e).filter fun t => within xs t).length = (ticks b e).length := by
    rw [len_ticks]; omega
  rw [e1, filter_len]
  have e2 := covers_all hp h
  constructor
  · rintro ⟨p, h1, h2⟩ t ht
    simp only [Bool.and_eq_true, decide_eq_true_eq] at h2
    obtain ⟨h3, h4⟩ := mem_ticks.mp ht
    rw [← hw]
    exact e2.mp ⟨p, h1, h2⟩ t h3 h4
  · intro ha
    obtain ⟨p, h1, h2⟩ := e2.mpr fun t h3 h4 => by rw [hw]; exact ha t (mem_ticks.mpr ⟨h3, h4⟩)
    exact ⟨p, h1, by simp only [Bool.and_eq_true, decide_eq_true_eq]; exact h2⟩
theorem touch_ne (xs : List Pr) {b e : Int} : (xs.any fun p => decide ((if b > p.1 then b else p.1) ≤ (if e < p.2 then e else p.2))) = !((ticks b e).filter fun t => within xs t).isEmpty ∨ e < b := by
  by_cases hbe : e < b
  · exact .inr hbe
  · refine .inl ?_
    rw [Bool.eq_iff_iff, List.any_eq_true, Bool.not_eq_true', List.isEmpty_eq_false_iff_exists_mem]
    constructor
    · rintro ⟨p, h1, h2⟩
      have h2 := of_decide_eq_true h2
      refine ⟨if b > p.1 then b else p.1, List.mem_filter.mpr ⟨mem_ticks.mpr ?_, within_iff.mpr ⟨p, h1, ?_⟩⟩⟩
      · split at h2 <;> split at h2 <;> (split <;> omega)
      · split at h2 <;> split at h2 <;> (split <;> omega)
    · rintro ⟨t, ht⟩
      obtain ⟨h1, h2⟩ := List.mem_filter.mp ht
      obtain ⟨h3, h4⟩ := mem_ticks.mp h1
      obtain ⟨p, h5, h6, h7⟩ := within_iff.mp h2
      refine ⟨p, h5, decide_eq_true ?_⟩
      split <;> split <;> omega
end Sp

set_option linter.all false
set_option maxRecDepth 100000
/-! Spans: what the defs compute. -/
namespace SpE
open Ev Sp
def c_joined_1 : Ev.L := .comp (.nm 2) (.seq (.e (.var 0))) (.yes (.cmp .le (.e (.idx (.e (.var 2)) (.int 0))) (.e (.idx (.e (.var 2)) (.int 1))))) (.var 2) [2]
def l_joined_2 : Ev.S := .loop (.tp [3, 4]) (.seq (.e (.frz (.sorted (.e (.frz c_joined_1)))))) (.ite (.and (.tru (.b 1)) (.cmp .le (.e (.var 3)) (.e (.bin .add (.idx (.e (.idx (.b 1) (.neg (.int 1)))) (.int 1)) (.int 1))))) (.setL 1 (.neg (.int 1)) (.tup (.cons (.idx (.e (.idx (.b 1) (.neg (.int 1)))) (.int 0)) (.cons (.max2 (.var 4) (.idx (.e (.idx (.b 1) (.neg (.int 1)))) (.int 1))) .nil)))) (.app 1 (.tup (.cons (.var 3) (.cons (.var 4) .nil))))) [3, 4]
def d_joined : Ev.Def := ⟨1, 5, [], (.seq (.asgL 1 (.disp .nil))
    (.seq l_joined_2
    (.retl 1)))⟩
def l_common_1 : Ev.S := .loop (.tp [5, 6]) (.seq (.e (.var 1))) (.seq (.asg (.nm 7) (.max2 (.var 3) (.var 5)))
    (.seq (.asg (.nm 8) (.min2 (.var 4) (.var 6)))
    (.ite (.cmp .le (.e (.var 7)) (.e (.var 8))) (.app 2 (.tup (.cons (.var 7) (.cons (.var 8) .nil)))) (.clr [])))) [5, 6, 7, 8]
def l_common_2 : Ev.S := .loop (.tp [3, 4]) (.seq (.e (.var 0))) l_common_1 [3, 4]
def d_common : Ev.Def := ⟨2, 9, [], (.seq (.asgL 2 (.disp .nil))
    (.seq l_common_2
    (.retl 2)))⟩
def l__law_within_1 : Ev.S := .loop (.tp [2, 3]) (.seq (.e (.var 0))) (.ite (.chain .le .le (.var 2) (.var 1) (.var 3)) (.ret (.bl true)) (.clr [])) [2, 3]
def d__law_within : Ev.Def := ⟨2, 4, [], (.seq l__law_within_1
    (.ret (.bl false)))⟩
section
variable (F : Fns)
theorem ev_c (xs : List Pr) (S : Sto) (a b c d : Option Sl) (hl : xs.length ≤ line) : evL F c_joined_1 [some (.v (.lst (xs.map pairD))), a, b, c, d] S = .ok ((xs.filter fun p => decide (p.1 ≤ p.2)).map pairD) S := by
  unfold c_joined_1
  simp -implicitDefEqProofs [evE, evB, evEs, evOe, evT, evL, evIt, evOt, evS, binV, cmpV, setTg, fill, itOk]
  rw [compL_map pairD pairD (fun p => if decide (p.1 ≤ p.2) = true then some p else none) xs [] (fun x _ => ?_) (by simpa using hl), filterMap_if]
  · simp
  · by_cases c : x.1 ≤ x.2
    · simp -implicitDefEqProofs [evE, evB, evEs, evOe, evT, evL, evIt, evOt, evS, binV, cmpV, setTg, fill, itOk, pairD, c]
    · simp -implicitDefEqProofs [evE, evB, evEs, evOe, evT, evL, evIt, evOt, evS, binV, cmpV, setTg, fill, itOk, pairD, c]
theorem ev_joined (xs : List Pr) (S : Sto) (hl : xs.length < line) : callD F d_joined [.lst (xs.map pairD)] S = .ok (.l ((joined xs).map pairD)) S := by
  have hlen : (sortBy ltPair (xs.filter fun p => decide (p.1 ≤ p.2))).length ≤ xs.length := by
    rw [(Snd.sortBy_perm ltPair _).length_eq]
    exact List.length_filter_le ..
  have loop : evS F l_joined_2 [some (.v (.lst (xs.map pairD))), some (.l []), none, none, none] S = .next [some (.v (.lst (xs.map pairD))), some (.l ((joined xs).map pairD)), none, none, none] S := by
    unfold l_joined_2
    rw [loop_of (S1 := S) (xs := (sortBy ltPair (xs.filter fun p => decide (p.1 ≤ p.2))).map pairD) (by simp -implicitDefEqProofs [evE, evB, evEs, evOe, evT, evL, evIt, evOt, evS, binV, cmpV, setTg, fill, itOk, ev_c F xs S _ _ _ _ (Nat.le_of_lt hl), sortedV_pairs])]
    refine forL_fold (fun acc : List Pr => [some (.v (.lst (xs.map pairD))), some (.l (acc.map pairD)), none, none, none]) pairD step (fun acc ps => acc.length + ps.length ≤ xs.length) (fun acc p ps K hp => ?_) _ [] (by simpa using hlen)
    rw [List.length_cons] at hp
    rcases cases_last acc with rfl | ⟨i, q, rfl⟩
    · refine ⟨by simp [step]; simp at hp; omega, ?_⟩
      simp -implicitDefEqProofs [evE, evB, evEs, evOe, evT, evL, evIt, evOt, evS, binV, cmpV, setTg, fill, itOk, pairD, step]
    · have hle : i.length + 1 < line := by simp at hp; omega
      refine ⟨?_, ?_⟩
      · rw [step_last]
        split <;> simp at hp ⊢ <;> omega
      · rw [step_last]
        by_cases c : p.1 ≤ q.2 + 1
        · simp -implicitDefEqProofs [evE, evB, evEs, evOe, evT, evL, evIt, evOt, evS, binV, cmpV, setTg, fill, itOk, pairD, hle, c, atI_last, ixN_last]
        · simp -implicitDefEqProofs [evE, evB, evEs, evOe, evT, evL, evIt, evOt, evS, binV, cmpV, setTg, fill, itOk, pairD, hle, c, atI_last, ixN_last]
  simp -implicitDefEqProofs [evE, evB, evEs, evOe, evT, evL, evIt, evOt, evS, binV, cmpV, setTg, fill, itOk, callD, d_joined, envOf, loop]
theorem ev_within (xs : List Pr) (t : Int) (S : Sto) : callD F d__law_within [.lst (xs.map pairD), .int t] S = .ok (.v (.bl (within xs t))) S := by
  have loop : evS F l__law_within_1 [some (.v (.lst (xs.map pairD))), some (.v (.int t)), none, none] S = if xs.any (fun p => decide (p.1 ≤ t) && decide (t ≤ p.2)) then .ret (.v (.bl true)) S else .next [some (.v (.lst (xs.map pairD))), some (.v (.int t)), none, none] S := by
    unfold l__law_within_1
    rw [loop_of (S1 := S) (xs := xs.map pairD) (by simp -implicitDefEqProofs [evE, evB, evEs, evOe, evT, evL, evIt, evOt, evS, binV, cmpV, setTg, fill, itOk])]
    refine forL_any pairD _ _ xs fun p _ K => ?_
    by_cases c1 : p.1 ≤ t
    · by_cases c2 : t ≤ p.2
      · simp -implicitDefEqProofs [evE, evB, evEs, evOe, evT, evL, evIt, evOt, evS, binV, cmpV, setTg, fill, itOk, pairD, c1, c2]
      · simp -implicitDefEqProofs [evE, evB, evEs, evOe, evT, evL, evIt, evOt, evS, binV, cmpV, setTg, fill, itOk, pairD, c1, c2]
    · simp -implicitDefEqProofs [evE, evB, evEs, evOe, evT, evL, evIt, evOt, evS, binV, cmpV, setTg, fill, itOk, pairD, c1]
  simp -implicitDefEqProofs [evE, evB, evEs, evOe, evT, evL, evIt, evOt, evS, binV, cmpV, setTg, fill, itOk, callD, d__law_within, envOf, loop]
  unfold within
  cases c : xs.any (fun p => decide (p.1 ≤ t) && decide (t ≤ p.2)) <;> simp -implicitDefEqProofs [evE, evB, evEs, evOe, evT, evL, evIt, evOt, evS, binV, cmpV, setTg, fill, itOk]
theorem get_pair (xs : List Pr) (k : Nat) (h : k < xs.length) : atI (xs.map pairD) (k : Int) = some (pairD xs[k]) := by
  rw [atI_ofNat _ _ (by simpa using h)]
  simp
def mx (a b : Int) : Int := if b > a then b else a
def mn (a b : Int) : Int := if b < a then b else a
def f2 (p : Pr) (acc : List Pr) (q : Pr) : List Pr := if mx p.1 q.1 ≤ mn p.2 q.2 then acc ++ [(mx p.1 q.1, mn p.2 q.2)] else acc
def common (xs ys : List Pr) : List Pr := xs.foldl (fun acc p => ys.foldl (f2 p) acc) []
theorem f2_len (p : Pr) (acc : List Pr) (q : Pr) : (f2 p acc q).length ≤ acc.length + 1 := by
  unfold f2
  split <;> simp
theorem f2s_len (p : Pr) : ∀ (qs acc : List Pr), (qs.foldl (f2 p) acc).length ≤ acc.length + qs.length
  | [], acc => by simp
  | q :: qs, acc => by
    rw [List.foldl_cons, List.length_cons]
    have := f2s_len p qs (f2 p acc q)
    have h2 := f2_len p acc q
    omega
theorem f1s_len (ys : List Pr) : ∀ (ps acc : List Pr), (ps.foldl (fun acc p => ys.foldl (f2 p) acc) acc).length ≤ acc.length + ps.length * ys.length
  | [], acc => by simp
  | p :: ps, acc => by
    rw [List.foldl_cons, List.length_cons, Nat.succ_mul]
    have h1 := f1s_len ys ps (ys.foldl (f2 p) acc)
    have h2 := f2s_len p ys acc
    omega
theorem common_len (xs ys : List Pr) : (common xs ys).length ≤ xs.length * ys.length := by
  have h := f1s_len ys xs []
  rw [List.length_nil, Nat.zero_add] at h
  exact h
theorem ev_common (xs ys : List Pr) (S : Sto) (hl : xs.length * ys.length < line) : callD F d_common [.lst (xs.map pairD), .lst (ys.map pairD)] S = .ok (.l ((common xs ys).map pairD)) S := by
  have inner : ∀ (p : Pr) (acc : List Pr), acc.length + ys.length < line → evS F l_common_1 [some (.v (.lst (xs.map pairD))), some (.v (.lst (ys.map pairD))), some (.l (acc.map pairD)), some (.v (.int p.1)), some (.v (.int p.2)), none, none, none, none] S =
      .next [some (.v (.lst (xs.map pairD))), some (.v (.lst (ys.map pairD))), some (.l ((ys.foldl (f2 p) acc).map pairD)), some (.v (.int p.1)), some (.v (.int p.2)), none, none, none, none] S := by
    intro p acc ha
    unfold l_common_1
    rw [loop_of (S1 := S) (xs := ys.map pairD) (by simp -implicitDefEqProofs [evE, evB, evEs, evOe, evT, evL, evIt, evOt, evS, binV, cmpV, setTg, fill, itOk])]
    refine forL_fold (fun acc : List Pr => [some (.v (.lst (xs.map pairD))), some (.v (.lst (ys.map pairD))), some (.l (acc.map pairD)), some (.v (.int p.1)), some (.v (.int p.2)), none, none, none, none]) pairD (f2 p) (fun a qs => a.length + qs.length < line) (fun a q qs K hp => ?_) ys acc ha
    rw [List.length_cons] at hp
    have hle : a.length < line := by omega
    have h2 := f2_len p a q
    refine ⟨by omega, ?_⟩
    by_cases c : (if q.1 > p.1 then q.1 else p.1) ≤ (if q.2 < p.2 then q.2 else p.2)
    · simp -implicitDefEqProofs [evE, evB, evEs, evOe, evT, evL, evIt, evOt, evS, binV, cmpV, setTg, fill, itOk, pairD, f2, mx, mn, hle, c]
    · simp -implicitDefEqProofs [evE, evB, evEs, evOe, evT, evL, evIt, evOt, evS, binV, cmpV, setTg, fill, itOk, pairD, f2, mx, mn, c]
  have loop : evS F l_common_2 [some (.v (.lst (xs.map pairD))), some (.v (.lst (ys.map pairD))), some (.l []), none, none, none, none, none, none] S =
      .next [some (.v (.lst (xs.map pairD))), some (.v (.lst (ys.map pairD))), some (.l ((common xs ys).map pairD)), none, none, none, none, none, none] S := by
    unfold l_common_2
    rw [loop_of (S1 := S) (xs := xs.map pairD) (by simp -implicitDefEqProofs [evE, evB, evEs, evOe, evT, evL, evIt, evOt, evS, binV, cmpV, setTg, fill, itOk])]
    refine forL_fold (fun acc : List Pr => [some (.v (.lst (xs.map pairD))), some (.v (.lst (ys.map pairD))), some (.l (acc.map pairD)), none, none, none, none, none, none]) pairD (fun acc p => ys.foldl (f2 p) acc) (fun a ps => a.length + ps.length * ys.length < line) (fun a p ps K hp => ?_) xs [] (by simpa using hl)
    rw [List.length_cons, Nat.succ_mul] at hp
    have hin := inner p a (by omega)
    have hl2 := f2s_len p ys a
    refine ⟨by omega, ?_⟩
    simp -implicitDefEqProofs [evE, evB, evEs, evOe, evT, evL, evIt, evOt, evS, binV, cmpV, setTg, fill, itOk, pairD, hin]
  simp -implicitDefEqProofs [evE, evB, evEs, evOe, evT, evL, evIt, evOt, evS, binV, cmpV, setTg, fill, itOk, callD, d_common, envOf, loop]
theorem mx_cases (a b : Int) : (mx a b = a ∧ b ≤ a) ∨ (mx a b = b ∧ a ≤ b) := by
  unfold mx
  split <;> omega
theorem mn_cases (a b : Int) : (mn a b = a ∧ a ≤ b) ∨ (mn a b = b ∧ b ≤ a) := by
  unfold mn
  split <;> omega
theorem f2_within (p : Pr) (acc : List Pr) (q : Pr) (t : Int) : within (f2 p acc q) t = (within acc t || (within [p] t && within [q] t)) := by
  unfold f2
  rw [within_one, within_one]
  have h1 := mx_cases p.1 q.1
  have h2 := mn_cases p.2 q.2
  generalize mx p.1 q.1 = a at h1 ⊢
  generalize mn p.2 q.2 = b at h2 ⊢
  split
  · rename_i c
    rw [within_append, within_one]
    congr 1
    rw [Bool.eq_iff_iff]
    simp only [Bool.and_eq_true, decide_eq_true_eq]
    omega
  · rename_i c
    have : ((decide (p.1 ≤ t) && decide (t ≤ p.2)) && (decide (q.1 ≤ t) && decide (t ≤ q.2))) = false := by
      rw [Bool.eq_false_iff]
      intro h
      simp only [Bool.and_eq_true, decide_eq_true_eq] at h
      omega
    rw [this, Bool.or_false]
theorem f2s_within (p : Pr) (t : Int) : ∀ (qs acc : List Pr), within (qs.foldl (f2 p) acc) t = (within acc t || (within [p] t && within qs t))
  | [], acc => by simp [within]
  | q :: qs, acc => by
    rw [List.foldl_cons, f2s_within p t qs, f2_within, show q :: qs = [q] ++ qs from rfl, within_append [q]]
    cases within acc t <;> cases within [p] t <;> cases within [q] t <;> cases within qs t <;> rfl
theorem f1s_within (ys : List Pr) (t : Int) : ∀ (ps acc : List Pr), within (ps.foldl (fun acc p => ys.foldl (f2 p) acc) acc) t = (within acc t || (within ps t && within ys t))
  | [], acc => by simp [within]
  | p :: ps, acc => by
    rw [List.foldl_cons, f1s_within ys t ps, f2s_within, show p :: ps = [p] ++ ps from rfl, within_append [p]]
    cases within acc t <;> cases within [p] t <;> cases within ps t <;> cases within ys t <;> rfl
theorem common_within (xs ys : List Pr) (t : Int) : within (common xs ys) t = (within xs t && within ys t) := by
  unfold common
  rw [f1s_within]; simp [within]
end
theorem joined_len (xs : List Pr) : (joined xs).length ≤ xs.length := by
  have h : ∀ (ps acc : List Pr), (ps.foldl step acc).length ≤ acc.length + ps.length := by
    intro ps
    induction ps with
    | nil => intro acc; simp
    | cons p ps ih =>
      intro acc
      rw [List.foldl_cons, List.length_cons]
      have h1 := ih (step acc p)
      have h2 : (step acc p).length ≤ acc.length + 1 := by
        rcases cases_last acc with rfl | ⟨i, q, rfl⟩
        · simp [step]
        · rw [step_last]; split <;> simp
      omega
  have h1 := h (sortBy ltPair (xs.filter fun p => decide (p.1 ≤ p.2))) []
  rw [(Snd.sortBy_perm ltPair _).length_eq] at h1
  have h2 := List.length_filter_le (fun p : Pr => decide (p.1 ≤ p.2)) xs
  rw [List.length_nil, Nat.zero_add] at h1
  exact Nat.le_trans h1 h2
end SpE

set_option linter.all false
set_option maxRecDepth 100000
/-! Conditions over time, in plain terms. -/
namespace S77
open Sp SpE
/-- a shift of the ends -/
def sh (a b : Int) (xs : List Pr) : List Pr := xs.map fun p => (p.1 + a, p.2 + b)
/-- the told line: spans that lie in A (yes), out of A (no), within 0 .. 39 -/
structure Told (Y N : List Pr) (A : Int → Prop) : Prop where
  yes : ∀ t, within Y t = true → A t
  no : ∀ t, within N t = true → ¬ A t
/-- every tick of a span of joined spans is in the spans -/
theorem span_in {xs : List Pr} {p : Pr} (hp : p ∈ joined xs) {t : Int} (h1 : p.1 ≤ t) (h2 : t ≤ p.2) : within xs t = true := by
  rw [← (joined_ok xs).2]
  exact within_iff.mpr ⟨p, hp, h1, h2⟩
theorem proper_le {xs : List Pr} {p : Pr} (hp : p ∈ joined xs) : p.1 ≤ p.2 := (joined_ok xs).1.1 p hp
theorem within_sh {xs : List Pr} {a b t : Int} : within (joined (sh a b (joined xs))) t = true ↔ ∃ p ∈ joined xs, p.1 + a ≤ t ∧ t ≤ p.2 + b := by
  rw [(joined_ok _).2, within_iff]
  unfold sh
  constructor
  · rintro ⟨q, hq, h1, h2⟩
    obtain ⟨p, hp, rfl⟩ := List.mem_map.mp hq
    exact ⟨p, hp, h1, h2⟩
  · rintro ⟨p, hp, h1, h2⟩
    exact ⟨_, List.mem_map.mpr ⟨p, hp, rfl⟩, h1, h2⟩
/-- earlier_begins: some tick of t .. t + d -/
theorem soon_some {xs : List Pr} {d t : Int} (hd : 0 ≤ d) (h : within (joined (sh (-d) 0 (joined xs))) t = true) : ∃ u, t ≤ u ∧ u ≤ t + d ∧ within xs u = true := by
  obtain ⟨p, hp, h1, h2⟩ := within_sh.mp h
  have := proper_le hp
  by_cases c : p.1 ≤ t
  · exact ⟨t, by omega, by omega, span_in hp c (by omega)⟩
  · exact ⟨p.1, by omega, by omega, span_in hp (by omega) this⟩
/-- earlier_ends: all ticks of t .. t + d -/
theorem soon_all {xs : List Pr} {d t : Int} (h : within (joined (sh 0 (-d) (joined xs))) t = true) : ∀ u, t ≤ u → u ≤ t + d → within xs u = true := by
  obtain ⟨p, hp, h1, h2⟩ := within_sh.mp h
  intro u h3 h4
  exact span_in hp (by omega) (by omega)
/-- later_ends: some tick of t - d .. t -/
theorem late_some {xs : List Pr} {d t : Int} (hd : 0 ≤ d) (h : within (joined (sh 0 d (joined xs))) t = true) : ∃ u, t - d ≤ u ∧ u ≤ t ∧ within xs u = true := by
  obtain ⟨p, hp, h1, h2⟩ := within_sh.mp h
  have := proper_le hp
  by_cases c : t ≤ p.2
  · exact ⟨t, by omega, by omega, span_in hp (by omega) c⟩
  · exact ⟨p.2, by omega, by omega, span_in hp this (by omega)⟩
/-- later_begins: all ticks of t - d .. t -/
theorem late_all {xs : List Pr} {d t : Int} (h : within (joined (sh d 0 (joined xs))) t = true) : ∀ u, t - d ≤ u → u ≤ t → within xs u = true := by
  obtain ⟨p, hp, h1, h2⟩ := within_sh.mp h
  intro u h3 h4
  exact span_in hp (by omega) (by omega)
/-! ### until -/
def uy (d : Int) (p : Pr) (acc : List Pr) (q : Pr) : List Pr := if q.1 ≤ p.2 then acc ++ [(mx p.1 (q.1 - d), mn p.2 q.2)] else acc
def untilY (d : Int) (xs ys : List Pr) : List Pr := (joined xs).foldl (fun acc p => (joined ys).foldl (uy d p) acc) []
def un (p : Pr) (acc : List Pr) (q : Pr) : List Pr := if mx p.1 q.1 ≤ mn p.2 q.2 then acc ++ [(p.1, mn p.2 q.2)] else acc
def untilN (acc : List Pr) (xs ys : List Pr) : List Pr := (joined ys).foldl (fun acc p => xs.foldl (un p) acc) acc
theorem fold_mem {α : Type} {f : List Pr → α → List Pr} {g : α → Pr → Prop} (h : ∀ acc x r, r ∈ f acc x → r ∈ acc ∨ g x r) : ∀ (xs : List α) (acc : List Pr) (r : Pr), r ∈ xs.foldl f acc → r ∈ acc ∨ ∃ x ∈ xs, g x r
  | [], acc, r, hr => .inl hr
  | x :: xs, acc, r, hr => by
    rcases fold_mem h xs (f acc x) r hr with h1 | ⟨y, hy, h1⟩
    · rcases h acc x r h1 with h2 | h2
      · exact .inl h2
      · exact .inr ⟨x, List.mem_cons_self, h2⟩
    · exact .inr ⟨y, List.mem_cons_of_mem _ hy, h1⟩
theorem mem_untilY {d : Int} {xs ys : List Pr} {r : Pr} (h : r ∈ untilY d xs ys) : ∃ p ∈ joined xs, ∃ q ∈ joined ys, q.1 ≤ p.2 ∧ r = (mx p.1 (q.1 - d), mn p.2 q.2) := by
  rcases fold_mem (g := fun p r => ∃ q ∈ joined ys, q.1 ≤ p.2 ∧ r = (mx p.1 (q.1 - d), mn p.2 q.2)) (fun acc p r hr => fold_mem (g := fun q r => q.1 ≤ p.2 ∧ r = (mx p.1 (q.1 - d), mn p.2 q.2)) (fun acc q r hr => by
    unfold uy at hr
    split at hr
    · rename_i c
      rcases List.mem_append.mp hr with hr | hr
      · exact .inl hr
      · exact .inr ⟨c, List.mem_singleton.mp hr⟩
    · exact .inl hr) (joined ys) acc r hr) (joined xs) [] r h with h1 | h1
  · cases h1
  · exact h1
theorem mem_untilN {acc xs ys : List Pr} {r : Pr} (h : r ∈ untilN acc xs ys) : r ∈ acc ∨ ∃ p ∈ joined ys, ∃ q ∈ xs, mx p.1 q.1 ≤ mn p.2 q.2 ∧ r = (p.1, mn p.2 q.2) :=
  fold_mem (g := fun p r => ∃ q ∈ xs, mx p.1 q.1 ≤ mn p.2 q.2 ∧ r = (p.1, mn p.2 q.2)) (fun acc p r hr => fold_mem (g := fun q r => mx p.1 q.1 ≤ mn p.2 q.2 ∧ r = (p.1, mn p.2 q.2)) (fun acc q r hr => by
    unfold un at hr
    split at hr
    · rename_i c
      rcases List.mem_append.mp hr with hr | hr
      · exact .inl hr
      · exact .inr ⟨c, List.mem_singleton.mp hr⟩
    · exact .inl hr) xs acc r hr) (joined ys) acc r h
/-- yes: a tick u within reach, in the second, all on the way in the first -/
theorem until_yes {d t : Int} {xs ys : List Pr} (h : within (joined (untilY d xs ys)) t = true) (hd : 0 ≤ d) : ∃ u, t ≤ u ∧ u ≤ t + d ∧ within ys u = true ∧ ∀ k, t ≤ k → k ≤ u → within xs k = true := by
  rw [(joined_ok _).2] at h
  obtain ⟨r, hr, h1, h2⟩ := within_iff.mp h
  obtain ⟨p, hp, q, hq, h3, rfl⟩ := mem_untilY hr
  have a1 := mx_cases p.1 (q.1 - d)
  have a2 := mn_cases p.2 q.2
  have a3 := proper_le hp
  have a4 := proper_le hq
  have h1 : mx p.1 (q.1 - d) ≤ t := h1
  have h2 : t ≤ mn p.2 q.2 := h2
  by_cases c : q.1 ≤ t
  · exact ⟨t, by omega, by omega, span_in hq c (by omega), fun k k1 k2 => span_in hp (by omega) (by omega)⟩
  · exact ⟨q.1, by omega, by omega, span_in hq (by omega) a4, fun k k1 k2 => span_in hp (by omega) (by omega)⟩
/-- no: out of the first here, or the second nowhere within reach, or out of the first ahead of the second -/
theorem until_no {d t : Int} {xs ys : List Pr} (h : within (joined (untilN (xs ++ joined (sh 0 (-d) (joined ys))) xs ys)) t = true) (u : Int) (h1 : t ≤ u) (h2 : u ≤ t + d) : within ys u = true ∨ ∃ k, t ≤ k ∧ k ≤ u ∧ within xs k = true := by
  rw [(joined_ok _).2] at h
  obtain ⟨r, hr, h3, h4⟩ := within_iff.mp h
  rcases mem_untilN hr with hr | ⟨p, hp, q, hq, h5, rfl⟩
  · rcases List.mem_append.mp hr with hr | hr
    · exact .inr ⟨t, by omega, h1, within_iff.mpr ⟨r, hr, h3, h4⟩⟩
    · exact .inl (soon_all (within_iff.mpr ⟨r, hr, h3, h4⟩) u h1 h2)
  · have a1 := mx_cases p.1 q.1
    have a2 := mn_cases p.2 q.2
    have h3 : p.1 ≤ t := h3
    have h4 : t ≤ mn p.2 q.2 := h4
    by_cases c : u ≤ mn p.2 q.2
    · exact .inl (span_in hp (by omega) (by omega))
    · exact .inr ⟨mn p.2 q.2, by omega, by omega, within_iff.mpr ⟨q, hq, by omega, by omega⟩⟩
end S77

set_option linter.all false
set_option maxRecDepth 100000
/-! The drawn sets and what is told of them. -/
namespace Dr
open Ev Sp SpE
def l__law_set_1 : Ev.S := .loop (.nm 7) (.rng1 (.var 6)) (.seq (.ite (.and (.cmp .lt (.e (.var 4)) (.e (.var 1))) (.tru (.e (.var 3)))) (.app 2 (.var 4)) (.clr []))
    (.aug 4 .add (.int 1))) [7]
def l__law_set_2 : Ev.S := .loop (.nm 5) (.rng1 (.var 1)) (.seq (.asg (.nm 6) (.bin .add (.int 1) (.bin .mod (.toInt (.var 0)) (.int 5))))
    (.seq (.asg (.nm 0) (.bin .add (.bin .fdiv (.var 0) (.int 5)) (.bin .mul (.var 5) (.int 31))))
    (.seq l__law_set_1
    (.asg (.nm 3) (.not (.var 3)))))) [5, 6]
def d__law_set : Ev.Def := ⟨2, 8, [], (.seq (.asgL 2 (.disp .nil))
    (.seq (.asg (.nm 3) (.cmp .eq (.e (.bin .mod (.toInt (.var 0)) (.int 2))) (.e (.int 1))))
    (.seq (.asg (.nm 0) (.bin .fdiv (.var 0) (.int 2)))
    (.seq (.asg (.nm 4) (.int 0))
    (.seq l__law_set_2
    (.retl 2))))))⟩
def l__law_told_1 : Ev.S := .loop (.nm 5) (.rng1 (.var 2)) (.seq (.asg (.nm 6) (.bin .mod (.toInt (.var 0)) (.int 4)))
    (.seq (.asg (.nm 0) (.bin .add (.bin .add (.bin .fdiv (.var 0) (.int 4)) (.bin .mul (.var 5) (.int 7919))) (.int 3)))
    (.seq (.ite (.cmp .gt (.e (.var 6)) (.e (.int 1))) (.ite (.cmp .inn (.e (.var 5)) (.e (.var 1))) (.app 3 (.tup (.cons (.var 5) (.cons (.var 5) .nil)))) (.app 4 (.tup (.cons (.var 5) (.cons (.var 5) .nil))))) (.clr []))
    (.ite (.and (.cmp .eq (.e (.var 6)) (.e (.int 3))) (.cmp .gt (.e (.len (.b 3))) (.e (.int 1)))) (.asgL 3 (.cat (.e (.frz (.slice (.b 3) (.yes (.int 1)) .no))) (.e (.frz (.slice (.b 3) .no (.yes (.int 1))))))) (.clr []))))) [5, 6]
def d__law_told : Ev.Def := ⟨3, 7, [], (.seq (.asgL 3 (.disp .nil))
    (.seq (.asgL 4 (.disp .nil))
    (.seq l__law_told_1
    (.seq (.fz 3)
    (.seq (.fz 4)
    (.ret (.tup (.cons (.var 3) (.cons (.var 4) .nil)))))))))⟩
theorem inV_ints (k : Int) (T : List Int) : inV (.int k) (.lst (T.map .int)) = some (decide (k ∈ T)) := by
  have h1 : (T.map D.int).all flat = true := by
    rw [List.all_eq_true]
    intro x hx
    obtain ⟨y, _, rfl⟩ := List.mem_map.mp hx
    rfl
  have h2 : ((T.map D.int).any fun y => eqD y (.int k)) = decide (k ∈ T) := by
    rw [Bool.eq_iff_iff, List.any_eq_true, decide_eq_true_eq]
    constructor
    · rintro ⟨x, hx, h⟩
      obtain ⟨y, hy, rfl⟩ := List.mem_map.mp hx
      have h : (y == k) = true := h
      rw [← eq_of_beq h]; exact hy
    · intro h
      exact ⟨.int k, List.mem_map.mpr ⟨k, h, rfl⟩, by show (k == k) = true; simp⟩
  show inL (.int k) (T.map D.int) = _
  unfold inL
  rw [h1, h2]; rfl
theorem cut_tail (xs : List D) : cutL xs (some 1) none = xs.drop 1 := by
  cases xs with
  | nil => rfl
  | cons x xs =>
    unfold cutL sIx
    simp
theorem cut_head (xs : List D) : cutL xs none (some 1) = xs.take 1 := by
  cases xs with
  | nil => rfl
  | cons x xs =>
    unfold cutL sIx
    simp
section
variable (F : Fns)
/-! ### the drawn set -/
def Good (a : List Int × Int) : Prop := a.1.Pairwise (· < ·) ∧ (∀ x ∈ a.1, 0 ≤ x ∧ x < a.2 ∧ x < 40) ∧ 0 ≤ a.2
def g (inside : Bool) (a : List Int × Int) (j : Int) : List Int × Int := (if a.2 < 40 ∧ inside = true then a.1 ++ [a.2] else a.1, a.2 + 1)
theorem g_good {inside : Bool} {a : List Int × Int} (j : Int) (h : Good a) : Good (g inside a j) := by
  obtain ⟨h1, h2, h3⟩ := h
  unfold g
  refine ⟨?_, fun x hx => ?_, by show 0 ≤ a.2 + 1; omega⟩
  · show (if a.2 < 40 ∧ inside = true then a.1 ++ [a.2] else a.1).Pairwise (· < ·)
    split
    · rw [List.pairwise_append]
      refine ⟨h1, List.pairwise_singleton _ _, fun x hx y hy => ?_⟩
      rcases List.mem_singleton.mp hy with rfl
      exact (h2 x hx).2.1
    · exact h1
  · have hx : x ∈ (if a.2 < 40 ∧ inside = true then a.1 ++ [a.2] else a.1) := hx
    show 0 ≤ x ∧ x < a.2 + 1 ∧ x < 40
    split at hx
    · rename_i c
      rcases List.mem_append.mp hx with hx | hx
      · have := h2 x hx; omega
      · rcases List.mem_singleton.mp hx with rfl
        omega
    · have := h2 x hx; omega
theorem g_len (inside : Bool) (a : List Int × Int) (j : Int) : (g inside a j).1.length ≤ a.1.length + 1 := by
  unfold g
  show (if a.2 < 40 ∧ inside = true then a.1 ++ [a.2] else a.1).length ≤ _
  split <;> simp
theorem gs_good {inside : Bool} : ∀ (js : List Int) {a : List Int × Int}, Good a → Good (js.foldl (g inside) a) ∧ (js.foldl (g inside) a).1.length ≤ a.1.length + js.length
  | [], a, h => ⟨h, by simp⟩
  | j :: js, a, h => by
    obtain ⟨h1, h2⟩ := gs_good (inside := inside) js (g_good (inside := inside) j h)
    have := g_len inside a j
    refine ⟨h1, ?_⟩
    rw [List.length_cons, List.foldl_cons]
    omega
def rng (n : Int) : List Int := (List.range n.toNat).map fun k : Nat => (0 : Int) + (k : Int)
theorem rng_len (n : Int) : (rng n).length = n.toNat := by unfold rng; simp
theorem ev_set1 (r k : Option Sl) (S : Sto) (inside : Bool) (run : Int) (h1 : 0 ≤ run) (h2 : run < 10) (a : List Int × Int) (ha : a.1.length < 1000) :
    evS F l__law_set_1 [r, some (.v (.int 40)), some (.l (a.1.map .int)), some (.v (.bl inside)), some (.v (.int a.2)), k, some (.v (.int run)), none] S =
    .next [r, some (.v (.int 40)), some (.l (((rng run).foldl (g inside) a).1.map .int)), some (.v (.bl inside)), some (.v (.int ((rng run).foldl (g inside) a).2)), k, some (.v (.int run)), none] S := by
  unfold l__law_set_1
  rw [loop_of (S1 := S) (xs := (rng run).map D.int) (by simp -implicitDefEqProofs [evE, evB, evEs, evOe, evT, evL, evIt, evOt, evS, binV, cmpV, setTg, fill, itOk, small_of (i := run) (by omega) (by omega), rangeL_map, rng])]
  refine forL_fold (fun a : List Int × Int => [r, some (.v (.int 40)), some (.l (a.1.map .int)), some (.v (.bl inside)), some (.v (.int a.2)), k, some (.v (.int run)), none]) D.int (g inside) (fun a js => a.1.length + js.length < 2000) (fun a j js K hp => ?_) _ a (by rw [rng_len]; omega)
  rw [List.length_cons] at hp
  have := g_len inside a j
  have hl : a.1.length < line := by unfold line; omega
  refine ⟨by omega, ?_⟩
  by_cases c : a.2 < 40
  · cases inside <;> simp -implicitDefEqProofs [evE, evB, evEs, evOe, evT, evL, evIt, evOt, evS, binV, cmpV, setTg, fill, itOk, g, c, hl]
  · simp -implicitDefEqProofs [evE, evB, evEs, evOe, evT, evL, evIt, evOt, evS, binV, cmpV, setTg, fill, itOk, g, c, hl]
def o (s : Int × Bool × (List Int × Int)) (k : Int) : Int × Bool × (List Int × Int) := (s.1 / 5 + k * 31, !s.2.1, (rng (1 + s.1 % 5)).foldl (g s.2.1) s.2.2)
theorem ev_set (r : Int) (S : Sto) : ∃ T : List Int, T.Pairwise (· < ·) ∧ (∀ x ∈ T, 0 ≤ x ∧ x < 40) ∧ callD F d__law_set [.int r, .int 40] S = .ok (.l (T.map .int)) S := by
  have hm : ∀ x : Int, mulOk x 31 = true := fun x => mulOk_r (by decide) (by decide)
  have good : ∀ (ks : List Int) (s : Int × Bool × (List Int × Int)), Good s.2.2 → Good (ks.foldl o s).2.2 := by
    intro ks
    induction ks with
    | nil => intro s h; exact h
    | cons k ks ih =>
      intro s h
      rw [List.foldl_cons]
      exact ih _ (gs_good _ h).1
  have loop : evS F l__law_set_2 [some (.v (.int (r / 2))), some (.v (.int 40)), some (.l []), some (.v (.bl (r % 2 == 1))), some (.v (.int 0)), none, none, none] S =
      .next [some (.v (.int ((rng 40).foldl o (r / 2, (r % 2 == 1), ([], 0))).1)), some (.v (.int 40)), some (.l (((rng 40).foldl o (r / 2, (r % 2 == 1), ([], 0))).2.2.1.map .int)), some (.v (.bl ((rng 40).foldl o (r / 2, (r % 2 == 1), ([], 0))).2.1)), some (.v (.int ((rng 40).foldl o (r / 2, (r % 2 == 1), ([], 0))).2.2.2)), none, none, none] S := by
    unfold l__law_set_2
    rw [loop_of (S1 := S) (xs := (rng 40).map D.int) (by simp -implicitDefEqProofs [evE, evB, evEs, evOe, evT, evL, evIt, evOt, evS, binV, cmpV, setTg, fill, itOk, small_of (i := 40) (by omega) (by omega), rangeL_map, rng])]
    refine forL_fold (fun s : Int × Bool × (List Int × Int) => [some (.v (.int s.1)), some (.v (.int 40)), some (.l (s.2.2.1.map .int)), some (.v (.bl s.2.1)), some (.v (.int s.2.2.2)), none, none, none]) D.int o (fun s ks => Good s.2.2 ∧ s.2.2.1.length + 10 * ks.length < 500) (fun s k ks K hp => ?_) _ (r / 2, (r % 2 == 1), ([], 0)) ⟨⟨.nil, fun _ h => (by cases h), Int.le_refl _⟩, by rw [rng_len]; show 0 + 10 * 40 < 500; decide⟩
    obtain ⟨hp1, hp2⟩ := hp
    rw [List.length_cons] at hp2
    have h1 : 0 ≤ s.1 % 5 ∧ s.1 % 5 < 5 := by omega
    obtain ⟨q1, q2⟩ := gs_good (inside := s.2.1) (rng (1 + s.1 % 5)) hp1
    rw [rng_len] at q2
    refine ⟨⟨q1, ?_⟩, ?_⟩
    · show ((rng (1 + s.1 % 5)).foldl (g s.2.1) s.2.2).1.length + 10 * ks.length < 500
      omega
    · have e := fun r k => ev_set1 F r k S s.2.1 (1 + s.1 % 5) (by omega) (by omega) s.2.2 (by omega)
      simp -implicitDefEqProofs [evE, evB, evEs, evOe, evT, evL, evIt, evOt, evS, binV, cmpV, setTg, fill, itOk, hm, e, o]
  have gd := good (rng 40) (r / 2, (r % 2 == 1), ([], 0)) ⟨.nil, fun _ h => (by cases h), Int.le_refl _⟩
  refine ⟨_, gd.1, fun x hx => ?_, ?_⟩
  · have := gd.2.1 x hx
    omega
  · simp -implicitDefEqProofs [evE, evB, evEs, evOe, evT, evL, evIt, evOt, evS, binV, cmpV, setTg, fill, itOk, callD, d__law_set, envOf, loop]
/-! ### what is told -/
def tstep (T : List Int) (s : Int × List Pr × List Pr) (t : Int) : Int × List Pr × List Pr :=
  let y := if 1 < s.1 % 4 ∧ t ∈ T then s.2.1 ++ [(t, t)] else s.2.1
  let n := if 1 < s.1 % 4 ∧ ¬ t ∈ T then s.2.2 ++ [(t, t)] else s.2.2
  (s.1 / 4 + t * 7919 + 3, if s.1 % 4 = 3 ∧ 1 < y.length then y.drop 1 ++ y.take 1 else y, n)
def TGood (T : List Int) (s : Int × List Pr × List Pr) : Prop := (∀ p ∈ s.2.1, p.1 = p.2 ∧ p.1 ∈ T) ∧ ∀ p ∈ s.2.2, p.1 = p.2 ∧ p.1 ∉ T ∧ 0 ≤ p.1 ∧ p.1 < 40
theorem tstep_good {T : List Int} {s : Int × List Pr × List Pr} {t : Int} (ht : 0 ≤ t ∧ t < 40) (h : TGood T s) : TGood T (tstep T s t) ∧ (tstep T s t).2.1.length ≤ s.2.1.length + 1 ∧ (tstep T s t).2.2.length ≤ s.2.2.length + 1 := by
  obtain ⟨h1, h2⟩ := h
  have hy : ∀ p ∈ (if 1 < s.1 % 4 ∧ t ∈ T then s.2.1 ++ [(t, t)] else s.2.1), p.1 = p.2 ∧ p.1 ∈ T := fun p hp => by
    split at hp
    · rename_i c
      rcases List.mem_append.mp hp with hp | hp
      · exact h1 p hp
      · rcases List.mem_singleton.mp hp with rfl
        exact ⟨rfl, c.2⟩
    · exact h1 p hp
  have ly : (if 1 < s.1 % 4 ∧ t ∈ T then s.2.1 ++ [(t, t)] else s.2.1).length ≤ s.2.1.length + 1 := by split <;> simp
  have ln : (if 1 < s.1 % 4 ∧ ¬ t ∈ T then s.2.2 ++ [(t, t)] else s.2.2).length ≤ s.2.2.length + 1 := by split <;> simp
  unfold tstep TGood
  simp only
  generalize (if 1 < s.1 % 4 ∧ t ∈ T then s.2.1 ++ [(t, t)] else s.2.1) = y at hy ly ⊢
  refine ⟨⟨fun p hp => ?_, fun p hp => ?_⟩, ?_, ln⟩
  · split at hp
    · rcases List.mem_append.mp hp with hp | hp
      · exact hy p (List.mem_of_mem_drop hp)
      · exact hy p (List.mem_of_mem_take hp)
    · exact hy p hp
  · split at hp
    · rename_i c
      rcases List.mem_append.mp hp with hp | hp
      · exact h2 p hp
      · rcases List.mem_singleton.mp hp with rfl
        exact ⟨rfl, c.2, ht⟩
    · exact h2 p hp
  · split
    · rw [List.length_append, List.length_drop, List.length_take]; omega
    · exact ly
theorem ev_told (r : Int) (T : List Int) (S : Sto) : ∃ Y N : List Pr, Y.length < 100 ∧ N.length < 100 ∧ (∀ p ∈ Y, p.1 = p.2 ∧ p.1 ∈ T) ∧ (∀ p ∈ N, p.1 = p.2 ∧ p.1 ∉ T ∧ 0 ≤ p.1 ∧ p.1 < 40) ∧ callD F d__law_told [.int r, .lst (T.map .int), .int 40] S = .ok (.v (.tup [.lst (Y.map pairD), .lst (N.map pairD)])) S := by
  have hm : ∀ x : Int, mulOk x 7919 = true := fun x => mulOk_r (by decide) (by decide)
  have hr : ∀ x ∈ rng 40, 0 ≤ x ∧ x < 40 := fun x hx => by
    unfold rng at hx
    obtain ⟨k, hk, rfl⟩ := List.mem_map.mp hx
    have : k < 40 := List.mem_range.mp hk
    omega
  have good : ∀ (ts : List Int) (s : Int × List Pr × List Pr), (∀ x ∈ ts, 0 ≤ x ∧ x < 40) → TGood T s → TGood T (ts.foldl (tstep T) s) ∧ (ts.foldl (tstep T) s).2.1.length ≤ s.2.1.length + ts.length ∧ (ts.foldl (tstep T) s).2.2.length ≤ s.2.2.length + ts.length := by
    intro ts
    induction ts with
    | nil => intro s _ h; exact ⟨h, by simp, by simp⟩
    | cons t ts ih =>
      intro s hb h
      obtain ⟨q1, q2, q3⟩ := tstep_good (hb t List.mem_cons_self) h
      obtain ⟨i1, i2, i3⟩ := ih _ (fun x hx => hb x (List.mem_cons_of_mem _ hx)) q1
      rw [List.foldl_cons, List.length_cons]
      exact ⟨i1, by omega, by omega⟩
  have loop : evS F l__law_told_1 [some (.v (.int r)), some (.v (.lst (T.map .int))), some (.v (.int 40)), some (.l []), some (.l []), none, none] S =
      .next [some (.v (.int ((rng 40).foldl (tstep T) (r, [], [])).1)), some (.v (.lst (T.map .int))), some (.v (.int 40)), some (.l (((rng 40).foldl (tstep T) (r, [], [])).2.1.map pairD)), some (.l (((rng 40).foldl (tstep T) (r, [], [])).2.2.map pairD)), none, none] S := by
    unfold l__law_told_1
    rw [loop_of (S1 := S) (xs := (rng 40).map D.int) (by simp -implicitDefEqProofs [evE, evB, evEs, evOe, evT, evL, evIt, evOt, evS, binV, cmpV, setTg, fill, itOk, small_of (i := 40) (by omega) (by omega), rangeL_map, rng])]
    refine forL_fold (fun s : Int × List Pr × List Pr => [some (.v (.int s.1)), some (.v (.lst (T.map .int))), some (.v (.int 40)), some (.l (s.2.1.map pairD)), some (.l (s.2.2.map pairD)), none, none]) D.int (tstep T) (fun s ts => (TGood T s ∧ ∀ x ∈ ts, 0 ≤ x ∧ x < 40) ∧ s.2.1.length + s.2.2.length + 2 * ts.length < 500) (fun s t ts K hp => ?_) _ (r, [], []) ⟨⟨⟨fun _ h => (by cases h), fun _ h => (by cases h)⟩, hr⟩, by rw [rng_len]; show 0 + 0 + 2 * 40 < 500; decide⟩
    obtain ⟨⟨hp1, hp2⟩, hp3⟩ := hp
    rw [List.length_cons] at hp3
    obtain ⟨q1, q2, q3⟩ := tstep_good (hp2 t List.mem_cons_self) hp1
    have l1 : s.2.1.length < line := by unfold line; omega
    have l2 : s.2.2.length < line := by unfold line; omega
    refine ⟨⟨⟨q1, fun x hx => hp2 x (List.mem_cons_of_mem _ hx)⟩, by omega⟩, ?_⟩
    by_cases c1 : 1 < s.1 % 4
    · by_cases c2 : t ∈ T
      · by_cases c3 : s.1 % 4 = 3
        · by_cases c4 : s.2.1 = []
          · simp -implicitDefEqProofs [evE, evB, evEs, evOe, evT, evL, evIt, evOt, evS, binV, cmpV, setTg, fill, itOk, tstep, c1, c2, c3, c4, hm, inV_ints, l1, l2, cut_tail, cut_head, pairD]
          · have c5 : 0 < s.2.1.length := List.length_pos_iff.mpr c4
            have c6 : s.2.1.length - 1 + 1 + 1 ≤ line := by unfold line; omega
            have c8 : (1 : Int) < (s.2.1.length : Int) + 1 := by omega
            simp -implicitDefEqProofs [evE, evB, evEs, evOe, evT, evL, evIt, evOt, evS, binV, cmpV, setTg, fill, itOk, tstep, c1, c2, c3, c4, c5, c6, c8, hm, inV_ints, l1, l2, cut_tail, cut_head, pairD]
        · simp -implicitDefEqProofs [evE, evB, evEs, evOe, evT, evL, evIt, evOt, evS, binV, cmpV, setTg, fill, itOk, tstep, c1, c2, c3, hm, inV_ints, l1, l2, cut_tail, cut_head, pairD]
      · by_cases c3 : s.1 % 4 = 3
        · by_cases c4 : 1 < s.2.1.length
          · have c5 : (1 : Int) < (s.2.1.length : Int) := by omega
            have c6 : s.2.1.length - 1 + min 1 s.2.1.length ≤ line := by unfold line; omega
            simp -implicitDefEqProofs [evE, evB, evEs, evOe, evT, evL, evIt, evOt, evS, binV, cmpV, setTg, fill, itOk, tstep, c1, c2, c3, c4, c5, c6, hm, inV_ints, l1, l2, cut_tail, cut_head, pairD]
          · have c5 : ¬ (1 : Int) < (s.2.1.length : Int) := by omega
            simp -implicitDefEqProofs [evE, evB, evEs, evOe, evT, evL, evIt, evOt, evS, binV, cmpV, setTg, fill, itOk, tstep, c1, c2, c3, c4, c5, hm, inV_ints, l1, l2, cut_tail, cut_head, pairD]
        · simp -implicitDefEqProofs [evE, evB, evEs, evOe, evT, evL, evIt, evOt, evS, binV, cmpV, setTg, fill, itOk, tstep, c1, c2, c3, hm, inV_ints, l1, l2, cut_tail, cut_head, pairD]
    · have c3 : ¬ s.1 % 4 = 3 := by omega
      simp -implicitDefEqProofs [evE, evB, evEs, evOe, evT, evL, evIt, evOt, evS, binV, cmpV, setTg, fill, itOk, tstep, c1, c3, hm, inV_ints, l1, l2, cut_tail, cut_head, pairD]
  obtain ⟨g1, g2, g3⟩ := good (rng 40) (r, [], []) hr ⟨fun _ h => (by cases h), fun _ h => (by cases h)⟩
  rw [rng_len] at g2 g3
  have g2 : ((rng 40).foldl (tstep T) (r, [], [])).2.1.length ≤ 0 + 40 := g2
  have g3 : ((rng 40).foldl (tstep T) (r, [], [])).2.2.length ≤ 0 + 40 := g3
  refine ⟨_, _, by omega, by omega, g1.1, g1.2, ?_⟩
  simp -implicitDefEqProofs [evE, evB, evEs, evOe, evT, evL, evIt, evOt, evS, binV, cmpV, setTg, fill, itOk, callD, d__law_told, envOf, loop]
end
end Dr

set_option linter.all false
set_option maxRecDepth 100000
/-! k77: the told lines are right. -/
namespace M77
open Ev Sp SpE S77 Dr
theorem asc_len : ∀ (l : List Int) (lo hi : Int), lo ≤ hi → l.Pairwise (· < ·) → (∀ x ∈ l, lo ≤ x ∧ x < hi) → (l.length : Int) ≤ hi - lo
  | [], lo, hi, h, _, _ => by simp; omega
  | x :: xs, lo, hi, h, hp, hb => by
    have hx := hb x List.mem_cons_self
    rw [List.pairwise_cons] at hp
    have := asc_len xs (x + 1) hi (by omega) hp.2 (fun y hy => by
      have h1 := hp.1 y hy
      have h2 := hb y (List.mem_cons_of_mem _ hy)
      omega)
    rw [List.length_cons]
    omega
theorem fold_or (p : Int → Bool) : ∀ (xs : List Int) (g : Bool), xs.foldl (fun g u => g || p u) g = (g || xs.any p)
  | [], g => by simp
  | x :: xs, g => by
    rw [List.foldl_cons, fold_or p xs, List.any_cons, Bool.or_assoc]
theorem ne_iff (xs : List Int) (p : Int → Bool) : (!(xs.filter p).isEmpty) = true ↔ ∃ x ∈ xs, p x = true := by
  rw [Bool.not_eq_true', List.isEmpty_eq_false_iff_exists_mem]
  constructor
  · rintro ⟨x, hx⟩
    obtain ⟨h1, h2⟩ := List.mem_filter.mp hx
    exact ⟨x, h1, h2⟩
  · rintro ⟨x, h1, h2⟩
    exact ⟨x, List.mem_filter.mpr ⟨h1, h2⟩⟩
theorem em_iff (xs : List Int) (p : Int → Bool) : (xs.filter p).isEmpty = true ↔ ∀ x ∈ xs, p x = false := by
  rw [List.isEmpty_iff, List.filter_eq_nil_iff]
  exact ⟨fun h x hx => by simpa using h x hx, fun h x hx => by simpa using h x hx⟩
variable {Y N : List Pr} {A A' : List Int} {d : Int}
theorem soon_right (hd : 0 ≤ d) (hy : ∀ t, within Y t = true → t ∈ A') (hn : ∀ t, within N t = true → t ∉ A') (t : Int) :
    (within (joined (sh (-d) 0 (joined Y))) t = true → (!((ticks t (t + d)).filter fun u => decide (u ∈ A')).isEmpty) = true) ∧ (within (joined (sh 0 (-d) (joined N))) t = true → ¬ (!((ticks t (t + d)).filter fun u => decide (u ∈ A')).isEmpty) = true) := by
  rw [ne_iff]
  refine ⟨fun h => ?_, fun h => ?_⟩
  · obtain ⟨u, h1, h2, h3⟩ := soon_some hd h
    exact ⟨u, mem_ticks.mpr ⟨h1, h2⟩, decide_eq_true (hy u h3)⟩
  · rintro ⟨u, h1, h2⟩
    obtain ⟨h3, h4⟩ := mem_ticks.mp h1
    exact hn u (soon_all h u h3 h4) (of_decide_eq_true h2)
theorem ahead_right (hd : 0 ≤ d) (hy : ∀ t, within Y t = true → t ∈ A') (hn : ∀ t, within N t = true → t ∉ A') (t : Int) :
    (within (joined (sh 0 (-d) (joined Y))) t = true → ((ticks t (t + d)).filter fun u => !decide (u ∈ A')).isEmpty = true) ∧ (within (joined (sh (-d) 0 (joined N))) t = true → ¬ ((ticks t (t + d)).filter fun u => !decide (u ∈ A')).isEmpty = true) := by
  rw [em_iff]
  refine ⟨fun h u hu => ?_, fun h z => ?_⟩
  · obtain ⟨h3, h4⟩ := mem_ticks.mp hu
    rw [decide_eq_true (hy u (soon_all h u h3 h4))]; rfl
  · obtain ⟨u, h1, h2, h3⟩ := soon_some hd h
    have := z u (mem_ticks.mpr ⟨h1, h2⟩)
    rw [decide_eq_false (hn u h3)] at this
    cases this
theorem lately_right (hd : 0 ≤ d) (hy : ∀ t, within Y t = true → t ∈ A') (hn : ∀ t, within N t = true → t ∉ A') (t : Int) :
    (within (joined (sh 0 d (joined Y))) t = true → (!((ticks (t - d) t).filter fun u => decide (u ∈ A')).isEmpty) = true) ∧ (within (joined (sh d 0 (joined N))) t = true → ¬ (!((ticks (t - d) t).filter fun u => decide (u ∈ A')).isEmpty) = true) := by
  rw [ne_iff]
  refine ⟨fun h => ?_, fun h => ?_⟩
  · obtain ⟨u, h1, h2, h3⟩ := late_some hd h
    exact ⟨u, mem_ticks.mpr ⟨h1, h2⟩, decide_eq_true (hy u h3)⟩
  · rintro ⟨u, h1, h2⟩
    obtain ⟨h3, h4⟩ := mem_ticks.mp h1
    exact hn u (late_all h u h3 h4) (of_decide_eq_true h2)
theorem behind_right (hd : 0 ≤ d) (hy : ∀ t, within Y t = true → t ∈ A') (hn : ∀ t, within N t = true → t ∉ A') (t : Int) :
    (within (joined (sh d 0 (joined Y))) t = true → ((ticks (t - d) t).filter fun u => !decide (u ∈ A')).isEmpty = true) ∧ (within (joined (sh 0 d (joined N))) t = true → ¬ ((ticks (t - d) t).filter fun u => !decide (u ∈ A')).isEmpty = true) := by
  rw [em_iff]
  refine ⟨fun h u hu => ?_, fun h z => ?_⟩
  · obtain ⟨h3, h4⟩ := mem_ticks.mp hu
    rw [decide_eq_true (hy u (late_all h u h3 h4))]; rfl
  · obtain ⟨u, h1, h2, h3⟩ := late_some hd h
    have := z u (mem_ticks.mpr ⟨h1, h2⟩)
    rw [decide_eq_false (hn u h3)] at this
    cases this
def hit' (A B : List Int) (t u : Int) : Bool := decide (u ∈ B) && ((ticks t u).filter fun k => !decide (k ∈ A)).isEmpty
theorem until_right {Y2 N2 : List Pr} {B' : List Int} (hd : 0 ≤ d) (hy : ∀ t, within Y t = true → t ∈ A') (hn : ∀ t, within N t = true → t ∉ A') (hy2 : ∀ t, within Y2 t = true → t ∈ B') (hn2 : ∀ t, within N2 t = true → t ∉ B') (t : Int) :
    (within (joined (untilY d Y Y2)) t = true → (ticks t (t + d)).foldl (fun g u => g || hit' A' B' t u) false = true) ∧ (within (joined (untilN (N ++ joined (sh 0 (-d) (joined N2))) N N2)) t = true → ¬ (ticks t (t + d)).foldl (fun g u => g || hit' A' B' t u) false = true) := by
  rw [fold_or, Bool.false_or, List.any_eq_true]
  refine ⟨fun h => ?_, fun h => ?_⟩
  · obtain ⟨u, h1, h2, h3, h4⟩ := until_yes h hd
    refine ⟨u, mem_ticks.mpr ⟨h1, h2⟩, ?_⟩
    unfold hit'
    rw [decide_eq_true (hy2 u h3), Bool.true_and, em_iff]
    intro k hk
    obtain ⟨k1, k2⟩ := mem_ticks.mp hk
    rw [decide_eq_true (hy k (h4 k k1 k2))]; rfl
  · rintro ⟨u, h1, h2⟩
    obtain ⟨h3, h4⟩ := mem_ticks.mp h1
    unfold hit' at h2
    obtain ⟨h5, h6⟩ := Bool.and_eq_true_iff.mp h2
    rw [em_iff] at h6
    rcases until_no h u h3 h4 with z | ⟨k, k1, k2, k3⟩
    · exact hn2 u z (of_decide_eq_true h5)
    · have := h6 k (mem_ticks.mpr ⟨k1, k2⟩)
      rw [decide_eq_false (hn k k3)] at this
      cases this
end M77

set_option Elab.async false
set_option linter.all false
set_option maxRecDepth 100000
set_option maxHeartbeats 0
namespace K77
open PySem PySem.Spec PyProof.Rows L2 Snd
/-! ### the text as the evaluator has it -/
def c_joined_1 : Ev.L := .comp (.nm 2) (.seq (.e (.var 0))) (.yes (.cmp .le (.e (.idx (.e (.var 2)) (.int 0))) (.e (.idx (.e (.var 2)) (.int 1))))) (.var 2) [2]
def l_joined_2 : Ev.S := .loop (.tp [3, 4]) (.seq (.e (.frz (.sorted (.e (.frz c_joined_1)))))) (.ite (.and (.tru (.b 1)) (.cmp .le (.e (.var 3)) (.e (.bin .add (.idx (.e (.idx (.b 1) (.neg (.int 1)))) (.int 1)) (.int 1))))) (.setL 1 (.neg (.int 1)) (.tup (.cons (.idx (.e (.idx (.b 1) (.neg (.int 1)))) (.int 0)) (.cons (.max2 (.var 4) (.idx (.e (.idx (.b 1) (.neg (.int 1)))) (.int 1))) .nil)))) (.app 1 (.tup (.cons (.var 3) (.cons (.var 4) .nil))))) [3, 4]
def d_joined : Ev.Def := ⟨1, 5, [], (.seq (.asgL 1 (.disp .nil))
    (.seq l_joined_2
    (.retl 1)))⟩
def l_common_1 : Ev.S := .loop (.tp [5, 6]) (.seq (.e (.var 1))) (.seq (.asg (.nm 7) (.max2 (.var 3) (.var 5)))
    (.seq (.asg (.nm 8) (.min2 (.var 4) (.var 6)))
    (.ite (.cmp .le (.e (.var 7)) (.e (.var 8))) (.app 2 (.tup (.cons (.var 7) (.cons (.var 8) .nil)))) (.clr [])))) [5, 6, 7, 8]
def l_common_2 : Ev.S := .loop (.tp [3, 4]) (.seq (.e (.var 0))) l_common_1 [3, 4]
def d_common : Ev.Def := ⟨2, 9, [], (.seq (.asgL 2 (.disp .nil))
    (.seq l_common_2
    (.retl 2)))⟩
def c_earlier_begins_1 : Ev.L := .comp (.tp [2, 3]) (.seq (.e (.call 0 (.cons (.var 0) .nil)))) .no (.tup (.cons (.bin .sub (.var 2) (.var 1)) (.cons (.var 3) .nil))) [2, 3]
def d_earlier_begins : Ev.Def := ⟨2, 4, [], (.ret (.call 0 (.cons (.frz c_earlier_begins_1) .nil)))⟩
def c_later_ends_1 : Ev.L := .comp (.tp [2, 3]) (.seq (.e (.call 0 (.cons (.var 0) .nil)))) .no (.tup (.cons (.var 2) (.cons (.bin .add (.var 3) (.var 1)) .nil))) [2, 3]
def d_later_ends : Ev.Def := ⟨2, 4, [], (.ret (.call 0 (.cons (.frz c_later_ends_1) .nil)))⟩
def c_earlier_ends_1 : Ev.L := .comp (.tp [2, 3]) (.seq (.e (.call 0 (.cons (.var 0) .nil)))) .no (.tup (.cons (.var 2) (.cons (.bin .sub (.var 3) (.var 1)) .nil))) [2, 3]
def d_earlier_ends : Ev.Def := ⟨2, 4, [], (.ret (.call 0 (.cons (.frz c_earlier_ends_1) .nil)))⟩
def c_later_begins_1 : Ev.L := .comp (.tp [2, 3]) (.seq (.e (.call 0 (.cons (.var 0) .nil)))) .no (.tup (.cons (.bin .add (.var 2) (.var 1)) (.cons (.var 3) .nil))) [2, 3]
def d_later_begins : Ev.Def := ⟨2, 4, [], (.ret (.call 0 (.cons (.frz c_later_begins_1) .nil)))⟩
def d_negated : Ev.Def := ⟨1, 1, [], (.ret (.tup (.cons (.frz (.lof (.e (.idx (.e (.var 0)) (.int 1))))) (.cons (.frz (.lof (.e (.idx (.e (.var 0)) (.int 0))))) .nil))))⟩
def d_both : Ev.Def := ⟨2, 2, [], (.ret (.tup (.cons (.call 0 (.cons (.call 1 (.cons (.idx (.e (.var 0)) (.int 0)) (.cons (.idx (.e (.var 1)) (.int 0)) .nil))) .nil)) (.cons (.call 0 (.cons (.frz (.cat (.e (.idx (.e (.var 0)) (.int 1))) (.e (.idx (.e (.var 1)) (.int 1))))) .nil)) .nil))))⟩
def d_either : Ev.Def := ⟨2, 2, [], (.ret (.call 6 (.cons (.call 7 (.cons (.call 6 (.cons (.var 0) .nil)) (.cons (.call 6 (.cons (.var 1) .nil)) .nil))) .nil)))⟩
def d_soon : Ev.Def := ⟨2, 2, [], (.ret (.tup (.cons (.call 2 (.cons (.idx (.e (.var 1)) (.int 0)) (.cons (.var 0) .nil))) (.cons (.call 4 (.cons (.idx (.e (.var 1)) (.int 1)) (.cons (.var 0) .nil))) .nil))))⟩
def d_ahead : Ev.Def := ⟨2, 2, [], (.ret (.call 6 (.cons (.call 9 (.cons (.var 0) (.cons (.call 6 (.cons (.var 1) .nil)) .nil))) .nil)))⟩
def d_lately : Ev.Def := ⟨2, 2, [], (.ret (.tup (.cons (.call 3 (.cons (.idx (.e (.var 1)) (.int 0)) (.cons (.var 0) .nil))) (.cons (.call 5 (.cons (.idx (.e (.var 1)) (.int 1)) (.cons (.var 0) .nil))) .nil))))⟩
def d_behind : Ev.Def := ⟨2, 2, [], (.ret (.call 6 (.cons (.call 11 (.cons (.var 0) (.cons (.call 6 (.cons (.var 1) .nil)) .nil))) .nil)))⟩
def l_until_yes_1 : Ev.S := .loop (.tp [6, 7]) (.seq (.e (.call 0 (.cons (.var 2) .nil)))) (.ite (.cmp .le (.e (.var 6)) (.e (.var 5))) (.app 3 (.tup (.cons (.max2 (.var 4) (.bin .sub (.var 6) (.var 0))) (.cons (.min2 (.var 5) (.var 7)) .nil)))) (.clr [])) [6, 7]
def l_until_yes_2 : Ev.S := .loop (.tp [4, 5]) (.seq (.e (.call 0 (.cons (.var 1) .nil)))) l_until_yes_1 [4, 5]
def d_until_yes : Ev.Def := ⟨3, 8, [], (.seq (.asgL 3 (.disp .nil))
    (.seq l_until_yes_2
    (.seq (.fz 3)
    (.ret (.call 0 (.cons (.var 3) .nil))))))⟩
def l_until_no_1 : Ev.S := .loop (.tp [6, 7]) (.seq (.e (.var 1))) (.ite (.cmp .le (.e (.max2 (.var 4) (.var 6))) (.e (.min2 (.var 5) (.var 7)))) (.app 3 (.tup (.cons (.var 4) (.cons (.min2 (.var 5) (.var 7)) .nil)))) (.clr [])) [6, 7]
def l_until_no_2 : Ev.S := .loop (.tp [4, 5]) (.seq (.e (.call 0 (.cons (.var 2) .nil)))) l_until_no_1 [4, 5]
def d_until_no : Ev.Def := ⟨3, 8, [], (.seq (.asgL 3 (.cat (.e (.var 1)) (.e (.call 4 (.cons (.var 2) (.cons (.var 0) .nil))))))
    (.seq l_until_no_2
    (.seq (.fz 3)
    (.ret (.call 0 (.cons (.var 3) .nil))))))⟩
def d_until : Ev.Def := ⟨3, 3, [], (.ret (.tup (.cons (.call 13 (.cons (.var 0) (.cons (.idx (.e (.var 1)) (.int 0)) (.cons (.idx (.e (.var 2)) (.int 0)) .nil)))) (.cons (.call 14 (.cons (.var 0) (.cons (.idx (.e (.var 1)) (.int 1)) (.cons (.idx (.e (.var 2)) (.int 1)) .nil)))) .nil))))⟩
def d__law_row : Ev.Def := ⟨2, 3, [], (.seq (.asg (.nm 2) (.int 0))
    (.seq (.ite (.cmp .lt (.e (.var 1)) (.e (.len (.e (.var 0))))) (.asg (.nm 2) (.toInt (.idx (.e (.var 0)) (.var 1)))) (.clr []))
    (.seq (.ite (.cmp .lt (.e (.var 2)) (.e (.int 0))) (.asg (.nm 2) (.bin .sub (.int 1) (.bin .mul (.int 2) (.var 2)))) (.clr []))
    (.seq (.ite (.cmp .lt (.e (.var 2)) (.e (.bin .pow (.int 10) (.int 9)))) (.seq (.asg (.nm 2) (.bin .mod (.toInt (.bin .add (.bin .mul (.bin .add (.var 2) (.int 1)) (.int 48271)) (.bin .mul (.bin .add (.var 1) (.int 1)) (.int 69621)))) (.int 2147483647)))
    (.asg (.nm 2) (.bin .add (.bin .mul (.bin .mod (.toInt (.bin .add (.bin .add (.bin .mul (.var 2) (.int 16807)) (.bin .mul (.var 1) (.int 40014))) (.int 11))) (.int 2147483399)) (.int 2147483029)) (.bin .mod (.toInt (.bin .mul (.var 2) (.var 2))) (.int 2147482951))))) (.clr []))
    (.ret (.var 2))))))⟩
def l__law_set_1 : Ev.S := .loop (.nm 7) (.rng1 (.var 6)) (.seq (.ite (.and (.cmp .lt (.e (.var 4)) (.e (.var 1))) (.tru (.e (.var 3)))) (.app 2 (.var 4)) (.clr []))
    (.aug 4 .add (.int 1))) [7]
def l__law_set_2 : Ev.S := .loop (.nm 5) (.rng1 (.var 1)) (.seq (.asg (.nm 6) (.bin .add (.int 1) (.bin .mod (.toInt (.var 0)) (.int 5))))
    (.seq (.asg (.nm 0) (.bin .add (.bin .fdiv (.var 0) (.int 5)) (.bin .mul (.var 5) (.int 31))))
    (.seq l__law_set_1
    (.asg (.nm 3) (.not (.var 3)))))) [5, 6]
def d__law_set : Ev.Def := ⟨2, 8, [], (.seq (.asgL 2 (.disp .nil))
    (.seq (.asg (.nm 3) (.cmp .eq (.e (.bin .mod (.toInt (.var 0)) (.int 2))) (.e (.int 1))))
    (.seq (.asg (.nm 0) (.bin .fdiv (.var 0) (.int 2)))
    (.seq (.asg (.nm 4) (.int 0))
    (.seq l__law_set_2
    (.retl 2))))))⟩
def l__law_told_1 : Ev.S := .loop (.nm 5) (.rng1 (.var 2)) (.seq (.asg (.nm 6) (.bin .mod (.toInt (.var 0)) (.int 4)))
    (.seq (.asg (.nm 0) (.bin .add (.bin .add (.bin .fdiv (.var 0) (.int 4)) (.bin .mul (.var 5) (.int 7919))) (.int 3)))
    (.seq (.ite (.cmp .gt (.e (.var 6)) (.e (.int 1))) (.ite (.cmp .inn (.e (.var 5)) (.e (.var 1))) (.app 3 (.tup (.cons (.var 5) (.cons (.var 5) .nil)))) (.app 4 (.tup (.cons (.var 5) (.cons (.var 5) .nil))))) (.clr []))
    (.ite (.and (.cmp .eq (.e (.var 6)) (.e (.int 3))) (.cmp .gt (.e (.len (.b 3))) (.e (.int 1)))) (.asgL 3 (.cat (.e (.frz (.slice (.b 3) (.yes (.int 1)) .no))) (.e (.frz (.slice (.b 3) .no (.yes (.int 1))))))) (.clr []))))) [5, 6]
def d__law_told : Ev.Def := ⟨3, 7, [], (.seq (.asgL 3 (.disp .nil))
    (.seq (.asgL 4 (.disp .nil))
    (.seq l__law_told_1
    (.seq (.fz 3)
    (.seq (.fz 4)
    (.ret (.tup (.cons (.var 3) (.cons (.var 4) .nil)))))))))⟩
def l__law_within_1 : Ev.S := .loop (.tp [2, 3]) (.seq (.e (.var 0))) (.ite (.chain .le .le (.var 2) (.var 1) (.var 3)) (.ret (.bl true)) (.clr [])) [2, 3]
def d__law_within : Ev.Def := ⟨2, 4, [], (.seq l__law_within_1
    (.ret (.bl false)))⟩
def l__law_right_1 : Ev.S := .loop (.nm 3) (.rng1 (.var 2)) (.seq (.ite (.and (.tru (.e (.call 19 (.cons (.idx (.e (.var 0)) (.int 0)) (.cons (.var 3) .nil))))) (.cmp .nin (.e (.var 3)) (.e (.var 1)))) (.ret (.bl false)) (.clr []))
    (.ite (.and (.tru (.e (.call 19 (.cons (.idx (.e (.var 0)) (.int 1)) (.cons (.var 3) .nil))))) (.cmp .inn (.e (.var 3)) (.e (.var 1)))) (.ret (.bl false)) (.clr []))) [3]
def d__law_right : Ev.Def := ⟨3, 4, [], (.seq l__law_right_1
    (.ret (.bl true)))⟩
def c__law_meaning_1 : Ev.L := .comp (.nm 9) (.seq (.e (.var 6))) (.yes (.cmp .inn (.e (.var 9)) (.e (.var 2)))) (.var 9) [9]
def c__law_meaning_2 : Ev.L := .comp (.nm 9) (.seq (.e (.var 6))) (.yes (.cmp .nin (.e (.var 9)) (.e (.var 2)))) (.var 9) [9]
def c__law_meaning_3 : Ev.L := .comp (.nm 9) (.seq (.e (.var 7))) (.yes (.cmp .inn (.e (.var 9)) (.e (.var 2)))) (.var 9) [9]
def c__law_meaning_4 : Ev.L := .comp (.nm 9) (.seq (.e (.var 7))) (.yes (.cmp .nin (.e (.var 9)) (.e (.var 2)))) (.var 9) [9]
def c__law_meaning_5 : Ev.L := .comp (.nm 10) (.rng2 (.var 5) (.bin .add (.var 9) (.int 1))) (.yes (.cmp .nin (.e (.var 10)) (.e (.var 2)))) (.var 10) [10]
def l__law_meaning_6 : Ev.S := .loop (.nm 9) (.seq (.e (.var 6))) (.ite (.and (.cmp .inn (.e (.var 9)) (.e (.var 3))) (.cmp .eq (.e (.frz c__law_meaning_5)) (.e (.frz (.disp .nil))))) (.asg (.nm 8) (.bl true)) (.clr [])) [9]
def l__law_meaning_7 : Ev.S := .loop (.nm 5) (.rng1 (.int 40)) (.seq (.asg (.nm 6) (.frz (.lrng (.var 5) (.bin .add (.bin .add (.var 5) (.var 1)) (.int 1)))))
    (.seq (.asg (.nm 7) (.frz (.lrng (.bin .sub (.var 5) (.var 1)) (.bin .add (.var 5) (.int 1)))))
    (.seq (.asg (.nm 8) (.bl false))
    (.seq (.ite (.cmp .eq (.e (.var 0)) (.e (.str [115, 111, 111, 110]))) (.asg (.nm 8) (.cmp .ne (.e (.frz c__law_meaning_1)) (.e (.frz (.disp .nil))))) (.clr []))
    (.seq (.ite (.cmp .eq (.e (.var 0)) (.e (.str [97, 104, 101, 97, 100]))) (.asg (.nm 8) (.cmp .eq (.e (.frz c__law_meaning_2)) (.e (.frz (.disp .nil))))) (.clr []))
    (.seq (.ite (.cmp .eq (.e (.var 0)) (.e (.str [108, 97, 116, 101, 108, 121]))) (.asg (.nm 8) (.cmp .ne (.e (.frz c__law_meaning_3)) (.e (.frz (.disp .nil))))) (.clr []))
    (.seq (.ite (.cmp .eq (.e (.var 0)) (.e (.str [98, 101, 104, 105, 110, 100]))) (.asg (.nm 8) (.cmp .eq (.e (.frz c__law_meaning_4)) (.e (.frz (.disp .nil))))) (.clr []))
    (.seq (.ite (.cmp .eq (.e (.var 0)) (.e (.str [117, 110, 116, 105, 108]))) l__law_meaning_6 (.clr []))
    (.ite (.tru (.e (.var 8))) (.app 4 (.var 5)) (.clr [])))))))))) [5, 6, 7, 8]
def d__law_meaning : Ev.Def := ⟨4, 11, [], (.seq (.asgL 4 (.disp .nil))
    (.seq l__law_meaning_7
    (.retl 4)))⟩
def c_law_1 : Ev.L := .comp (.nm 7) (.rng1 (.int 40)) (.yes (.cmp .nin (.e (.var 7)) (.e (.var 3)))) (.var 7) [7]
def c_law_2 : Ev.L := .comp (.nm 7) (.seq (.e (.var 3))) (.yes (.cmp .inn (.e (.var 7)) (.e (.var 4)))) (.var 7) [7]
def c_law_3 : Ev.L := .comp (.nm 7) (.seq (.e (.var 4))) (.yes (.cmp .nin (.e (.var 7)) (.e (.var 3)))) (.var 7) [7]
def c_law_4 : Ev.L := .comp (.nm 9) (.rng2 (.neg (.int 8)) (.int 0)) .no (.var 9) [9]
def c_law_5 : Ev.L := .comp (.nm 9) (.rng2 (.int 40) (.int 50)) .no (.var 9) [9]
def l_law_6 : Ev.S := .loop (.nm 12) (.seq (.e (.frz (.disp (.cons (.frz (.disp .nil)) (.cons (.var 10) .nil)))))) (.seq (.asg (.nm 13) (.call 21 (.cons (.str [117, 110, 116, 105, 108]) (.cons (.var 2) (.cons (.frz (.cat (.e (.var 3)) (.e (.var 11)))) (.cons (.frz (.cat (.e (.var 4)) (.e (.var 12)))) .nil))))))
    (.ite (.not (.tru (.e (.call 20 (.cons (.call 15 (.cons (.var 2) (.cons (.var 5) (.cons (.var 6) .nil)))) (.cons (.var 13) (.cons (.int 40) .nil))))))) (.ret (.bl false)) (.clr []))) [12, 13]
def l_law_7 : Ev.S := .loop (.nm 11) (.seq (.e (.frz (.disp (.cons (.frz (.disp .nil)) (.cons (.var 10) .nil)))))) (.seq (.ite (.not (.tru (.e (.call 20 (.cons (.call 9 (.cons (.var 2) (.cons (.var 5) .nil))) (.cons (.call 21 (.cons (.str [115, 111, 111, 110]) (.cons (.var 2) (.cons (.frz (.cat (.e (.var 3)) (.e (.var 11)))) (.cons (.frz (.disp .nil)) .nil))))) (.cons (.int 40) .nil))))))) (.ret (.bl false)) (.clr []))
    (.seq (.ite (.not (.tru (.e (.call 20 (.cons (.call 10 (.cons (.var 2) (.cons (.var 5) .nil))) (.cons (.call 21 (.cons (.str [97, 104, 101, 97, 100]) (.cons (.var 2) (.cons (.frz (.cat (.e (.var 3)) (.e (.var 11)))) (.cons (.frz (.disp .nil)) .nil))))) (.cons (.int 40) .nil))))))) (.ret (.bl false)) (.clr []))
    (.seq (.ite (.not (.tru (.e (.call 20 (.cons (.call 11 (.cons (.var 2) (.cons (.var 5) .nil))) (.cons (.call 21 (.cons (.str [108, 97, 116, 101, 108, 121]) (.cons (.var 2) (.cons (.frz (.cat (.e (.var 3)) (.e (.var 11)))) (.cons (.frz (.disp .nil)) .nil))))) (.cons (.int 40) .nil))))))) (.ret (.bl false)) (.clr []))
    (.seq (.ite (.not (.tru (.e (.call 20 (.cons (.call 12 (.cons (.var 2) (.cons (.var 5) .nil))) (.cons (.call 21 (.cons (.str [98, 101, 104, 105, 110, 100]) (.cons (.var 2) (.cons (.frz (.cat (.e (.var 3)) (.e (.var 11)))) (.cons (.frz (.disp .nil)) .nil))))) (.cons (.int 40) .nil))))))) (.ret (.bl false)) (.clr []))
    l_law_6)))) [11]
def d_law : Ev.Def := ⟨1, 14, [], (.seq (.asg (.nm 1) (.call 16 (.cons (.var 0) (.cons (.int 0) .nil))))
    (.seq (.asg (.nm 2) (.bin .mod (.var 1) (.int 7)))
    (.seq (.asg (.nm 3) (.call 17 (.cons (.call 16 (.cons (.var 0) (.cons (.int 1) .nil))) (.cons (.int 40) .nil))))
    (.seq (.asg (.nm 4) (.call 17 (.cons (.call 16 (.cons (.var 0) (.cons (.int 2) .nil))) (.cons (.int 40) .nil))))
    (.seq (.asg (.nm 5) (.call 18 (.cons (.call 16 (.cons (.var 0) (.cons (.int 3) .nil))) (.cons (.var 3) (.cons (.int 40) .nil)))))
    (.seq (.asg (.nm 6) (.call 18 (.cons (.call 16 (.cons (.var 0) (.cons (.int 4) .nil))) (.cons (.var 4) (.cons (.int 40) .nil)))))
    (.seq (.seq (.asgL 8 c_law_1) (.fz 8))
    (.seq (.ite (.not (.tru (.e (.call 20 (.cons (.call 6 (.cons (.var 5) .nil)) (.cons (.var 8) (.cons (.int 40) .nil))))))) (.ret (.bl false)) (.clr []))
    (.seq (.ite (.not (.tru (.e (.call 20 (.cons (.call 7 (.cons (.var 5) (.cons (.var 6) .nil))) (.cons (.frz c_law_2) (.cons (.int 40) .nil))))))) (.ret (.bl false)) (.clr []))
    (.seq (.ite (.not (.tru (.e (.call 20 (.cons (.call 8 (.cons (.var 5) (.cons (.var 6) .nil))) (.cons (.frz (.sorted (.e (.frz (.cat (.e (.var 3)) (.e (.frz c_law_3))))))) (.cons (.int 40) .nil))))))) (.ret (.bl false)) (.clr []))
    (.seq (.asg (.nm 10) (.frz (.cat (.e (.frz c_law_4)) (.e (.frz c_law_5)))))
    (.seq l_law_7
    (.ret (.bl true))))))))))))))⟩
def top (i : Nat) : Stmt := PySem.Challenge.pw_orrery_k77_conditions_over_time_are_righ.main.body.getD i (.Pass ⟨0, 0, 0, 0⟩)
def e_0 : Ent := ⟨⟨("joined", none), "joined", "joined", defArgs (top 1), defBody (top 1), defScope (top 1), [], []⟩, ["spans", "result", "span", "begin", "end"], ["spans"], d_joined⟩
def e_1 : Ent := ⟨⟨("common", none), "common", "common", defArgs (top 2), defBody (top 2), defScope (top 2), [], []⟩, ["first", "second", "result", "begin", "end", "other_begin", "other_end", "low", "high"], ["first", "second"], d_common⟩
def e_2 : Ent := ⟨⟨("earlier_begins", none), "earlier_begins", "earlier_begins", defArgs (top 3), defBody (top 3), defScope (top 3), [], []⟩, ["spans", "ticks", "begin", "end"], ["spans", "ticks"], d_earlier_begins⟩
def e_3 : Ent := ⟨⟨("later_ends", none), "later_ends", "later_ends", defArgs (top 4), defBody (top 4), defScope (top 4), [], []⟩, ["spans", "ticks", "begin", "end"], ["spans", "ticks"], d_later_ends⟩
def e_4 : Ent := ⟨⟨("earlier_ends", none), "earlier_ends", "earlier_ends", defArgs (top 5), defBody (top 5), defScope (top 5), [], []⟩, ["spans", "ticks", "begin", "end"], ["spans", "ticks"], d_earlier_ends⟩
def e_5 : Ent := ⟨⟨("later_begins", none), "later_begins", "later_begins", defArgs (top 6), defBody (top 6), defScope (top 6), [], []⟩, ["spans", "ticks", "begin", "end"], ["spans", "ticks"], d_later_begins⟩
def e_6 : Ent := ⟨⟨("negated", none), "negated", "negated", defArgs (top 7), defBody (top 7), defScope (top 7), [], []⟩, ["line"], ["line"], d_negated⟩
def e_7 : Ent := ⟨⟨("both", none), "both", "both", defArgs (top 8), defBody (top 8), defScope (top 8), [], []⟩, ["first", "second"], ["first", "second"], d_both⟩
def e_8 : Ent := ⟨⟨("either", none), "either", "either", defArgs (top 9), defBody (top 9), defScope (top 9), [], []⟩, ["first", "second"], ["first", "second"], d_either⟩
def e_9 : Ent := ⟨⟨("soon", none), "soon", "soon", defArgs (top 10), defBody (top 10), defScope (top 10), [], []⟩, ["ticks", "line"], ["ticks", "line"], d_soon⟩
def e_10 : Ent := ⟨⟨("ahead", none), "ahead", "ahead", defArgs (top 11), defBody (top 11), defScope (top 11), [], []⟩, ["ticks", "line"], ["ticks", "line"], d_ahead⟩
def e_11 : Ent := ⟨⟨("lately", none), "lately", "lately", defArgs (top 12), defBody (top 12), defScope (top 12), [], []⟩, ["ticks", "line"], ["ticks", "line"], d_lately⟩
def e_12 : Ent := ⟨⟨("behind", none), "behind", "behind", defArgs (top 13), defBody (top 13), defScope (top 13), [], []⟩, ["ticks", "line"], ["ticks", "line"], d_behind⟩
def e_13 : Ent := ⟨⟨("until_yes", none), "until_yes", "until_yes", defArgs (top 14), defBody (top 14), defScope (top 14), [], []⟩, ["ticks", "first", "second", "result", "begin", "end", "other_begin", "other_end"], ["ticks", "first", "second"], d_until_yes⟩
def e_14 : Ent := ⟨⟨("until_no", none), "until_no", "until_no", defArgs (top 15), defBody (top 15), defScope (top 15), [], []⟩, ["ticks", "first", "second", "result", "begin", "end", "other_begin", "other_end"], ["ticks", "first", "second"], d_until_no⟩
def e_15 : Ent := ⟨⟨("until", none), "until", "until", defArgs (top 16), defBody (top 16), defScope (top 16), [], []⟩, ["ticks", "first", "second"], ["ticks", "first", "second"], d_until⟩
def e_16 : Ent := ⟨⟨("_law_row", none), "_law_row", "_law_row", defArgs (top 18), defBody (top 18), defScope (top 18), [], []⟩, ["_law_script", "_law_k", "_law_row_here"], ["_law_script", "_law_k"], d__law_row⟩
def e_17 : Ent := ⟨⟨("_law_set", none), "_law_set", "_law_set", defArgs (top 19), defBody (top 19), defScope (top 19), [], []⟩, ["_law_row_here", "_law_size", "_law_ticks", "_law_inside", "_law_tick", "_law_k", "_law_run", "_law_j"], ["_law_row_here", "_law_size"], d__law_set⟩
def e_18 : Ent := ⟨⟨("_law_told", none), "_law_told", "_law_told", defArgs (top 20), defBody (top 20), defScope (top 20), [], []⟩, ["_law_row_here", "_law_ticks", "_law_size", "_law_yes", "_law_no", "_law_tick", "_law_kind"], ["_law_row_here", "_law_ticks", "_law_size"], d__law_told⟩
def e_19 : Ent := ⟨⟨("_law_within", none), "_law_within", "_law_within", defArgs (top 21), defBody (top 21), defScope (top 21), [], []⟩, ["_law_spans", "_law_tick", "_law_begin", "_law_end"], ["_law_spans", "_law_tick"], d__law_within⟩
def e_20 : Ent := ⟨⟨("_law_right", none), "_law_right", "_law_right", defArgs (top 22), defBody (top 22), defScope (top 22), [], []⟩, ["_law_line", "_law_ticks", "_law_size", "_law_tick"], ["_law_line", "_law_ticks", "_law_size"], d__law_right⟩
def e_21 : Ent := ⟨⟨("_law_meaning", none), "_law_meaning", "_law_meaning", defArgs (top 23), defBody (top 23), defScope (top 23), [], []⟩, ["_law_word", "_law_d", "_law_first", "_law_second", "_law_result", "_law_tick", "_law_near", "_law_past", "_law_good", "_law_each", "_law_k"], ["_law_word", "_law_d", "_law_first", "_law_second"], d__law_meaning⟩
def e_22 : Ent := ⟨⟨("law", none), "law", "law", defArgs (top 24), defBody (top 24), defScope (top 24), [], []⟩, ["_law_script", "_law_row_here", "_law_d", "_law_first", "_law_second", "_law_one", "_law_other", "_law_tick", "_law_rest", "_law_k", "_law_around", "_law_more", "_law_later", "_law_meant"], ["_law_script"], d_law⟩
def tabs : Tabs where
  ents := [e_0, e_1, e_2, e_3, e_4, e_5, e_6, e_7, e_8, e_9, e_10, e_11, e_12, e_13, e_14, e_15, e_16, e_17, e_18, e_19, e_20, e_21, e_22]
  clss := []
  flds := []
  init := []
  cflds := []
  mcls := []
  csts := []
theorem tabs_ok : tabs.ok = true := by decide +kernel
theorem binds : BindAll tabs.ents := ⟨fun _ _ _ _ _ _ us hl => match us, hl with | [_], _ => rfl, fun _ _ _ _ _ _ us hl => match us, hl with | [_, _], _ => rfl, fun _ _ _ _ _ _ us hl => match us, hl with | [_, _], _ => rfl, fun _ _ _ _ _ _ us hl => match us, hl with | [_, _], _ => rfl, fun _ _ _ _ _ _ us hl => match us, hl with | [_, _], _ => rfl, fun _ _ _ _ _ _ us hl => match us, hl with | [_, _], _ => rfl, fun _ _ _ _ _ _ us hl => match us, hl with | [_], _ => rfl, fun _ _ _ _ _ _ us hl => match us, hl with | [_, _], _ => rfl, fun _ _ _ _ _ _ us hl => match us, hl with | [_, _], _ => rfl, fun _ _ _ _ _ _ us hl => match us, hl with | [_, _], _ => rfl, fun _ _ _ _ _ _ us hl => match us, hl with | [_, _], _ => rfl, fun _ _ _ _ _ _ us hl => match us, hl with | [_, _], _ => rfl, fun _ _ _ _ _ _ us hl => match us, hl with | [_, _], _ => rfl, fun _ _ _ _ _ _ us hl => match us, hl with | [_, _, _], _ => rfl, fun _ _ _ _ _ _ us hl => match us, hl with | [_, _, _], _ => rfl, fun _ _ _ _ _ _ us hl => match us, hl with | [_, _, _], _ => rfl, fun _ _ _ _ _ _ us hl => match us, hl with | [_, _], _ => rfl, fun _ _ _ _ _ _ us hl => match us, hl with | [_, _], _ => rfl, fun _ _ _ _ _ _ us hl => match us, hl with | [_, _, _], _ => rfl, fun _ _ _ _ _ _ us hl => match us, hl with | [_, _], _ => rfl, fun _ _ _ _ _ _ us hl => match us, hl with | [_, _, _], _ => rfl, fun _ _ _ _ _ _ us hl => match us, hl with | [_, _, _, _], _ => rfl, fun _ _ _ _ _ _ us hl => match us, hl with | [_], _ => rfl, trivial⟩
/-! ### the head -/
def names0 : List Str := ["joined", "common", "earlier_begins", "later_ends", "earlier_ends", "later_begins", "negated", "both", "either", "soon", "ahead", "lately", "behind", "until_yes", "until_no", "until", "_law_row", "_law_set", "_law_told", "_law_within", "_law_right", "_law_meaning"]
def names : List Str := names0
abbrev R : PySem.W.OpenRow := PySem.W.OpenLaw.row PySem.Challenge.rw_orrery_k77_conditions_over_time_are_righ
abbrev hk : PySem.W.Hook := He.hookD 4 tabs.facts (tabs.ents.map (·.dd))
def ob (s : PySem.W.SharedT) : He.AlD := He.obsDG 4 tabs.facts (tabs.ents.map (·.dd)) (HandSHeadRun.getT s)
theorem ob_eq (s : PySem.W.SharedT) : ob s = hk.obs s.abs := He.obsDG_eq (HandSHeadRun.getT_eq s)
theorem run (w : World) : HandSHeadRun.RunEq R (PySem.W.view R.prog [24]) hk ob 4000 names w := by
  intro os
  kernel_rfl
end K77

set_option linter.all false
set_option maxRecDepth 100000
namespace K77
open Ev Sp SpE S77 Dr
section
variable (F : Fns)
section
variable (hj : ∀ (xs : List Pr) (S : Sto), xs.length < line → F.call 0 [.lst (xs.map pairD)] S = .ok (.l ((joined xs).map pairD)) S)
include hj
theorem ev_shift (d : Def) (c : L) (a b : Int) (k : Int) (hd : d = ⟨2, 4, [], .ret (.call 0 (.cons (.frz c) .nil))⟩)
    (hc : ∀ (xs : List Pr) (S : Sto), xs.length < line → evL F c [some (.v (.lst (xs.map pairD))), some (.v (.int k)), none, none] S = .ok ((sh a b (joined xs)).map pairD) S) (xs : List Pr) (S : Sto) (hl : xs.length < line) :
    callD F d [.lst (xs.map pairD), .int k] S = .ok (.v (.lst ((joined (sh a b (joined xs))).map pairD))) S := by
  subst hd
  have h2 : (sh a b (joined xs)).length < line := by
    unfold sh
    have := joined_len xs
    simp
    omega
  simp -implicitDefEqProofs [evE, evB, evEs, evOe, evT, evL, evIt, evOt, evS, binV, cmpV, setTg, fill, itOk, callD, envOf, hc xs S hl, hj _ S h2, Ret.d]
theorem comp_shift (e1 e2 : E) (a b k : Int) (xs : List Pr) (S : Sto) (hl : xs.length < line)
    (h : ∀ (x y : Int) (ρ : Env), ρ = [some (.v (.lst (xs.map pairD))), some (.v (.int k)), some (.v (.int x)), some (.v (.int y))] → evE F e1 ρ S = .ok (.int (x + a)) S ∧ evE F e2 ρ S = .ok (.int (y + b)) S) :
    evL F (.comp (.tp [2, 3]) (.seq (.e (.call 0 (.cons (.var 0) .nil)))) .no (.tup (.cons e1 (.cons e2 .nil))) [2, 3]) [some (.v (.lst (xs.map pairD))), some (.v (.int k)), none, none] S = .ok ((sh a b (joined xs)).map pairD) S := by
  simp -implicitDefEqProofs [evE, evB, evEs, evOe, evT, evL, evIt, evOt, evS, binV, cmpV, setTg, fill, itOk, hj xs S hl, Ret.d]
  rw [compL_map pairD pairD (fun p : Pr => some (p.1 + a, p.2 + b)) (joined xs) [] (fun x _ => ?_) (by have := joined_len xs; simp; omega)]
  · unfold sh
    simp
  · obtain ⟨h1, h2⟩ := h x.1 x.2 _ rfl
    simp -implicitDefEqProofs [evE, evB, evEs, evOe, evT, evL, evIt, evOt, evS, binV, cmpV, setTg, fill, itOk, pairD, h1, h2]
theorem ev_eb (xs : List Pr) (k : Int) (S : Sto) (hl : xs.length < line) : callD F d_earlier_begins [.lst (xs.map pairD), .int k] S = .ok (.v (.lst ((joined (sh (-k) 0 (joined xs))).map pairD))) S :=
  ev_shift F hj _ c_earlier_begins_1 _ _ _ rfl (fun xs S hl => comp_shift F hj _ _ _ _ _ xs S hl fun x y ρ h => by subst h; simp -implicitDefEqProofs [evE, evB, evEs, evOe, evT, evL, evIt, evOt, evS, binV, cmpV, setTg, fill, itOk]; rfl) xs S hl
theorem ev_le (xs : List Pr) (k : Int) (S : Sto) (hl : xs.length < line) : callD F d_later_ends [.lst (xs.map pairD), .int k] S = .ok (.v (.lst ((joined (sh 0 k (joined xs))).map pairD))) S :=
  ev_shift F hj _ c_later_ends_1 _ _ _ rfl (fun xs S hl => comp_shift F hj _ _ _ _ _ xs S hl fun x y ρ h => by subst h; simp -implicitDefEqProofs [evE, evB, evEs, evOe, evT, evL, evIt, evOt, evS, binV, cmpV, setTg, fill, itOk]) xs S hl
theorem ev_ee (xs : List Pr) (k : Int) (S : Sto) (hl : xs.length < line) : callD F d_earlier_ends [.lst (xs.map pairD), .int k] S = .ok (.v (.lst ((joined (sh 0 (-k) (joined xs))).map pairD))) S :=
  ev_shift F hj _ c_earlier_ends_1 _ _ _ rfl (fun xs S hl => comp_shift F hj _ _ _ _ _ xs S hl fun x y ρ h => by subst h; simp -implicitDefEqProofs [evE, evB, evEs, evOe, evT, evL, evIt, evOt, evS, binV, cmpV, setTg, fill, itOk]; rfl) xs S hl
theorem ev_lb (xs : List Pr) (k : Int) (S : Sto) (hl : xs.length < line) : callD F d_later_begins [.lst (xs.map pairD), .int k] S = .ok (.v (.lst ((joined (sh k 0 (joined xs))).map pairD))) S :=
  ev_shift F hj _ c_later_begins_1 _ _ _ rfl (fun xs S hl => comp_shift F hj _ _ _ _ _ xs S hl fun x y ρ h => by subst h; simp -implicitDefEqProofs [evE, evB, evEs, evOe, evT, evL, evIt, evOt, evS, binV, cmpV, setTg, fill, itOk]) xs S hl
end

/-- a line -/
def ln (a b : List Pr) : D := .tup [.lst (a.map pairD), .lst (b.map pairD)]
theorem ev_negated (a b : List Pr) (S : Sto) : callD F d_negated [ln a b] S = .ok (.v (ln b a)) S := by
  simp -implicitDefEqProofs [evE, evB, evEs, evOe, evT, evL, evIt, evOt, evS, binV, cmpV, setTg, fill, itOk, callD, d_negated, envOf, ln]
section
variable (S : Sto) (h0 : ∀ xs : List Pr, xs.length < line → F.call 0 [.lst (xs.map pairD)] S = .ok (.l ((joined xs).map pairD)) S)
include h0
theorem ev_both (h1 : ∀ (xs ys : List Pr), xs.length * ys.length < line → F.call 1 [.lst (xs.map pairD), .lst (ys.map pairD)] S = .ok (.l ((common xs ys).map pairD)) S) (a b c d : List Pr) (ha : a.length < 1000) (hb : b.length < 1000) (hc : c.length < 1000) (hd : d.length < 1000) :
    callD F d_both [ln a b, ln c d] S = .ok (.v (ln (joined (common a c)) (joined (b ++ d)))) S := by
  have hm : a.length * c.length ≤ 1000 * 1000 := Nat.mul_le_mul (by omega) (by omega)
  have e1 := h1 a c (by unfold line; omega)
  have e2 := h0 (common a c) (by have := common_len a c; unfold line; omega)
  have e3 := h0 (b ++ d) (by rw [List.length_append]; unfold line; omega)
  rw [List.map_append] at e3
  have e4 : b.length + d.length ≤ line := by unfold line; omega
  simp -implicitDefEqProofs [evE, evB, evEs, evOe, evT, evL, evIt, evOt, evS, binV, cmpV, setTg, fill, itOk, callD, d_both, envOf, ln, e1, e2, e3, e4, Ret.d]
omit h0 in
theorem uy_len (d : Int) (p : Pr) (acc : List Pr) (q : Pr) : (uy d p acc q).length ≤ acc.length + 1 := by
  unfold uy
  split <;> simp
omit h0 in
theorem un_len (p : Pr) (acc : List Pr) (q : Pr) : (un p acc q).length ≤ acc.length + 1 := by
  unfold un
  split <;> simp
omit h0 in
theorem fold_len {f : List Pr → Pr → List Pr} {n : Nat} (h : ∀ acc q, (f acc q).length ≤ acc.length + n) : ∀ (qs acc : List Pr), (qs.foldl f acc).length ≤ acc.length + qs.length * n
  | [], acc => by simp
  | q :: qs, acc => by
    rw [List.foldl_cons, List.length_cons, Nat.succ_mul]
    have h1 := fold_len h qs (f acc q)
    have h2 := h acc q
    omega
theorem ev_until_yes (d : Int) (xs ys : List Pr) (hx : xs.length < 1000) (hy : ys.length < 1000) : callD F d_until_yes [.int d, .lst (xs.map pairD), .lst (ys.map pairD)] S = .ok (.v (.lst ((joined (untilY d xs ys)).map pairD))) S := by
  have e1 := h0 xs (by unfold line; omega)
  have e2 := h0 ys (by unfold line; omega)
  have lx := joined_len xs
  have ly := joined_len ys
  have inner : ∀ (p : Pr) (acc : List Pr), acc.length + (joined ys).length < line → evS F l_until_yes_1 [some (.v (.int d)), some (.v (.lst (xs.map pairD))), some (.v (.lst (ys.map pairD))), some (.l (acc.map pairD)), some (.v (.int p.1)), some (.v (.int p.2)), none, none] S =
      .next [some (.v (.int d)), some (.v (.lst (xs.map pairD))), some (.v (.lst (ys.map pairD))), some (.l (((joined ys).foldl (uy d p) acc).map pairD)), some (.v (.int p.1)), some (.v (.int p.2)), none, none] S := by
    intro p acc ha
    unfold l_until_yes_1
    rw [loop_of (S1 := S) (xs := (joined ys).map pairD) (by simp -implicitDefEqProofs [evE, evB, evEs, evOe, evT, evL, evIt, evOt, evS, binV, cmpV, setTg, fill, itOk, e2, Ret.d])]
    refine forL_fold (fun acc : List Pr => [some (.v (.int d)), some (.v (.lst (xs.map pairD))), some (.v (.lst (ys.map pairD))), some (.l (acc.map pairD)), some (.v (.int p.1)), some (.v (.int p.2)), none, none]) pairD (uy d p) (fun a qs => a.length + qs.length < line) (fun a q qs K hp => ?_) _ acc ha
    rw [List.length_cons] at hp
    have hle : a.length < line := by omega
    have h2 := uy_len d p a q
    refine ⟨by omega, ?_⟩
    by_cases c : q.1 ≤ p.2
    · simp -implicitDefEqProofs [evE, evB, evEs, evOe, evT, evL, evIt, evOt, evS, binV, cmpV, setTg, fill, itOk, pairD, uy, mx, mn, hle, c]
    · simp -implicitDefEqProofs [evE, evB, evEs, evOe, evT, evL, evIt, evOt, evS, binV, cmpV, setTg, fill, itOk, pairD, uy, mx, mn, c]
  have hm : (joined xs).length * (joined ys).length ≤ 1000 * 1000 := Nat.mul_le_mul (by omega) (by omega)
  have loop : evS F l_until_yes_2 [some (.v (.int d)), some (.v (.lst (xs.map pairD))), some (.v (.lst (ys.map pairD))), some (.l []), none, none, none, none] S =
      .next [some (.v (.int d)), some (.v (.lst (xs.map pairD))), some (.v (.lst (ys.map pairD))), some (.l ((untilY d xs ys).map pairD)), none, none, none, none] S := by
    unfold l_until_yes_2
    rw [loop_of (S1 := S) (xs := (joined xs).map pairD) (by simp -implicitDefEqProofs [evE, evB, evEs, evOe, evT, evL, evIt, evOt, evS, binV, cmpV, setTg, fill, itOk, e1, Ret.d])]
    refine forL_fold (fun acc : List Pr => [some (.v (.int d)), some (.v (.lst (xs.map pairD))), some (.v (.lst (ys.map pairD))), some (.l (acc.map pairD)), none, none, none, none]) pairD (fun acc p => (joined ys).foldl (uy d p) acc) (fun a ps => a.length + ps.length * (joined ys).length < line) (fun a p ps K hp => ?_) _ [] (by unfold line; simp; omega)
    rw [List.length_cons, Nat.succ_mul] at hp
    have hin := inner p a (by omega)
    have hl2 := fold_len (n := 1) (uy_len d p) (joined ys) a
    refine ⟨by omega, ?_⟩
    simp -implicitDefEqProofs [evE, evB, evEs, evOe, evT, evL, evIt, evOt, evS, binV, cmpV, setTg, fill, itOk, pairD, hin]
  have hl : (untilY d xs ys).length ≤ 0 + (joined xs).length * (joined ys).length := fold_len (fun acc p => by have := fold_len (n := 1) (uy_len d p) (joined ys) acc; omega) (joined xs) []
  have e3 := h0 (untilY d xs ys) (by unfold line; omega)
  simp -implicitDefEqProofs [evE, evB, evEs, evOe, evT, evL, evIt, evOt, evS, binV, cmpV, setTg, fill, itOk, callD, d_until_yes, envOf, loop, e3, Ret.d]
theorem ev_until_no (d : Int) (xs ys zs : List Pr) (hx : xs.length < 1000) (hy : ys.length < 1000) (hz : zs.length < 1000) (h4 : F.call 4 [.lst (ys.map pairD), .int d] S = .ok (.v (.lst (zs.map pairD))) S) : callD F d_until_no [.int d, .lst (xs.map pairD), .lst (ys.map pairD)] S = .ok (.v (.lst ((joined (untilN (xs ++ zs) xs ys)).map pairD))) S := by
  have e2 := h0 ys (by unfold line; omega)
  have ly := joined_len ys
  have inner : ∀ (p : Pr) (acc : List Pr), acc.length + xs.length < line → evS F l_until_no_1 [some (.v (.int d)), some (.v (.lst (xs.map pairD))), some (.v (.lst (ys.map pairD))), some (.l (acc.map pairD)), some (.v (.int p.1)), some (.v (.int p.2)), none, none] S =
      .next [some (.v (.int d)), some (.v (.lst (xs.map pairD))), some (.v (.lst (ys.map pairD))), some (.l ((xs.foldl (un p) acc).map pairD)), some (.v (.int p.1)), some (.v (.int p.2)), none, none] S := by
    intro p acc ha
    unfold l_until_no_1
    rw [loop_of (S1 := S) (xs := xs.map pairD) (by simp -implicitDefEqProofs [evE, evB, evEs, evOe, evT, evL, evIt, evOt, evS, binV, cmpV, setTg, fill, itOk])]
    refine forL_fold (fun acc : List Pr => [some (.v (.int d)), some (.v (.lst (xs.map pairD))), some (.v (.lst (ys.map pairD))), some (.l (acc.map pairD)), some (.v (.int p.1)), some (.v (.int p.2)), none, none]) pairD (un p) (fun a qs => a.length + qs.length < line) (fun a q qs K hp => ?_) _ acc ha
    rw [List.length_cons] at hp
    have hle : a.length < line := by omega
    have h2 := un_len p a q
    refine ⟨by omega, ?_⟩
    by_cases c : (if q.1 > p.1 then q.1 else p.1) ≤ (if q.2 < p.2 then q.2 else p.2)
    · simp -implicitDefEqProofs [evE, evB, evEs, evOe, evT, evL, evIt, evOt, evS, binV, cmpV, setTg, fill, itOk, pairD, un, mx, mn, hle, c]
    · simp -implicitDefEqProofs [evE, evB, evEs, evOe, evT, evL, evIt, evOt, evS, binV, cmpV, setTg, fill, itOk, pairD, un, mx, mn, c]
  have hm : (joined ys).length * xs.length ≤ 1000 * 1000 := Nat.mul_le_mul (by omega) (by omega)
  have hcat : xs.length + zs.length ≤ line := by unfold line; omega
  have loop : evS F l_until_no_2 [some (.v (.int d)), some (.v (.lst (xs.map pairD))), some (.v (.lst (ys.map pairD))), some (.l ((xs ++ zs).map pairD)), none, none, none, none] S =
      .next [some (.v (.int d)), some (.v (.lst (xs.map pairD))), some (.v (.lst (ys.map pairD))), some (.l ((untilN (xs ++ zs) xs ys).map pairD)), none, none, none, none] S := by
    unfold l_until_no_2
    rw [loop_of (S1 := S) (xs := (joined ys).map pairD) (by simp -implicitDefEqProofs [evE, evB, evEs, evOe, evT, evL, evIt, evOt, evS, binV, cmpV, setTg, fill, itOk, e2, Ret.d])]
    refine forL_fold (fun acc : List Pr => [some (.v (.int d)), some (.v (.lst (xs.map pairD))), some (.v (.lst (ys.map pairD))), some (.l (acc.map pairD)), none, none, none, none]) pairD (fun acc p => xs.foldl (un p) acc) (fun a ps => a.length + ps.length * xs.length < line) (fun a p ps K hp => ?_) _ (xs ++ zs) (by unfold line; rw [List.length_append]; omega)
    rw [List.length_cons, Nat.succ_mul] at hp
    have hin := inner p a (by omega)
    have hl2 := fold_len (n := 1) (un_len p) xs a
    refine ⟨by omega, ?_⟩
    simp -implicitDefEqProofs [evE, evB, evEs, evOe, evT, evL, evIt, evOt, evS, binV, cmpV, setTg, fill, itOk, pairD, hin]
  have hl : (untilN (xs ++ zs) xs ys).length ≤ (xs ++ zs).length + (joined ys).length * xs.length := fold_len (fun acc p => by have := fold_len (n := 1) (un_len p) xs acc; omega) (joined ys) (xs ++ zs)
  rw [List.length_append] at hl
  have e3 := h0 (untilN (xs ++ zs) xs ys) (by unfold line; omega)
  rw [List.map_append] at loop
  simp -implicitDefEqProofs [evE, evB, evEs, evOe, evT, evL, evIt, evOt, evS, binV, cmpV, setTg, fill, itOk, callD, d_until_no, envOf, h4, hcat, loop, e3, Ret.d]
end
/-! ### right -/
theorem ev_right (S : Sto) (h19 : ∀ (xs : List Pr) (t : Int), F.call 19 [.lst (xs.map pairD), .int t] S = .ok (.v (.bl (within xs t))) S) (a b : List Pr) (M : List Int)
    (ok : ∀ t, 0 ≤ t → t < 40 → (within a t = true → t ∈ M) ∧ (within b t = true → t ∉ M)) : callD F d__law_right [ln a b, .lst (M.map .int), .int 40] S = .ok (.v (.bl true)) S := by
  have loop : evS F l__law_right_1 [some (.v (ln a b)), some (.v (.lst (M.map .int))), some (.v (.int 40)), none] S = .next [some (.v (ln a b)), some (.v (.lst (M.map .int))), some (.v (.int 40)), none] S := by
    unfold l__law_right_1
    rw [loop_of (S1 := S) (xs := (rng 40).map D.int) (by simp -implicitDefEqProofs [evE, evB, evEs, evOe, evT, evL, evIt, evOt, evS, binV, cmpV, setTg, fill, itOk, small_of (i := 40) (by omega) (by omega), rangeL_map, rng])]
    refine forL_same D.int _ fun t ht K => ?_
    have hb : 0 ≤ t ∧ t < 40 := by
      unfold rng at ht
      obtain ⟨k, hk, rfl⟩ := List.mem_map.mp ht
      have : k < 40 := List.mem_range.mp hk
      omega
    obtain ⟨o1, o2⟩ := ok t hb.1 hb.2
    have e1 := h19 a t
    have e2 := h19 b t
    by_cases c : t ∈ M
    · have cb : within b t = false := by
        rw [Bool.eq_false_iff]
        exact fun z => o2 z c
      rw [cb] at e2
      cases ca : within a t <;> rw [ca] at e1 <;> simp -implicitDefEqProofs [evE, evB, evEs, evOe, evT, evL, evIt, evOt, evS, binV, cmpV, setTg, fill, itOk, ln, e1, e2, inV_ints, c, Ret.d]
    · have ca : within a t = false := by
        rw [Bool.eq_false_iff]
        exact fun z => c (o1 z)
      rw [ca] at e1
      cases cb : within b t <;> rw [cb] at e2 <;> simp -implicitDefEqProofs [evE, evB, evEs, evOe, evT, evL, evIt, evOt, evS, binV, cmpV, setTg, fill, itOk, ln, e1, e2, inV_ints, c, Ret.d]
  simp -implicitDefEqProofs [evE, evB, evEs, evOe, evT, evL, evIt, evOt, evS, binV, cmpV, setTg, fill, itOk, callD, d__law_right, envOf, loop]
end
section
variable (F : Fns) (S : Sto)
/-! ### meaning -/
theorem ev_m1 (A xs : List Int) (hl : xs.length < 1000) (r0 r1 r3 r4 r5 r7 r8 r9 r10 : Option Sl) : evL F c__law_meaning_1 [r0, r1, some (.v (.lst (A.map .int))), r3, r4, r5, some (.v (.lst (xs.map .int))), r7, r8, r9, r10] S = .ok ((xs.filter fun t => decide (t ∈ A)).map .int) S := by
  unfold c__law_meaning_1
  simp -implicitDefEqProofs [evE, evB, evEs, evOe, evT, evL, evIt, evOt, evS, binV, cmpV, setTg, fill, itOk]
  rw [compL_map D.int D.int (fun t => if decide (t ∈ A) = true then some t else none) xs [] (fun t _ => ?_) (by simp; unfold line; omega), filterMap_if]
  · simp
  · by_cases c : t ∈ A <;> simp -implicitDefEqProofs [evE, evB, evEs, evOe, evT, evL, evIt, evOt, evS, binV, cmpV, setTg, fill, itOk, inV_ints, c]
theorem ev_m2 (A xs : List Int) (hl : xs.length < 1000) (r0 r1 r3 r4 r5 r7 r8 r9 r10 : Option Sl) : evL F c__law_meaning_2 [r0, r1, some (.v (.lst (A.map .int))), r3, r4, r5, some (.v (.lst (xs.map .int))), r7, r8, r9, r10] S = .ok ((xs.filter fun t => !decide (t ∈ A)).map .int) S := by
  unfold c__law_meaning_2
  simp -implicitDefEqProofs [evE, evB, evEs, evOe, evT, evL, evIt, evOt, evS, binV, cmpV, setTg, fill, itOk]
  rw [compL_map D.int D.int (fun t => if (!decide (t ∈ A)) = true then some t else none) xs [] (fun t _ => ?_) (by simp; unfold line; omega), filterMap_if]
  · simp
  · by_cases c : t ∈ A <;> simp -implicitDefEqProofs [evE, evB, evEs, evOe, evT, evL, evIt, evOt, evS, binV, cmpV, setTg, fill, itOk, inV_ints, c]
theorem ev_m3 (A xs : List Int) (hl : xs.length < 1000) (r0 r1 r3 r4 r5 r6 r8 r9 r10 : Option Sl) : evL F c__law_meaning_3 [r0, r1, some (.v (.lst (A.map .int))), r3, r4, r5, r6, some (.v (.lst (xs.map .int))), r8, r9, r10] S = .ok ((xs.filter fun t => decide (t ∈ A)).map .int) S := by
  unfold c__law_meaning_3
  simp -implicitDefEqProofs [evE, evB, evEs, evOe, evT, evL, evIt, evOt, evS, binV, cmpV, setTg, fill, itOk]
  rw [compL_map D.int D.int (fun t => if decide (t ∈ A) = true then some t else none) xs [] (fun t _ => ?_) (by simp; unfold line; omega), filterMap_if]
  · simp
  · by_cases c : t ∈ A <;> simp -implicitDefEqProofs [evE, evB, evEs, evOe, evT, evL, evIt, evOt, evS, binV, cmpV, setTg, fill, itOk, inV_ints, c]
theorem ev_m4 (A xs : List Int) (hl : xs.length < 1000) (r0 r1 r3 r4 r5 r6 r8 r9 r10 : Option Sl) : evL F c__law_meaning_4 [r0, r1, some (.v (.lst (A.map .int))), r3, r4, r5, r6, some (.v (.lst (xs.map .int))), r8, r9, r10] S = .ok ((xs.filter fun t => !decide (t ∈ A)).map .int) S := by
  unfold c__law_meaning_4
  simp -implicitDefEqProofs [evE, evB, evEs, evOe, evT, evL, evIt, evOt, evS, binV, cmpV, setTg, fill, itOk]
  rw [compL_map D.int D.int (fun t => if (!decide (t ∈ A)) = true then some t else none) xs [] (fun t _ => ?_) (by simp; unfold line; omega), filterMap_if]
  · simp
  · by_cases c : t ∈ A <;> simp -implicitDefEqProofs [evE, evB, evEs, evOe, evT, evL, evIt, evOt, evS, binV, cmpV, setTg, fill, itOk, inV_ints, c]
theorem ev_m5 (A : List Int) (t u : Int) (h1 : 0 ≤ t) (h2 : t < 100) (h3 : t ≤ u) (h4 : u < 200) (r0 r1 r3 r4 r6 r7 r8 r10 : Option Sl) : evL F c__law_meaning_5 [r0, r1, some (.v (.lst (A.map .int))), r3, r4, some (.v (.int t)), r6, r7, r8, some (.v (.int u)), r10] S = .ok (((ticks t u).filter fun t => !decide (t ∈ A)).map .int) S := by
  unfold c__law_meaning_5
  have s1 : small t = true := small_of (by omega) (by omega)
  have s2 : small (u + 1) = true := small_of (by omega) (by omega)
  simp -implicitDefEqProofs [evE, evB, evEs, evOe, evT, evL, evIt, evOt, evS, binV, cmpV, setTg, fill, itOk, s1, s2]
  rw [rangeL_map, compL_map D.int D.int (fun t => if (!decide (t ∈ A)) = true then some t else none) _ [] (fun t _ => ?_) (by simp; unfold line; omega), filterMap_if]
  · simp; rfl
  · by_cases c : t ∈ A <;> simp -implicitDefEqProofs [evE, evB, evEs, evOe, evT, evL, evIt, evOt, evS, binV, cmpV, setTg, fill, itOk, inV_ints, c]
/-- the ends of until -/
def hit (A B : List Int) (t u : Int) : Bool := decide (u ∈ B) && ((ticks t u).filter fun k => !decide (k ∈ A)).isEmpty
theorem ev_m6 (A B : List Int) (t d : Int) (h1 : 0 ≤ t) (h2 : t < 50) (h3 : 0 ≤ d) (h4 : d < 50) (r0 r1 r4 r7 r10 : Option Sl) (h10 : r10 = none) :
    evS F l__law_meaning_6 [r0, r1, some (.v (.lst (A.map .int))), some (.v (.lst (B.map .int))), r4, some (.v (.int t)), some (.v (.lst ((ticks t (t + d)).map .int))), r7, some (.v (.bl false)), none, r10] S =
    .next [r0, r1, some (.v (.lst (A.map .int))), some (.v (.lst (B.map .int))), r4, some (.v (.int t)), some (.v (.lst ((ticks t (t + d)).map .int))), r7, some (.v (.bl ((ticks t (t + d)).foldl (fun g u => g || hit A B t u) false))), none, r10] S := by
  subst h10
  unfold l__law_meaning_6
  rw [loop_of (S1 := S) (xs := (ticks t (t + d)).map .int) (by simp -implicitDefEqProofs [evE, evB, evEs, evOe, evT, evL, evIt, evOt, evS, binV, cmpV, setTg, fill, itOk])]
  refine forL_fold (fun g : Bool => [r0, r1, some (.v (.lst (A.map .int))), some (.v (.lst (B.map .int))), r4, some (.v (.int t)), some (.v (.lst ((ticks t (t + d)).map .int))), r7, some (.v (.bl g)), none, none]) D.int (fun g u => g || hit A B t u) (fun _ us => ∀ u ∈ us, t ≤ u ∧ u < 200) (fun g u us K hp => ?_) _ false (fun u hu => by have := mem_ticks.mp hu; omega)
  have hu := hp u List.mem_cons_self
  refine ⟨fun v hv => hp v (List.mem_cons_of_mem _ hv), ?_⟩
  have e5 := fun r0 r1 r3 r4 r6 r7 r8 r10 => ev_m5 F S A t u h1 (by omega) hu.1 hu.2 r0 r1 r3 r4 r6 r7 r8 r10
  by_cases c1 : u ∈ B
  · cases c2 : ((ticks t u).filter fun k => !decide (k ∈ A)).isEmpty
    · simp -implicitDefEqProofs [evE, evB, evEs, evOe, evT, evL, evIt, evOt, evS, binV, cmpV, setTg, fill, itOk, inV_ints, c1, e5, eqV_lin, c2, hit]
    · simp -implicitDefEqProofs [evE, evB, evEs, evOe, evT, evL, evIt, evOt, evS, binV, cmpV, setTg, fill, itOk, inV_ints, c1, e5, eqV_lin, c2, hit]
  · simp -implicitDefEqProofs [evE, evB, evEs, evOe, evT, evL, evIt, evOt, evS, binV, cmpV, setTg, fill, itOk, inV_ints, c1, hit]
end
section
variable (F : Fns) (S : Sto)
theorem fold_filter (g : Int → Bool) : ∀ (xs acc : List Int), xs.foldl (fun acc t => if g t = true then acc ++ [t] else acc) acc = acc ++ xs.filter g
  | [], acc => by simp
  | x :: xs, acc => by
    rw [List.foldl_cons, fold_filter g xs, List.filter_cons]
    cases g x <;> simp
theorem mem_rng40 {t : Int} : t ∈ rng 40 ↔ 0 ≤ t ∧ t < 40 := by
  unfold rng
  rw [List.mem_map]
  constructor
  · rintro ⟨k, hk, rfl⟩
    have : k < 40 := List.mem_range.mp hk
    omega
  · rintro ⟨h1, h2⟩
    exact ⟨t.toNat, List.mem_range.mpr (by show t.toNat < 40; omega), by omega⟩
theorem ev_mean_soon (d : Int) (h3 : 0 ≤ d) (h4 : d < 50) (A B : List Int) : callD F d__law_meaning [.str [115, 111, 111, 110], .int d, .lst (A.map .int), .lst (B.map .int)] S = .ok (.l (((rng 40).filter fun t => !((ticks t (t + d)).filter fun u => decide (u ∈ A)).isEmpty).map .int)) S := by
  have loop : evS F l__law_meaning_7 [some (.v (.str [115, 111, 111, 110])), some (.v (.int d)), some (.v (.lst (A.map .int))), some (.v (.lst (B.map .int))), some (.l []), none, none, none, none, none, none] S =
      .next [some (.v (.str [115, 111, 111, 110])), some (.v (.int d)), some (.v (.lst (A.map .int))), some (.v (.lst (B.map .int))), some (.l (((rng 40).filter fun t => !((ticks t (t + d)).filter fun u => decide (u ∈ A)).isEmpty).map .int)), none, none, none, none, none, none] S := by
    unfold l__law_meaning_7
    rw [loop_of (S1 := S) (xs := (rng 40).map D.int) (by simp -implicitDefEqProofs [evE, evB, evEs, evOe, evT, evL, evIt, evOt, evS, binV, cmpV, setTg, fill, itOk, small_of (i := 40) (by omega) (by omega), rangeL_map, rng])]
    have e := fold_filter (fun t => !((ticks t (t + d)).filter fun u => decide (u ∈ A)).isEmpty) (rng 40) []
    rw [List.nil_append] at e
    rw [← e]
    refine forL_fold (fun acc : List Int => [some (.v (.str [115, 111, 111, 110])), some (.v (.int d)), some (.v (.lst (A.map .int))), some (.v (.lst (B.map .int))), some (.l (acc.map .int)), none, none, none, none, none, none]) D.int (fun acc t => if (!((ticks t (t + d)).filter fun u => decide (u ∈ A)).isEmpty) = true then acc ++ [t] else acc) (fun acc ts => acc.length + ts.length ≤ 100 ∧ ∀ t ∈ ts, 0 ≤ t ∧ t < 40) (fun acc t ts K hp => ?_) _ [] ⟨by rw [rng_len]; decide, fun t ht => mem_rng40.mp ht⟩
    obtain ⟨hp1, hp2⟩ := hp
    rw [List.length_cons] at hp1
    have ht := hp2 t List.mem_cons_self
    have hl : acc.length < line := by unfold line; omega
    have s1 : small t = true := small_of (by omega) (by omega)
    have s2 : small (t + d + 1) = true := small_of (by omega) (by omega)
    have s3 : small (t - d) = true := small_of (by omega) (by omega)
    have s4 : small (t + 1) = true := small_of (by omega) (by omega)
    have z1 : t + d + 1 - t ≤ (line : Int) := by unfold line; omega
    have z2 : t + 1 - (t - d) ≤ (line : Int) := by unfold line; omega
    have rl1 : rangeL t (t + d + 1 - t).toNat = (ticks t (t + d)).map D.int := rangeL_map _ _
    have rl2 : rangeL (t - d) (t + 1 - (t - d)).toNat = (ticks (t - d) t).map D.int := rangeL_map _ _
    have n1 : (ticks t (t + d)).length < 1000 := by rw [len_ticks]; omega
    have n2 : (ticks (t - d) t).length < 1000 := by rw [len_ticks]; omega
    have m1 := ev_m1 F S A (ticks t (t + d)) n1
    have m2 := ev_m2 F S A (ticks t (t + d)) n1
    have m3 := ev_m3 F S A (ticks (t - d) t) n2
    have m4 := ev_m4 F S A (ticks (t - d) t) n2
    have m6 := fun r0 r1 r4 r7 => ev_m6 F S A B t d ht.1 (by omega) h3 h4 r0 r1 r4 r7 none rfl
    refine ⟨⟨by split <;> (try rw [List.length_append, List.length_singleton]) <;> omega, fun x hx => hp2 x (List.mem_cons_of_mem _ hx)⟩, ?_⟩
    have q := eqV_lin ((ticks t (t + d)).filter fun u => decide (u ∈ A))
    generalize ((ticks t (t + d)).filter fun u => decide (u ∈ A)).isEmpty = z at q ⊢
    cases z <;> simp -implicitDefEqProofs [evE, evB, evEs, evOe, evT, evL, evIt, evOt, evS, binV, cmpV, setTg, fill, itOk, s1, s2, s3, s4, z1, z2, rl1, rl2, m1, m2, m3, m4, q, hl]
  simp -implicitDefEqProofs [evE, evB, evEs, evOe, evT, evL, evIt, evOt, evS, binV, cmpV, setTg, fill, itOk, callD, d__law_meaning, envOf, loop]
theorem ev_mean_ahead (d : Int) (h3 : 0 ≤ d) (h4 : d < 50) (A B : List Int) : callD F d__law_meaning [.str [97, 104, 101, 97, 100], .int d, .lst (A.map .int), .lst (B.map .int)] S = .ok (.l (((rng 40).filter fun t => ((ticks t (t + d)).filter fun u => !decide (u ∈ A)).isEmpty).map .int)) S := by
  have loop : evS F l__law_meaning_7 [some (.v (.str [97, 104, 101, 97, 100])), some (.v (.int d)), some (.v (.lst (A.map .int))), some (.v (.lst (B.map .int))), some (.l []), none, none, none, none, none, none] S =
      .next [some (.v (.str [97, 104, 101, 97, 100])), some (.v (.int d)), some (.v (.lst (A.map .int))), some (.v (.lst (B.map .int))), some (.l (((rng 40).filter fun t => ((ticks t (t + d)).filter fun u => !decide (u ∈ A)).isEmpty).map .int)), none, none, none, none, none, none] S := by
    unfold l__law_meaning_7
    rw [loop_of (S1 := S) (xs := (rng 40).map D.int) (by simp -implicitDefEqProofs [evE, evB, evEs, evOe, evT, evL, evIt, evOt, evS, binV, cmpV, setTg, fill, itOk, small_of (i := 40) (by omega) (by omega), rangeL_map, rng])]
    have e := fold_filter (fun t => ((ticks t (t + d)).filter fun u => !decide (u ∈ A)).isEmpty) (rng 40) []
    rw [List.nil_append] at e
    rw [← e]
    refine forL_fold (fun acc : List Int => [some (.v (.str [97, 104, 101, 97, 100])), some (.v (.int d)), some (.v (.lst (A.map .int))), some (.v (.lst (B.map .int))), some (.l (acc.map .int)), none, none, none, none, none, none]) D.int (fun acc t => if (((ticks t (t + d)).filter fun u => !decide (u ∈ A)).isEmpty) = true then acc ++ [t] else acc) (fun acc ts => acc.length + ts.length ≤ 100 ∧ ∀ t ∈ ts, 0 ≤ t ∧ t < 40) (fun acc t ts K hp => ?_) _ [] ⟨by rw [rng_len]; decide, fun t ht => mem_rng40.mp ht⟩
    obtain ⟨hp1, hp2⟩ := hp
    rw [List.length_cons] at hp1
    have ht := hp2 t List.mem_cons_self
    have hl : acc.length < line := by unfold line; omega
    have s1 : small t = true := small_of (by omega) (by omega)
    have s2 : small (t + d + 1) = true := small_of (by omega) (by omega)
    have s3 : small (t - d) = true := small_of (by omega) (by omega)
    have s4 : small (t + 1) = true := small_of (by omega) (by omega)
    have z1 : t + d + 1 - t ≤ (line : Int) := by unfold line; omega
    have z2 : t + 1 - (t - d) ≤ (line : Int) := by unfold line; omega
    have rl1 : rangeL t (t + d + 1 - t).toNat = (ticks t (t + d)).map D.int := rangeL_map _ _
    have rl2 : rangeL (t - d) (t + 1 - (t - d)).toNat = (ticks (t - d) t).map D.int := rangeL_map _ _
    have n1 : (ticks t (t + d)).length < 1000 := by rw [len_ticks]; omega
    have n2 : (ticks (t - d) t).length < 1000 := by rw [len_ticks]; omega
    have m1 := ev_m1 F S A (ticks t (t + d)) n1
    have m2 := ev_m2 F S A (ticks t (t + d)) n1
    have m3 := ev_m3 F S A (ticks (t - d) t) n2
    have m4 := ev_m4 F S A (ticks (t - d) t) n2
    have m6 := fun r0 r1 r4 r7 => ev_m6 F S A B t d ht.1 (by omega) h3 h4 r0 r1 r4 r7 none rfl
    refine ⟨⟨by split <;> (try rw [List.length_append, List.length_singleton]) <;> omega, fun x hx => hp2 x (List.mem_cons_of_mem _ hx)⟩, ?_⟩
    have q := eqV_lin ((ticks t (t + d)).filter fun u => !decide (u ∈ A))
    generalize ((ticks t (t + d)).filter fun u => !decide (u ∈ A)).isEmpty = z at q ⊢
    cases z <;> simp -implicitDefEqProofs [evE, evB, evEs, evOe, evT, evL, evIt, evOt, evS, binV, cmpV, setTg, fill, itOk, s1, s2, s3, s4, z1, z2, rl1, rl2, m1, m2, m3, m4, q, hl]
  simp -implicitDefEqProofs [evE, evB, evEs, evOe, evT, evL, evIt, evOt, evS, binV, cmpV, setTg, fill, itOk, callD, d__law_meaning, envOf, loop]
theorem ev_mean_lately (d : Int) (h3 : 0 ≤ d) (h4 : d < 50) (A B : List Int) : callD F d__law_meaning [.str [108, 97, 116, 101, 108, 121], .int d, .lst (A.map .int), .lst (B.map .int)] S = .ok (.l (((rng 40).filter fun t => !((ticks (t - d) t).filter fun u => decide (u ∈ A)).isEmpty).map .int)) S := by
  have loop : evS F l__law_meaning_7 [some (.v (.str [108, 97, 116, 101, 108, 121])), some (.v (.int d)), some (.v (.lst (A.map .int))), some (.v (.lst (B.map .int))), some (.l []), none, none, none, none, none, none] S =
      .next [some (.v (.str [108, 97, 116, 101, 108, 121])), some (.v (.int d)), some (.v (.lst (A.map .int))), some (.v (.lst (B.map .int))), some (.l (((rng 40).filter fun t => !((ticks (t - d) t).filter fun u => decide (u ∈ A)).isEmpty).map .int)), none, none, none, none, none, none] S := by
    unfold l__law_meaning_7
    rw [loop_of (S1 := S) (xs := (rng 40).map D.int) (by simp -implicitDefEqProofs [evE, evB, evEs, evOe, evT, evL, evIt, evOt, evS, binV, cmpV, setTg, fill, itOk, small_of (i := 40) (by omega) (by omega), rangeL_map, rng])]
    have e := fold_filter (fun t => !((ticks (t - d) t).filter fun u => decide (u ∈ A)).isEmpty) (rng 40) []
    rw [List.nil_append] at e
    rw [← e]
    refine forL_fold (fun acc : List Int => [some (.v (.str [108, 97, 116, 101, 108, 121])), some (.v (.int d)), some (.v (.lst (A.map .int))), some (.v (.lst (B.map .int))), some (.l (acc.map .int)), none, none, none, none, none, none]) D.int (fun acc t => if (!((ticks (t - d) t).filter fun u => decide (u ∈ A)).isEmpty) = true then acc ++ [t] else acc) (fun acc ts => acc.length + ts.length ≤ 100 ∧ ∀ t ∈ ts, 0 ≤ t ∧ t < 40) (fun acc t ts K hp => ?_) _ [] ⟨by rw [rng_len]; decide, fun t ht => mem_rng40.mp ht⟩
    obtain ⟨hp1, hp2⟩ := hp
    rw [List.length_cons] at hp1
    have ht := hp2 t List.mem_cons_self
    have hl : acc.length < line := by unfold line; omega
    have s1 : small t = true := small_of (by omega) (by omega)
    have s2 : small (t + d + 1) = true := small_of (by omega) (by omega)
    have s3 : small (t - d) = true := small_of (by omega) (by omega)
    have s4 : small (t + 1) = true := small_of (by omega) (by omega)
    have z1 : t + d + 1 - t ≤ (line : Int) := by unfold line; omega
    have z2 : t + 1 - (t - d) ≤ (line : Int) := by unfold line; omega
    have rl1 : rangeL t (t + d + 1 - t).toNat = (ticks t (t + d)).map D.int := rangeL_map _ _
    have rl2 : rangeL (t - d) (t + 1 - (t - d)).toNat = (ticks (t - d) t).map D.int := rangeL_map _ _
    have n1 : (ticks t (t + d)).length < 1000 := by rw [len_ticks]; omega
    have n2 : (ticks (t - d) t).length < 1000 := by rw [len_ticks]; omega
    have m1 := ev_m1 F S A (ticks t (t + d)) n1
    have m2 := ev_m2 F S A (ticks t (t + d)) n1
    have m3 := ev_m3 F S A (ticks (t - d) t) n2
    have m4 := ev_m4 F S A (ticks (t - d) t) n2
    have m6 := fun r0 r1 r4 r7 => ev_m6 F S A B t d ht.1 (by omega) h3 h4 r0 r1 r4 r7 none rfl
    refine ⟨⟨by split <;> (try rw [List.length_append, List.length_singleton]) <;> omega, fun x hx => hp2 x (List.mem_cons_of_mem _ hx)⟩, ?_⟩
    have q := eqV_lin ((ticks (t - d) t).filter fun u => decide (u ∈ A))
    generalize ((ticks (t - d) t).filter fun u => decide (u ∈ A)).isEmpty = z at q ⊢
    cases z <;> simp -implicitDefEqProofs [evE, evB, evEs, evOe, evT, evL, evIt, evOt, evS, binV, cmpV, setTg, fill, itOk, s1, s2, s3, s4, z1, z2, rl1, rl2, m1, m2, m3, m4, q, hl]
  simp -implicitDefEqProofs [evE, evB, evEs, evOe, evT, evL, evIt, evOt, evS, binV, cmpV, setTg, fill, itOk, callD, d__law_meaning, envOf, loop]
theorem ev_mean_behind (d : Int) (h3 : 0 ≤ d) (h4 : d < 50) (A B : List Int) : callD F d__law_meaning [.str [98, 101, 104, 105, 110, 100], .int d, .lst (A.map .int), .lst (B.map .int)] S = .ok (.l (((rng 40).filter fun t => ((ticks (t - d) t).filter fun u => !decide (u ∈ A)).isEmpty).map .int)) S := by
  have loop : evS F l__law_meaning_7 [some (.v (.str [98, 101, 104, 105, 110, 100])), some (.v (.int d)), some (.v (.lst (A.map .int))), some (.v (.lst (B.map .int))), some (.l []), none, none, none, none, none, none] S =
      .next [some (.v (.str [98, 101, 104, 105, 110, 100])), some (.v (.int d)), some (.v (.lst (A.map .int))), some (.v (.lst (B.map .int))), some (.l (((rng 40).filter fun t => ((ticks (t - d) t).filter fun u => !decide (u ∈ A)).isEmpty).map .int)), none, none, none, none, none, none] S := by
    unfold l__law_meaning_7
    rw [loop_of (S1 := S) (xs := (rng 40).map D.int) (by simp -implicitDefEqProofs [evE, evB, evEs, evOe, evT, evL, evIt, evOt, evS, binV, cmpV, setTg, fill, itOk, small_of (i := 40) (by omega) (by omega), rangeL_map, rng])]
    have e := fold_filter (fun t => ((ticks (t - d) t).filter fun u => !decide (u ∈ A)).isEmpty) (rng 40) []
    rw [List.nil_append] at e
    rw [← e]
    refine forL_fold (fun acc : List Int => [some (.v (.str [98, 101, 104, 105, 110, 100])), some (.v (.int d)), some (.v (.lst (A.map .int))), some (.v (.lst (B.map .int))), some (.l (acc.map .int)), none, none, none, none, none, none]) D.int (fun acc t => if (((ticks (t - d) t).filter fun u => !decide (u ∈ A)).isEmpty) = true then acc ++ [t] else acc) (fun acc ts => acc.length + ts.length ≤ 100 ∧ ∀ t ∈ ts, 0 ≤ t ∧ t < 40) (fun acc t ts K hp => ?_) _ [] ⟨by rw [rng_len]; decide, fun t ht => mem_rng40.mp ht⟩
    obtain ⟨hp1, hp2⟩ := hp
    rw [List.length_cons] at hp1
    have ht := hp2 t List.mem_cons_self
    have hl : acc.length < line := by unfold line; omega
    have s1 : small t = true := small_of (by omega) (by omega)
    have s2 : small (t + d + 1) = true := small_of (by omega) (by omega)
    have s3 : small (t - d) = true := small_of (by omega) (by omega)
    have s4 : small (t + 1) = true := small_of (by omega) (by omega)
    have z1 : t + d + 1 - t ≤ (line : Int) := by unfold line; omega
    have z2 : t + 1 - (t - d) ≤ (line : Int) := by unfold line; omega
    have rl1 : rangeL t (t + d + 1 - t).toNat = (ticks t (t + d)).map D.int := rangeL_map _ _
    have rl2 : rangeL (t - d) (t + 1 - (t - d)).toNat = (ticks (t - d) t).map D.int := rangeL_map _ _
    have n1 : (ticks t (t + d)).length < 1000 := by rw [len_ticks]; omega
    have n2 : (ticks (t - d) t).length < 1000 := by rw [len_ticks]; omega
    have m1 := ev_m1 F S A (ticks t (t + d)) n1
    have m2 := ev_m2 F S A (ticks t (t + d)) n1
    have m3 := ev_m3 F S A (ticks (t - d) t) n2
    have m4 := ev_m4 F S A (ticks (t - d) t) n2
    have m6 := fun r0 r1 r4 r7 => ev_m6 F S A B t d ht.1 (by omega) h3 h4 r0 r1 r4 r7 none rfl
    refine ⟨⟨by split <;> (try rw [List.length_append, List.length_singleton]) <;> omega, fun x hx => hp2 x (List.mem_cons_of_mem _ hx)⟩, ?_⟩
    have q := eqV_lin ((ticks (t - d) t).filter fun u => !decide (u ∈ A))
    generalize ((ticks (t - d) t).filter fun u => !decide (u ∈ A)).isEmpty = z at q ⊢
    cases z <;> simp -implicitDefEqProofs [evE, evB, evEs, evOe, evT, evL, evIt, evOt, evS, binV, cmpV, setTg, fill, itOk, s1, s2, s3, s4, z1, z2, rl1, rl2, m1, m2, m3, m4, q, hl]
  simp -implicitDefEqProofs [evE, evB, evEs, evOe, evT, evL, evIt, evOt, evS, binV, cmpV, setTg, fill, itOk, callD, d__law_meaning, envOf, loop]
theorem ev_mean_until (d : Int) (h3 : 0 ≤ d) (h4 : d < 50) (A B : List Int) : callD F d__law_meaning [.str [117, 110, 116, 105, 108], .int d, .lst (A.map .int), .lst (B.map .int)] S = .ok (.l (((rng 40).filter fun t => (ticks t (t + d)).foldl (fun g u => g || hit A B t u) false).map .int)) S := by
  have loop : evS F l__law_meaning_7 [some (.v (.str [117, 110, 116, 105, 108])), some (.v (.int d)), some (.v (.lst (A.map .int))), some (.v (.lst (B.map .int))), some (.l []), none, none, none, none, none, none] S =
      .next [some (.v (.str [117, 110, 116, 105, 108])), some (.v (.int d)), some (.v (.lst (A.map .int))), some (.v (.lst (B.map .int))), some (.l (((rng 40).filter fun t => (ticks t (t + d)).foldl (fun g u => g || hit A B t u) false).map .int)), none, none, none, none, none, none] S := by
    unfold l__law_meaning_7
    rw [loop_of (S1 := S) (xs := (rng 40).map D.int) (by simp -implicitDefEqProofs [evE, evB, evEs, evOe, evT, evL, evIt, evOt, evS, binV, cmpV, setTg, fill, itOk, small_of (i := 40) (by omega) (by omega), rangeL_map, rng])]
    have e := fold_filter (fun t => (ticks t (t + d)).foldl (fun g u => g || hit A B t u) false) (rng 40) []
    rw [List.nil_append] at e
    rw [← e]
    refine forL_fold (fun acc : List Int => [some (.v (.str [117, 110, 116, 105, 108])), some (.v (.int d)), some (.v (.lst (A.map .int))), some (.v (.lst (B.map .int))), some (.l (acc.map .int)), none, none, none, none, none, none]) D.int (fun acc t => if ((ticks t (t + d)).foldl (fun g u => g || hit A B t u) false) = true then acc ++ [t] else acc) (fun acc ts => acc.length + ts.length ≤ 100 ∧ ∀ t ∈ ts, 0 ≤ t ∧ t < 40) (fun acc t ts K hp => ?_) _ [] ⟨by rw [rng_len]; decide, fun t ht => mem_rng40.mp ht⟩
    obtain ⟨hp1, hp2⟩ := hp
    rw [List.length_cons] at hp1
    have ht := hp2 t List.mem_cons_self
    have hl : acc.length < line := by unfold line; omega
    have s1 : small t = true := small_of (by omega) (by omega)
    have s2 : small (t + d + 1) = true := small_of (by omega) (by omega)
    have s3 : small (t - d) = true := small_of (by omega) (by omega)
    have s4 : small (t + 1) = true := small_of (by omega) (by omega)
    have z1 : t + d + 1 - t ≤ (line : Int) := by unfold line; omega
    have z2 : t + 1 - (t - d) ≤ (line : Int) := by unfold line; omega
    have rl1 : rangeL t (t + d + 1 - t).toNat = (ticks t (t + d)).map D.int := rangeL_map _ _
    have rl2 : rangeL (t - d) (t + 1 - (t - d)).toNat = (ticks (t - d) t).map D.int := rangeL_map _ _
    have n1 : (ticks t (t + d)).length < 1000 := by rw [len_ticks]; omega
    have n2 : (ticks (t - d) t).length < 1000 := by rw [len_ticks]; omega
    have m1 := ev_m1 F S A (ticks t (t + d)) n1
    have m2 := ev_m2 F S A (ticks t (t + d)) n1
    have m3 := ev_m3 F S A (ticks (t - d) t) n2
    have m4 := ev_m4 F S A (ticks (t - d) t) n2
    have m6 := fun r0 r1 r4 r7 => ev_m6 F S A B t d ht.1 (by omega) h3 h4 r0 r1 r4 r7 none rfl
    refine ⟨⟨by split <;> (try rw [List.length_append, List.length_singleton]) <;> omega, fun x hx => hp2 x (List.mem_cons_of_mem _ hx)⟩, ?_⟩
    generalize (ticks t (t + d)).foldl (fun g u => g || hit A B t u) false = z at m6 ⊢
    cases z <;> simp -implicitDefEqProofs [evE, evB, evEs, evOe, evT, evL, evIt, evOt, evS, binV, cmpV, setTg, fill, itOk, s1, s2, s3, s4, z1, z2, rl1, rl2, m6, hl]
  simp -implicitDefEqProofs [evE, evB, evEs, evOe, evT, evL, evIt, evOt, evS, binV, cmpV, setTg, fill, itOk, callD, d__law_meaning, envOf, loop]
end
/-! ### conditions made of conditions -/
section
variable (F : Fns) (S : Sto)
theorem ev_either (h6 : ∀ a b : List Pr, F.call 6 [ln a b] S = .ok (.v (ln b a)) S) (a b c d p q : List Pr) (h7 : F.call 7 [ln b a, ln d c] S = .ok (.v (ln p q)) S) : callD F d_either [ln a b, ln c d] S = .ok (.v (ln q p)) S := by
  simp -implicitDefEqProofs [evE, evB, evEs, evOe, evT, evL, evIt, evOt, evS, binV, cmpV, setTg, fill, itOk, callD, d_either, envOf, h6, h7, Ret.d]
theorem ev_soon (k : Int) (a b p q : List Pr) (h2 : F.call 2 [.lst (a.map pairD), .int k] S = .ok (.v (.lst (p.map pairD))) S) (h4 : F.call 4 [.lst (b.map pairD), .int k] S = .ok (.v (.lst (q.map pairD))) S) : callD F d_soon [.int k, ln a b] S = .ok (.v (ln p q)) S := by
  simp -implicitDefEqProofs [evE, evB, evEs, evOe, evT, evL, evIt, evOt, evS, binV, cmpV, setTg, fill, itOk, callD, d_soon, envOf, ln, h2, h4, Ret.d]
theorem ev_lately (k : Int) (a b p q : List Pr) (h3 : F.call 3 [.lst (a.map pairD), .int k] S = .ok (.v (.lst (p.map pairD))) S) (h5 : F.call 5 [.lst (b.map pairD), .int k] S = .ok (.v (.lst (q.map pairD))) S) : callD F d_lately [.int k, ln a b] S = .ok (.v (ln p q)) S := by
  simp -implicitDefEqProofs [evE, evB, evEs, evOe, evT, evL, evIt, evOt, evS, binV, cmpV, setTg, fill, itOk, callD, d_lately, envOf, ln, h3, h5, Ret.d]
theorem ev_ahead (h6 : ∀ a b : List Pr, F.call 6 [ln a b] S = .ok (.v (ln b a)) S) (k : Int) (a b p q : List Pr) (h9 : F.call 9 [.int k, ln b a] S = .ok (.v (ln p q)) S) : callD F d_ahead [.int k, ln a b] S = .ok (.v (ln q p)) S := by
  simp -implicitDefEqProofs [evE, evB, evEs, evOe, evT, evL, evIt, evOt, evS, binV, cmpV, setTg, fill, itOk, callD, d_ahead, envOf, h6, h9, Ret.d]
theorem ev_behind (h6 : ∀ a b : List Pr, F.call 6 [ln a b] S = .ok (.v (ln b a)) S) (k : Int) (a b p q : List Pr) (h11 : F.call 11 [.int k, ln b a] S = .ok (.v (ln p q)) S) : callD F d_behind [.int k, ln a b] S = .ok (.v (ln q p)) S := by
  simp -implicitDefEqProofs [evE, evB, evEs, evOe, evT, evL, evIt, evOt, evS, binV, cmpV, setTg, fill, itOk, callD, d_behind, envOf, h6, h11, Ret.d]
theorem ev_until (k : Int) (a b c d p q : List Pr) (h13 : F.call 13 [.int k, .lst (a.map pairD), .lst (c.map pairD)] S = .ok (.v (.lst (p.map pairD))) S) (h14 : F.call 14 [.int k, .lst (b.map pairD), .lst (d.map pairD)] S = .ok (.v (.lst (q.map pairD))) S) : callD F d_until [.int k, ln a b, ln c d] S = .ok (.v (ln p q)) S := by
  simp -implicitDefEqProofs [evE, evB, evEs, evOe, evT, evL, evIt, evOt, evS, binV, cmpV, setTg, fill, itOk, callD, d_until, envOf, ln, h13, h14, Ret.d]
/-! ### the law's lists -/
theorem ev_cl1 (A : List Int) (r0 r1 r2 r4 r5 r6 r7 r8 r9 r10 r11 r12 r13 : Option Sl) : evL F c_law_1 [r0, r1, r2, some (.v (.lst (A.map .int))), r4, r5, r6, r7, r8, r9, r10, r11, r12, r13] S = .ok (((rng 40).filter fun t => !decide (t ∈ A)).map .int) S := by
  unfold c_law_1
  simp -implicitDefEqProofs [evE, evB, evEs, evOe, evT, evL, evIt, evOt, evS, binV, cmpV, setTg, fill, itOk, small_of (i := 40) (by omega) (by omega)]
  rw [rangeL_map, compL_map D.int D.int (fun t => if (!decide (t ∈ A)) = true then some t else none) _ [] (fun t _ => ?_) (by simp; decide), filterMap_if]
  · simp [rng]
  · by_cases c : t ∈ A <;> simp -implicitDefEqProofs [evE, evB, evEs, evOe, evT, evL, evIt, evOt, evS, binV, cmpV, setTg, fill, itOk, inV_ints, c]
theorem ev_cl2 (A B : List Int) (hl : A.length < 1000) (r0 r1 r2 r5 r6 r7 r8 r9 r10 r11 r12 r13 : Option Sl) : evL F c_law_2 [r0, r1, r2, some (.v (.lst (A.map .int))), some (.v (.lst (B.map .int))), r5, r6, r7, r8, r9, r10, r11, r12, r13] S = .ok ((A.filter fun t => decide (t ∈ B)).map .int) S := by
  unfold c_law_2
  simp -implicitDefEqProofs [evE, evB, evEs, evOe, evT, evL, evIt, evOt, evS, binV, cmpV, setTg, fill, itOk]
  rw [compL_map D.int D.int (fun t => if decide (t ∈ B) = true then some t else none) _ [] (fun t _ => ?_) (by simp; unfold line; omega), filterMap_if]
  · simp
  · by_cases c : t ∈ B <;> simp -implicitDefEqProofs [evE, evB, evEs, evOe, evT, evL, evIt, evOt, evS, binV, cmpV, setTg, fill, itOk, inV_ints, c]
theorem ev_cl3 (A B : List Int) (hl : B.length < 1000) (r0 r1 r2 r5 r6 r7 r8 r9 r10 r11 r12 r13 : Option Sl) : evL F c_law_3 [r0, r1, r2, some (.v (.lst (A.map .int))), some (.v (.lst (B.map .int))), r5, r6, r7, r8, r9, r10, r11, r12, r13] S = .ok ((B.filter fun t => !decide (t ∈ A)).map .int) S := by
  unfold c_law_3
  simp -implicitDefEqProofs [evE, evB, evEs, evOe, evT, evL, evIt, evOt, evS, binV, cmpV, setTg, fill, itOk]
  rw [compL_map D.int D.int (fun t => if (!decide (t ∈ A)) = true then some t else none) _ [] (fun t _ => ?_) (by simp; unfold line; omega), filterMap_if]
  · simp
  · by_cases c : t ∈ A <;> simp -implicitDefEqProofs [evE, evB, evEs, evOe, evT, evL, evIt, evOt, evS, binV, cmpV, setTg, fill, itOk, inV_ints, c]
theorem filterMap_some' (xs : List Int) : xs.filterMap (fun t => some t) = xs := by
  induction xs with
  | nil => rfl
  | cons x xs ih => rw [List.filterMap_cons, ih]
theorem ev_cl4 (r0 r1 r2 r3 r4 r5 r6 r7 r8 r9 r10 r11 r12 r13 : Option Sl) : evL F c_law_4 [r0, r1, r2, r3, r4, r5, r6, r7, r8, r9, r10, r11, r12, r13] S = .ok ((ticks (-8) (-1)).map .int) S := by
  unfold c_law_4
  simp -implicitDefEqProofs [evE, evB, evEs, evOe, evT, evL, evIt, evOt, evS, binV, cmpV, setTg, fill, itOk, small]
  rw [rangeL_map, compL_map D.int D.int (fun t => some t) _ [] (fun t _ => ?_) (by simp), filterMap_some']
  · rfl
  · simp -implicitDefEqProofs [evE, evB, evEs, evOe, evT, evL, evIt, evOt, evS, binV, cmpV, setTg, fill, itOk]
theorem ev_cl5 (r0 r1 r2 r3 r4 r5 r6 r7 r8 r9 r10 r11 r12 r13 : Option Sl) : evL F c_law_5 [r0, r1, r2, r3, r4, r5, r6, r7, r8, r9, r10, r11, r12, r13] S = .ok ((ticks 40 49).map .int) S := by
  unfold c_law_5
  simp -implicitDefEqProofs [evE, evB, evEs, evOe, evT, evL, evIt, evOt, evS, binV, cmpV, setTg, fill, itOk, small]
  rw [rangeL_map, compL_map D.int D.int (fun t => some t) _ [] (fun t _ => ?_) (by simp; decide), filterMap_some']
  · rfl
  · simp -implicitDefEqProofs [evE, evB, evEs, evOe, evT, evL, evIt, evOt, evS, binV, cmpV, setTg, fill, itOk]
end
end K77

set_option linter.all false
set_option maxRecDepth 100000
namespace K77
open Ev Sp SpE S77 Dr
section
variable (xs : List Pr) (d : Int) (S : Sto)
theorem c0 (k : Nat) (hl : xs.length < line) : (fns tabs.T (k + 1)).call 0 [.lst (xs.map pairD)] S = .ok (.l ((joined xs).map pairD)) S := (call_of (d := d_joined) rfl rfl rfl).trans (ev_joined _ xs S hl)
theorem c1 (k : Nat) (ys : List Pr) (hl : xs.length * ys.length < line) : (fns tabs.T (k + 1)).call 1 [.lst (xs.map pairD), .lst (ys.map pairD)] S = .ok (.l ((common xs ys).map pairD)) S := (call_of (d := d_common) rfl rfl rfl).trans (ev_common _ xs ys S hl)
theorem c2 (k : Nat) (hl : xs.length < line) : (fns tabs.T (k + 2)).call 2 [.lst (xs.map pairD), .int d] S = .ok (.v (.lst ((joined (sh (-d) 0 (joined xs))).map pairD))) S := (call_of (d := d_earlier_begins) rfl rfl rfl).trans (ev_eb _ (fun xs S h => c0 xs S k h) xs d S hl)
theorem c3 (k : Nat) (hl : xs.length < line) : (fns tabs.T (k + 2)).call 3 [.lst (xs.map pairD), .int d] S = .ok (.v (.lst ((joined (sh 0 d (joined xs))).map pairD))) S := (call_of (d := d_later_ends) rfl rfl rfl).trans (ev_le _ (fun xs S h => c0 xs S k h) xs d S hl)
theorem c4 (k : Nat) (hl : xs.length < line) : (fns tabs.T (k + 2)).call 4 [.lst (xs.map pairD), .int d] S = .ok (.v (.lst ((joined (sh 0 (-d) (joined xs))).map pairD))) S := (call_of (d := d_earlier_ends) rfl rfl rfl).trans (ev_ee _ (fun xs S h => c0 xs S k h) xs d S hl)
theorem c5 (k : Nat) (hl : xs.length < line) : (fns tabs.T (k + 2)).call 5 [.lst (xs.map pairD), .int d] S = .ok (.v (.lst ((joined (sh d 0 (joined xs))).map pairD))) S := (call_of (d := d_later_begins) rfl rfl rfl).trans (ev_lb _ (fun xs S h => c0 xs S k h) xs d S hl)
theorem c6 (k : Nat) (a b : List Pr) : (fns tabs.T (k + 1)).call 6 [ln a b] S = .ok (.v (ln b a)) S := (call_of (d := d_negated) rfl rfl rfl).trans (ev_negated _ a b S)
theorem c19 (k : Nat) (t : Int) : (fns tabs.T (k + 1)).call 19 [.lst (xs.map pairD), .int t] S = .ok (.v (.bl (within xs t))) S := (call_of (d := d__law_within) rfl rfl rfl).trans (ev_within _ xs t S)
theorem c9 (k : Nat) (a b : List Pr) (ha : a.length < line) (hb : b.length < line) : (fns tabs.T (k + 3)).call 9 [.int d, ln a b] S = .ok (.v (ln (joined (sh (-d) 0 (joined a))) (joined (sh 0 (-d) (joined b))))) S := (call_of (d := d_soon) rfl rfl rfl).trans (ev_soon _ S d a b _ _ (c2 a d S k ha) (c4 b d S k hb))
theorem c11 (k : Nat) (a b : List Pr) (ha : a.length < line) (hb : b.length < line) : (fns tabs.T (k + 3)).call 11 [.int d, ln a b] S = .ok (.v (ln (joined (sh 0 d (joined a))) (joined (sh d 0 (joined b))))) S := (call_of (d := d_lately) rfl rfl rfl).trans (ev_lately _ S d a b _ _ (c3 a d S k ha) (c5 b d S k hb))
theorem c10 (k : Nat) (a b : List Pr) (ha : a.length < line) (hb : b.length < line) : (fns tabs.T (k + 4)).call 10 [.int d, ln a b] S = .ok (.v (ln (joined (sh 0 (-d) (joined a))) (joined (sh (-d) 0 (joined b))))) S := (call_of (d := d_ahead) rfl rfl rfl).trans (ev_ahead _ S (c6 S (k + 2)) d a b _ _ (c9 d S k b a hb ha))
theorem c12 (k : Nat) (a b : List Pr) (ha : a.length < line) (hb : b.length < line) : (fns tabs.T (k + 4)).call 12 [.int d, ln a b] S = .ok (.v (ln (joined (sh d 0 (joined a))) (joined (sh 0 d (joined b))))) S := (call_of (d := d_behind) rfl rfl rfl).trans (ev_behind _ S (c6 S (k + 2)) d a b _ _ (c11 d S k b a hb ha))
theorem c7 (k : Nat) (a b c e : List Pr) (ha : a.length < 1000) (hb : b.length < 1000) (hc : c.length < 1000) (he : e.length < 1000) : (fns tabs.T (k + 2)).call 7 [ln a b, ln c e] S = .ok (.v (ln (joined (common a c)) (joined (b ++ e)))) S := (call_of (d := d_both) rfl rfl rfl).trans (ev_both _ S (fun xs h => c0 xs S k h) (fun xs ys h => c1 xs S k ys h) a b c e ha hb hc he)
theorem c8 (k : Nat) (a b c e : List Pr) (ha : a.length < 1000) (hb : b.length < 1000) (hc : c.length < 1000) (he : e.length < 1000) : (fns tabs.T (k + 3)).call 8 [ln a b, ln c e] S = .ok (.v (ln (joined (a ++ c)) (joined (common b e)))) S := (call_of (d := d_either) rfl rfl rfl).trans (ev_either _ S (c6 S (k + 1)) a b c e _ _ (c7 S k b a e c hb ha he hc))
theorem c15 (k : Nat) (a b c e : List Pr) (ha : a.length < 1000) (hb : b.length < 1000) (hc : c.length < 1000) (he : e.length < 1000) : (fns tabs.T (k + 4)).call 15 [.int d, ln a b, ln c e] S = .ok (.v (ln (joined (untilY d a c)) (joined (untilN (b ++ joined (sh 0 (-d) (joined e))) b e)))) S := by
  refine (call_of (d := d_until) rfl rfl rfl).trans (ev_until _ S d a b c e _ _ ((call_of (d := d_until_yes) rfl rfl rfl).trans (ev_until_yes _ S (fun xs h => c0 xs S (k + 1) h) d a c ha hc)) ((call_of (d := d_until_no) rfl rfl rfl).trans (ev_until_no _ S (fun xs h => c0 xs S (k + 1) h) d b e _ hb he ?_ (c4 e d S k (by unfold line; omega)))))
  have h1 := joined_len e
  have h2 := joined_len (sh 0 (-d) (joined e))
  have h3 : (sh 0 (-d) (joined e)).length = (joined e).length := by unfold sh; simp
  omega
theorem c20 (k : Nat) (a b : List Pr) (M : List Int) (ok : ∀ t, 0 ≤ t → t < 40 → (within a t = true → t ∈ M) ∧ (within b t = true → t ∉ M)) : (fns tabs.T (k + 2)).call 20 [ln a b, .lst (M.map .int), .int 40] S = .ok (.v (.bl true)) S := (call_of (d := d__law_right) rfl rfl rfl).trans (ev_right _ S (fun xs t => c19 xs S k t) a b M ok)
end
theorem mem_f {g : Int → Bool} {t : Int} (h1 : 0 ≤ t) (h2 : t < 40) : (t ∈ (rng 40).filter g) = (g t = true) := by
  rw [List.mem_filter]
  exact propext ⟨fun h => h.2, fun h => ⟨mem_rng40.mpr ⟨h1, h2⟩, h⟩⟩
def around : List Int := ticks (-8) (-1) ++ ticks 40 49
theorem not_around {t : Int} (h1 : 0 ≤ t) (h2 : t < 40) : t ∉ around := by
  unfold around
  rw [List.mem_append, mem_ticks, mem_ticks]
  omega
theorem around_len : around.length = 18 := by unfold around; rw [List.length_append, len_ticks, len_ticks]; rfl
def outs : List (List Int) := [[], around]
theorem outs_ok {more : List Int} (h : more ∈ outs) : more.length < 100 ∧ ∀ t, 0 ≤ t → t < 40 → t ∉ more := by
  rcases List.mem_cons.mp h with rfl | h
  · exact ⟨by simp, fun _ _ _ h => by cases h⟩
  · rcases List.mem_singleton.mp h with rfl
    exact ⟨by rw [around_len]; decide, fun t h1 h2 => not_around h1 h2⟩
structure Tl (Y N : List Pr) (A : List Int) : Prop where
  ly : Y.length < 100
  ln : N.length < 100
  la : A.length < 100
  y : ∀ t, within Y t = true → t ∈ A
  n : ∀ t, within N t = true → t ∉ A ∧ 0 ≤ t ∧ t < 40
theorem Tl.yes {Y N : List Pr} {A more : List Int} (h : Tl Y N A) (t : Int) (w : within Y t = true) : t ∈ A ++ more := List.mem_append_left _ (h.y t w)
theorem Tl.no {Y N : List Pr} {A more : List Int} (h : Tl Y N A) (hm : more ∈ outs) (t : Int) (w : within N t = true) : t ∉ A ++ more := by
  obtain ⟨h1, h2, h3⟩ := h.n t w
  rw [List.mem_append]
  rintro (z | z)
  · exact h1 z
  · exact (outs_ok hm).2 t h2 h3 z
section
variable {Y N Y2 N2 : List Pr} {A B : List Int} {d : Int} (S : Sto)
theorem ev_l6 (h1 : 0 ≤ d) (h2 : d < 50) (ta : Tl Y N A) (tb : Tl Y2 N2 B) (more : List Int) (hm : more ∈ outs) (r0 r1 r7 r8 r9 : Option Sl) :
    evS (fns tabs.T 4) l_law_6 [r0, r1, some (.v (.int d)), some (.v (.lst (A.map .int))), some (.v (.lst (B.map .int))), some (.v (ln Y N)), some (.v (ln Y2 N2)), r7, r8, r9, some (.v (.lst (around.map .int))), some (.v (.lst (more.map .int))), none, none] S =
    .next [r0, r1, some (.v (.int d)), some (.v (.lst (A.map .int))), some (.v (.lst (B.map .int))), some (.v (ln Y N)), some (.v (ln Y2 N2)), r7, r8, r9, some (.v (.lst (around.map .int))), some (.v (.lst (more.map .int))), none, none] S := by
  unfold l_law_6
  rw [loop_of (S1 := S) (xs := outs.map fun l => D.lst (l.map .int)) (by simp -implicitDefEqProofs [evE, evB, evEs, evOe, evT, evL, evIt, evOt, evS, binV, cmpV, setTg, fill, itOk, outs])]
  refine forL_same (fun l : List Int => D.lst (l.map .int)) outs fun later hl K => ?_
  have z1 : A.length + more.length ≤ line := by have := (outs_ok hm).1; have := ta.la; unfold line; omega
  have z2 : B.length + later.length ≤ line := by have := (outs_ok hl).1; have := tb.la; unfold line; omega
  have e1 : (fns tabs.T 4).call 21 [.str [117, 110, 116, 105, 108], .int d, .lst ((A ++ more).map .int), .lst ((B ++ later).map .int)] S = _ := (call_of (k := 3) (f := 21) (T := tabs.T) (d := d__law_meaning) rfl rfl rfl).trans (ev_mean_until (fns tabs.T 3) S d h1 h2 (A ++ more) (B ++ later))
  have e2 : (fns tabs.T 4).call 15 [.int d, ln Y N, ln Y2 N2] S = _ := c15 d S 0 Y N Y2 N2 (by have := ta.ly; omega) (by have := ta.ln; omega) (by have := tb.ly; omega) (by have := tb.ln; omega)
  have e3 : (fns tabs.T 4).call 20 [_, .lst (List.map .int ((rng 40).filter fun t => (ticks t (t + d)).foldl (fun g u => g || hit (A ++ more) (B ++ later) t u) false)), .int 40] S = _ := c20 S 2 (joined (untilY d Y Y2)) (joined (untilN (N ++ joined (sh 0 (-d) (joined N2))) N N2)) ((rng 40).filter fun t => (ticks t (t + d)).foldl (fun g u => g || hit (A ++ more) (B ++ later) t u) false) (fun t q1 q2 => by
    rw [mem_f q1 q2]
    exact M77.until_right h1 (fun t w => ta.yes t w) (fun t w => ta.no hm t w) (fun t w => tb.yes t w) (fun t w => tb.no hl t w) t)
  rw [List.map_append, List.map_append] at e1
  simp -implicitDefEqProofs [evE, evB, evEs, evOe, evT, evL, evIt, evOt, evS, binV, cmpV, setTg, fill, itOk, z1, z2, e1, e2, e3, Ret.d]
theorem ev_l7 (h1 : 0 ≤ d) (h2 : d < 50) (ta : Tl Y N A) (tb : Tl Y2 N2 B) (r0 r1 r7 r8 r9 : Option Sl) :
    evS (fns tabs.T 4) l_law_7 [r0, r1, some (.v (.int d)), some (.v (.lst (A.map .int))), some (.v (.lst (B.map .int))), some (.v (ln Y N)), some (.v (ln Y2 N2)), r7, r8, r9, some (.v (.lst (around.map .int))), none, none, none] S =
    .next [r0, r1, some (.v (.int d)), some (.v (.lst (A.map .int))), some (.v (.lst (B.map .int))), some (.v (ln Y N)), some (.v (ln Y2 N2)), r7, r8, r9, some (.v (.lst (around.map .int))), none, none, none] S := by
  unfold l_law_7
  rw [loop_of (S1 := S) (xs := outs.map fun l => D.lst (l.map .int)) (by simp -implicitDefEqProofs [evE, evB, evEs, evOe, evT, evL, evIt, evOt, evS, binV, cmpV, setTg, fill, itOk, outs])]
  refine forL_same (fun l : List Int => D.lst (l.map .int)) outs fun more hm K => ?_
  have z1 : A.length + more.length ≤ line := by have := (outs_ok hm).1; have := ta.la; unfold line; omega
  have ly : Y.length < line := by have := ta.ly; unfold line; omega
  have ln' : N.length < line := by have := ta.ln; unfold line; omega
  have l6 := ev_l6 S h1 h2 ta tb more hm r0 r1 r7 r8 r9
  have a_soon : (fns tabs.T 4).call 21 [.str [115, 111, 111, 110], .int d, .lst ((A ++ more).map .int), .lst (List.map .int [])] S = _ := (call_of (k := 3) (f := 21) (T := tabs.T) (d := d__law_meaning) rfl rfl rfl).trans (ev_mean_soon (fns tabs.T 3) S d h1 h2 (A ++ more) [])
  have b_soon : (fns tabs.T 4).call 9 [.int d, ln Y N] S = _ := c9 d S 1 Y N ly ln'
  have c_soon : (fns tabs.T 4).call 20 [_, .lst (List.map .int ((rng 40).filter fun t => !((ticks t (t + d)).filter fun u => decide (u ∈ A ++ more)).isEmpty)), .int 40] S = _ := c20 S 2 (joined (sh (-d) 0 (joined Y))) (joined (sh 0 (-d) (joined N))) ((rng 40).filter fun t => !((ticks t (t + d)).filter fun u => decide (u ∈ A ++ more)).isEmpty) (fun t q1 q2 => by
    rw [mem_f q1 q2]
    exact M77.soon_right h1 (fun t w => ta.yes t w) (fun t w => ta.no hm t w) t)
  generalize ((rng 40).filter fun t => !((ticks t (t + d)).filter fun u => decide (u ∈ A ++ more)).isEmpty) = M_soon at a_soon c_soon
  rw [List.map_append, List.map_nil] at a_soon
  have a_ahead : (fns tabs.T 4).call 21 [.str [97, 104, 101, 97, 100], .int d, .lst ((A ++ more).map .int), .lst (List.map .int [])] S = _ := (call_of (k := 3) (f := 21) (T := tabs.T) (d := d__law_meaning) rfl rfl rfl).trans (ev_mean_ahead (fns tabs.T 3) S d h1 h2 (A ++ more) [])
  have b_ahead : (fns tabs.T 4).call 10 [.int d, ln Y N] S = _ := c10 d S 0 Y N ly ln'
  have c_ahead : (fns tabs.T 4).call 20 [_, .lst (List.map .int ((rng 40).filter fun t => ((ticks t (t + d)).filter fun u => !decide (u ∈ A ++ more)).isEmpty)), .int 40] S = _ := c20 S 2 (joined (sh 0 (-d) (joined Y))) (joined (sh (-d) 0 (joined N))) ((rng 40).filter fun t => ((ticks t (t + d)).filter fun u => !decide (u ∈ A ++ more)).isEmpty) (fun t q1 q2 => by
    rw [mem_f q1 q2]
    exact M77.ahead_right h1 (fun t w => ta.yes t w) (fun t w => ta.no hm t w) t)
  generalize ((rng 40).filter fun t => ((ticks t (t + d)).filter fun u => !decide (u ∈ A ++ more)).isEmpty) = M_ahead at a_ahead c_ahead
  rw [List.map_append, List.map_nil] at a_ahead
  have a_lately : (fns tabs.T 4).call 21 [.str [108, 97, 116, 101, 108, 121], .int d, .lst ((A ++ more).map .int), .lst (List.map .int [])] S = _ := (call_of (k := 3) (f := 21) (T := tabs.T) (d := d__law_meaning) rfl rfl rfl).trans (ev_mean_lately (fns tabs.T 3) S d h1 h2 (A ++ more) [])
  have b_lately : (fns tabs.T 4).call 11 [.int d, ln Y N] S = _ := c11 d S 1 Y N ly ln'
  have c_lately : (fns tabs.T 4).call 20 [_, .lst (List.map .int ((rng 40).filter fun t => !((ticks (t - d) t).filter fun u => decide (u ∈ A ++ more)).isEmpty)), .int 40] S = _ := c20 S 2 (joined (sh 0 d (joined Y))) (joined (sh d 0 (joined N))) ((rng 40).filter fun t => !((ticks (t - d) t).filter fun u => decide (u ∈ A ++ more)).isEmpty) (fun t q1 q2 => by
    rw [mem_f q1 q2]
    exact M77.lately_right h1 (fun t w => ta.yes t w) (fun t w => ta.no hm t w) t)
  generalize ((rng 40).filter fun t => !((ticks (t - d) t).filter fun u => decide (u ∈ A ++ more)).isEmpty) = M_lately at a_lately c_lately
  rw [List.map_append, List.map_nil] at a_lately
  have a_behind : (fns tabs.T 4).call 21 [.str [98, 101, 104, 105, 110, 100], .int d, .lst ((A ++ more).map .int), .lst (List.map .int [])] S = _ := (call_of (k := 3) (f := 21) (T := tabs.T) (d := d__law_meaning) rfl rfl rfl).trans (ev_mean_behind (fns tabs.T 3) S d h1 h2 (A ++ more) [])
  have b_behind : (fns tabs.T 4).call 12 [.int d, ln Y N] S = _ := c12 d S 0 Y N ly ln'
  have c_behind : (fns tabs.T 4).call 20 [_, .lst (List.map .int ((rng 40).filter fun t => ((ticks (t - d) t).filter fun u => !decide (u ∈ A ++ more)).isEmpty)), .int 40] S = _ := c20 S 2 (joined (sh d 0 (joined Y))) (joined (sh 0 d (joined N))) ((rng 40).filter fun t => ((ticks (t - d) t).filter fun u => !decide (u ∈ A ++ more)).isEmpty) (fun t q1 q2 => by
    rw [mem_f q1 q2]
    exact M77.behind_right h1 (fun t w => ta.yes t w) (fun t w => ta.no hm t w) t)
  generalize ((rng 40).filter fun t => ((ticks (t - d) t).filter fun u => !decide (u ∈ A ++ more)).isEmpty) = M_behind at a_behind c_behind
  rw [List.map_append, List.map_nil] at a_behind
  simp -implicitDefEqProofs [evE, evB, evEs, evOe, evT, evL, evIt, evOt, evS, binV, cmpV, setTg, fill, itOk, z1, l6, a_soon, b_soon, c_soon, a_ahead, b_ahead, c_ahead, a_lately, b_lately, c_lately, a_behind, b_behind, c_behind, Ret.d]
theorem law_ok (ns : List Int) (hn : ns.length ≤ 63) : callD (fns tabs.T 4) d_law [.lst (ns.map .int)] [] = .ok (.v (.bl true)) [] := by
  have cr : ∀ k : Nat, ∃ r : Int, 0 ≤ r ∧ (fns tabs.T 4).call 16 [.lst (ns.map .int), .int k] [] = .ok (.v (.int r)) [] := fun k => by
    obtain ⟨r, h1, h2⟩ := row_ok (fns tabs.T 3) ns k []
    exact ⟨r, h1, (call_of (d := d__law_row) rfl rfl rfl).trans h2⟩
  have cs : ∀ r : Int, ∃ T : List Int, T.length < 100 ∧ (∀ x ∈ T, 0 ≤ x ∧ x < 40) ∧ (fns tabs.T 4).call 17 [.int r, .int 40] [] = .ok (.l (T.map .int)) [] := fun r => by
    obtain ⟨T, h1, h2, h3⟩ := ev_set (fns tabs.T 3) r []
    have := M77.asc_len T 0 40 (by decide) h1 h2
    exact ⟨T, by omega, h2, (call_of (d := d__law_set) rfl rfl rfl).trans h3⟩
  have ct : ∀ (r : Int) (T : List Int), T.length < 100 → ∃ Y N : List Pr, Tl Y N T ∧ (fns tabs.T 4).call 18 [.int r, .lst (T.map .int), .int 40] [] = .ok (.v (ln Y N)) [] := fun r T hT => by
    obtain ⟨Y, N, ly, ln', gy, gn, q⟩ := ev_told (fns tabs.T 3) r T []
    refine ⟨Y, N, ⟨ly, ln', hT, fun t w => ?_, fun t w => ?_⟩, (call_of (d := d__law_told) rfl rfl rfl).trans q⟩
    · obtain ⟨p, h1, h2, h3⟩ := within_iff.mp w
      obtain ⟨g1, g2⟩ := gy p h1
      have : p.1 = t := by omega
      rw [← this]; exact g2
    · obtain ⟨p, h1, h2, h3⟩ := within_iff.mp w
      obtain ⟨g1, g2, g3, g4⟩ := gn p h1
      have : p.1 = t := by omega
      rw [← this]; exact ⟨g2, g3, g4⟩
  obtain ⟨r0, p0, q0⟩ := cr 0
  obtain ⟨r1, _, q1⟩ := cr 1
  obtain ⟨r2, _, q2⟩ := cr 2
  obtain ⟨r3, _, q3⟩ := cr 3
  obtain ⟨r4, _, q4⟩ := cr 4
  have q0 : (fns tabs.T 4).call 16 [.lst (ns.map .int), .int 0] [] = .ok (.v (.int r0)) [] := q0
  have q1 : (fns tabs.T 4).call 16 [.lst (ns.map .int), .int 1] [] = .ok (.v (.int r1)) [] := q1
  have q2 : (fns tabs.T 4).call 16 [.lst (ns.map .int), .int 2] [] = .ok (.v (.int r2)) [] := q2
  have q3 : (fns tabs.T 4).call 16 [.lst (ns.map .int), .int 3] [] = .ok (.v (.int r3)) [] := q3
  have q4 : (fns tabs.T 4).call 16 [.lst (ns.map .int), .int 4] [] = .ok (.v (.int r4)) [] := q4
  obtain ⟨A, la, ba, qa⟩ := cs r1
  obtain ⟨B, lb', bb, qb⟩ := cs r2
  obtain ⟨Y, N, ta, qo⟩ := ct r3 A la
  obtain ⟨Y2, N2, tb, qt⟩ := ct r4 B lb'
  obtain ⟨d, hd⟩ : ∃ d : Int, d = r0 % 7 := ⟨_, rfl⟩
  have h1 : 0 ≤ d := by omega
  have h2 : d < 50 := by omega
  have l7 := fun r0 r1 r7 r8 r9 => ev_l7 [] h1 h2 ta tb r0 r1 r7 r8 r9
  have x1 := fun r0 r1 r2 r4 r5 r6 r7 r8 r9 r10 r11 r12 r13 => ev_cl1 (fns tabs.T 4) [] A r0 r1 r2 r4 r5 r6 r7 r8 r9 r10 r11 r12 r13
  have x2 := fun r0 r1 r2 r5 r6 r7 r8 r9 r10 r11 r12 r13 => ev_cl2 (fns tabs.T 4) [] A B (by omega) r0 r1 r2 r5 r6 r7 r8 r9 r10 r11 r12 r13
  have x3 := fun r0 r1 r2 r5 r6 r7 r8 r9 r10 r11 r12 r13 => ev_cl3 (fns tabs.T 4) [] A B (by omega) r0 r1 r2 r5 r6 r7 r8 r9 r10 r11 r12 r13
  have x4 := ev_cl4 (fns tabs.T 4) []
  have x5 := ev_cl5 (fns tabs.T 4) []
  have n6 : (fns tabs.T 4).call 6 [ln Y N] [] = _ := c6 [] 3 Y N
  have n7 : (fns tabs.T 4).call 7 [ln Y N, ln Y2 N2] [] = _ := c7 [] 2 Y N Y2 N2 (by have := ta.ly; omega) (by have := ta.ln; omega) (by have := tb.ly; omega) (by have := tb.ln; omega)
  have n8 : (fns tabs.T 4).call 8 [ln Y N, ln Y2 N2] [] = _ := c8 [] 1 Y N Y2 N2 (by have := ta.ly; omega) (by have := ta.ln; omega) (by have := tb.ly; omega) (by have := tb.ln; omega)
  have g6 : (fns tabs.T 4).call 20 [_, .lst (List.map .int ((rng 40).filter fun t => !decide (t ∈ A))), .int 40] [] = _ := c20 [] 2 N Y ((rng 40).filter fun t => !decide (t ∈ A)) (fun t w1 w2 => by
    rw [mem_f w1 w2]
    refine ⟨fun z => ?_, fun z => ?_⟩
    · rw [decide_eq_false (ta.n t z).1]; rfl
    · rw [decide_eq_true (ta.y t z)]; decide)
  have g7 : (fns tabs.T 4).call 20 [_, .lst (List.map .int (A.filter fun t => decide (t ∈ B))), .int 40] [] = _ := c20 [] 2 (joined (common Y Y2)) (joined (N ++ N2)) (A.filter fun t => decide (t ∈ B)) (fun t w1 w2 => by
    rw [(joined_ok _).2, (joined_ok _).2, common_within, within_append, Bool.and_eq_true, Bool.or_eq_true, List.mem_filter, decide_eq_true_eq]
    refine ⟨fun z => ⟨ta.y t z.1, tb.y t z.2⟩, fun z z2 => ?_⟩
    rcases z with z | z
    · exact (ta.n t z).1 z2.1
    · exact (tb.n t z).1 z2.2)
  have perm := Snd.sortBy_perm (fun a b : Int => decide (a < b)) (A ++ B.filter fun t => !decide (t ∈ A))
  have g8 : (fns tabs.T 4).call 20 [_, .lst (List.map .int (sortBy (fun a b : Int => decide (a < b)) (A ++ B.filter fun t => !decide (t ∈ A)))), .int 40] [] = _ := c20 [] 2 (joined (Y ++ Y2)) (joined (common N N2)) _ (fun t w1 w2 => by
    rw [(joined_ok _).2, (joined_ok _).2, common_within, within_append, Bool.and_eq_true, Bool.or_eq_true, perm.mem_iff, List.mem_append, List.mem_filter, Bool.not_eq_true', decide_eq_false_iff_not]
    refine ⟨fun z => ?_, fun z z2 => ?_⟩
    · by_cases c : t ∈ A
      · exact .inl c
      · rcases z with z | z
        · exact .inl (ta.y t z)
        · exact .inr ⟨tb.y t z, c⟩
    · rcases z2 with z2 | z2
      · exact (ta.n t z.1).1 z2
      · exact (tb.n t z.2).1 z2.1)
  have so : sortedV (.lst (A.map .int ++ (B.filter fun t => !decide (t ∈ A)).map .int)) = some ((sortBy (fun a b : Int => decide (a < b)) (A ++ B.filter fun t => !decide (t ∈ A))).map .int) := by
    rw [← List.map_append]
    have io : ∀ xs : List Int, intsOf (xs.map D.int) = some xs := fun xs => by
      induction xs with
      | nil => rfl
      | cons x xs ih => rw [List.map_cons]; unfold intsOf; rw [ih]; rfl
    unfold sortedV
    simp only [io]
  have lc : A.length + (B.filter fun t => !decide (t ∈ A)).length ≤ line := by
    have := List.length_filter_le (fun t => !decide (t ∈ A)) B
    unfold line; omega
  have ar : (ticks (-8) (-1)).map D.int ++ (ticks 40 49).map D.int = around.map .int := by unfold around; rw [List.map_append]
  have lr : (ticks (-8) (-1)).length + (ticks 40 49).length ≤ line := by rw [len_ticks, len_ticks]; decide
  generalize ((rng 40).filter fun t => !decide (t ∈ A)) = M1 at x1 g6
  generalize (A.filter fun t => decide (t ∈ B)) = M2 at x2 g7
  generalize (B.filter fun t => !decide (t ∈ A)) = M3 at x3 so lc g8
  generalize sortBy (fun a b : Int => decide (a < b)) (A ++ M3) = M4 at so g8
  simp -implicitDefEqProofs [evE, evB, evEs, evOe, evT, evL, evIt, evOt, evS, binV, cmpV, setTg, fill, itOk, callD, d_law, envOf, q0, q1, q2, q3, q4, qa, qb, qo, qt, x1, x2, x3, x4, x5, n6, n7, n8, g6, g7, g8, so, lc, ar, lr, l7, ← hd, Ret.d]
end
end K77

set_option Elab.async false
set_option linter.all false
set_option maxRecDepth 100000
set_option maxHeartbeats 0
open PySem PySem.W PySem.Calls PyProof.Rows
theorem PySem.Challenge.cw_orrery_k77_conditions_over_time_are_righ_holds : PySem.Challenge.rw_orrery_k77_conditions_over_time_are_righ.Holds := by
  w_on; o_law
  refine HandSHeadRun.head_any (r := OpenLaw.row PySem.Challenge.rw_orrery_k77_conditions_over_time_are_righ) (q := view (OpenLaw.row PySem.Challenge.rw_orrery_k77_conditions_over_time_are_righ).prog [24]) (H := K77.hk) (ob := K77.ob) (M := 4000) (loose := K77.names) (d := HandSHeadRun.topDef (OpenLaw.row PySem.Challenge.rw_orrery_k77_conditions_over_time_are_righ).prog 24) (kwd := []) K77.ob_eq
    (by kernel_rfl) (fun s => by kernel_rfl) K77.run (by kernel_rfl) (by kernel_rfl) (by kernel_rfl) (by rfl) (by first | assumption | decide +kernel) (by decide +kernel) ⟨rfl, rfl, rfl, rfl, rfl, by decide +kernel⟩ ?hw ?hc
  case hw => w_witness2
  case hc =>
    exact Snd.law_walk (l := PySem.Challenge.rw_orrery_k77_conditions_over_time_are_righ) (n := 63) (k := 4) (lf := 22) (t := K77.tabs) (e := K77.e_22) (x := "_law_script") K77.tabs_ok K77.binds rfl (by kernel_rfl) rfl (fun _ _ z => z) rfl (by decide) (by kernel_rfl) ⟨rfl, by decide, by decide⟩ K77.law_ok

