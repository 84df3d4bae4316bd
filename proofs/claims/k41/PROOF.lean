import PyProof.Rows.All
import Wide.All
import OpenK.AllK
import Wide.FinOn
import HandS.ForMost
import HandS.WordsExc
import HandS.Gcd
import HandS.Wide
import HandS.EndBits
import HandS.Small
import HandS.IsInst
import HandS.Deep
import PyProof.Rows.StrOr
import HandS.TupAny
import HandS.Text
import KE.IntTextLaws
import KE.KIntText
import HandS.Iter
import HandS.Comp
import HandS.TryOnly
import PyProof.Rows.Walk
import PySem.Challenge.RW_commonground_k41_new_tableau
set_option Elab.async false
/-! Core: data without addresses, a store, a small syntax tree and its predicate transformer. Core Lean alone. -/
namespace Py

/-- the most items of a list, signs of a text -/
abbrev lim : Nat := 16777216

/-! ### data -/
inductive D where
  | non
  | bl (b : Bool)
  | int (i : Int)
  | str (s : List Nat)
  /-- a tuple -/
  | tup (ds : List D)
  /-- a list that is never changed -/
  | lst (ds : List D)
  /-- the script -/
  | scr (ns : List Int)
  /-- an object that may be changed: it stands in the store -/
  | ref (a : Nat)
  /-- a class as a value -/
  | ty (n : String)

inductive Obj where
  | lst (ds : List D)
  | ins (c : String) (fs : List (String × D))

abbrev Store := Nat → Option Obj
def put (S : Store) (a : Nat) (o : Obj) : Store := fun b => if b = a then some o else S b
theorem put_same {S : Store} {a : Nat} {o : Obj} : put S a o a = some o := if_pos rfl
theorem put_ne {S : Store} {a b : Nat} {o : Obj} (h : b ≠ a) : put S a o b = S b := if_neg h
theorem ne_of_get {S : Store} {a b : Nat} {o : Obj} (h : S a = some o) (h' : S b = none) : a ≠ b := by
  intro e; subst e; rw [h] at h'; cases h'

mutual
/-- plain data: no object, no class -/
def D.pure : D → Bool
  | .ref _ => false
  | .scr _ => false
  | .ty _ => false
  | .tup ds => D.pureL ds
  | .lst ds => D.pureL ds
  | _ => true
def D.pureL : List D → Bool
  | [] => true
  | d :: ds => D.pure d && D.pureL ds
end

mutual
/-- of depth at most n -/
def D.flat : D → Nat → Bool
  | .tup ds, n => match n with | 0 => false | k + 1 => D.flatL ds k
  | .lst ds, n => match n with | 0 => false | k + 1 => D.flatL ds k
  | .str s, _ => s.all fun c => decide (c < 1114112)
  | _, _ => true
def D.flatL : List D → Nat → Bool
  | [], _ => true
  | d :: ds, n => D.flat d n && D.flatL ds n
end

mutual
/-- == of Python, on plain data -/
def D.eqv : D → D → Bool
  | .non, e => match e with | .non => true | _ => false
  | .bl a, e => match e with | .bl b => a == b | .int j => (if a then (1 : Int) else 0) == j | _ => false
  | .int i, e => match e with | .int j => i == j | .bl b => i == (if b then (1 : Int) else 0) | _ => false
  | .str s, e => match e with | .str t => s == t | _ => false
  | .tup a, e => match e with | .tup b => D.eqvL a b | _ => false
  | .lst a, e => match e with | .lst b => D.eqvL a b | _ => false
  | .ref _, _ => false
  | .scr _, _ => false
  | .ty _, _ => false
def D.eqvL : List D → List D → Bool
  | [], e => match e with | [] => true | _ :: _ => false
  | a :: as, e => match e with | [] => false | b :: bs => D.eqv a b && D.eqvL as bs
end

mutual
/-- data as they are read: lists of the store become lists -/
def rd (S : Store) : D → Option D
  | .tup ds => (rdL S ds).map D.tup
  | .lst ds => (rdL S ds).map D.lst
  | .ref a => match S a with | some (.lst ds) => if D.pureL ds then some (.lst ds) else none | _ => none
  | .ty _ => none
  | .scr _ => none
  | .non => some .non
  | .bl b => some (.bl b)
  | .int i => some (.int i)
  | .str s => some (.str s)
def rdL (S : Store) : List D → Option (List D)
  | [] => some []
  | d :: ds => (rd S d).bind fun x => (rdL S ds).map (x :: ·)
end

/-- the items of a list or a tuple -/
def itemsOf (S : Store) : D → Option (List D)
  | .scr ns => some (ns.map .int)
  | .tup ds => some ds
  | .lst ds => some ds
  | .ref a => match S a with | some (.lst ds) => some ds | _ => none
  | _ => none
/-- the items of a list -/
def listOf (S : Store) : D → Option (List D)
  | .lst ds => some ds
  | .ref a => match S a with | some (.lst ds) => some ds | _ => none
  | _ => none

/-- the place of an index -/
def ixN (n : Nat) (i : Int) : Option Nat := if 0 ≤ i then (if i < n then some i.toNat else none) else if -(n : Int) ≤ i then some (i + n).toNat else none
def atI {α : Type} (xs : List α) (i : Int) : Option α := (ixN xs.length i).bind fun j => xs[j]?
/-- a slice's ends -/
def sIx (n d : Nat) : Option Int → Nat
  | none => d
  | some v => if v < 0 then (v + n).toNat else min v.toNat n
def cutL {α : Type} (xs : List α) (lo hi : Option Int) : List α := (xs.drop (sIx xs.length 0 lo)).take (sIx xs.length xs.length hi - sIx xs.length 0 lo)

/-! ### the syntax tree -/
inductive Bop | add | sub | mul | fdiv | mod | pow
  deriving DecidableEq
inductive Cop | lt | le | gt | ge | eq | ne | isin | notin
  deriving DecidableEq
inductive Cst | non | bl (b : Bool) | int (i : Int) | str (s : List Nat)
def Cst.d : Cst → D
  | .non => .non | .bl b => .bl b | .int i => .int i | .str s => .str s
/-- built-ins by their names -/
inductive Blt | len | abs | gcd | int | str | tuple | list | lrange | isinst
  deriving DecidableEq
/-- methods of built-in types -/
inductive Bme | append | extend | pop | popAt
  deriving DecidableEq
/-- targets: a name, or several -/
inductive Tg | nm (i : Nat) | tp (is : List Nat)

mutual
inductive Ex where
  | var (i : Nat)
  | cst (c : Cst)
  /-- a constant of the module -/
  | glb (i : Nat)
  /-- a class as a value -/
  | cls (n : String)
  | neg (a : Ex)
  | bin (o : Bop) (a b : Ex)
  | cmp (o : Cop) (a b : Ex)
  | chn (o p : Cop) (a b c : Ex)
  | isN (a : Ex)
  | noN (a : Ex)
  | and (es : Exs)
  | or (es : Exs)
  | not (a : Ex)
  | ite (c a b : Ex)
  | tup (es : Exs)
  | lst (m : Bool) (es : Exs)
  | idx (a i : Ex)
  | slc (a : Ex) (lo hi : Opt)
  | fld (o : Ex) (f : String)
  | call (f : Nat) (es : Exs)
  | new (c : String) (f : Nat) (es : Exs)
  | meth (o : Ex) (m : String) (t : List (String × Nat)) (es : Exs)
  | blt (b : Blt) (m : Bool) (es : Exs)
  | bme (o : Ex) (b : Bme) (es : Exs)
  /-- [elt for tg in it if c] -/
  | comp (m : Bool) (elt : Ex) (tg : Tg) (it : It) (c : Opt)
inductive Exs where
  | nil
  | cons (e : Ex) (es : Exs)
inductive Opt where
  | no
  | yes (e : Ex)
/-- what a for walks -/
inductive It where
  | of (e : Ex)
  | rng1 (a : Ex)
  | rng2 (a b : Ex)
  | zip (a b : Ex)
  | enm (a : Ex)
end

/-- what an except suite may hold -/
inductive Hx where
  | cst (c : Cst)
  | inst (c : String)
  | pair (a b : Hx)
inductive Hs where
  | ret (h : Hx)
  /-- if isinstance(e, a) and isinstance(e, b): return h; r -/
  | ifi (cs : List String) (h : Hx) (r : Hs)

mutual
inductive St where
  | asg (i : Nat) (e : Ex)
  | unp (is : List Nat) (e : Ex)
  | par (i j : Nat) (a b : Ex)
  | fset (o : Ex) (f : String) (e : Ex)
  | iset (o i e : Ex)
  | aug (i : Nat) (o : Bop) (e : Ex)
  | augF (o : Ex) (f : String) (p : Bop) (e : Ex)
  | exp (e : Ex)
  | ret (e : Ex)
  | retN
  | ifs (c : Ex) (a b : Sts)
  | for (tg : Tg) (it : It) (b : Sts)
  | whl (c : Ex) (b : Sts)
  | brk
  | pass
  /-- raise C() -/
  | rai (c : String)
  /-- try: body except C (as i): suite -/
  | try (b : Sts) (c : String) (i : Option Nat) (h : Hs)
inductive Sts where
  | nil
  | cons (s : St) (r : Sts)
end

/-! ### what is wanted -/
structure Exc where
  cls : String
  fs : List (String × D) := []
abbrev Env := List (Option D)
abbrev Post := D → Store → Prop
/-- a def's promise: arguments, store, what is wanted of the value, of an error -/
abbrev Sp := List D → Store → Post → (Exc → Store → Prop) → Prop
structure Cfg where
  fn : Nat → Sp
  gl : Nat → D
  /-- the classes that an instance of a class is an instance of -/
  sub : String → String → Bool
  /-- the attributes of a class's instances -/
  fld : String → String → Bool
structure Ends where
  nx : Env → Store → Prop
  rt : Post
  bk : Env → Store → Prop
  ex : Exc → Env → Store → Prop

def mulOk (i j : Int) : Prop := i.natAbs.log2 + j.natAbs.log2 < 134000000
def divOk (_ j : Int) : Prop := j ≠ 0 ∧ j.natAbs.log2 < 9000
def powOk (i j : Int) : Prop := 0 ≤ j ∧ j ≤ 1000000 ∧ i.natAbs < 2 ^ 64

/-- a new list: frozen, or an object of the store -/
def newL (m : Bool) (ds : List D) (S : Store) (Q : Post) : Prop :=
  ds.length ≤ lim ∧ match m with
  | false => Q (.lst ds) S
  | true => ∀ a, S a = none → Q (.ref a) (put S a (.lst ds))

def binW (o : Bop) (x y : D) (S : Store) (Q : Post) : Prop :=
  match x, y with
  | .int i, .int j => match o with
    | .add => Q (.int (i + j)) S
    | .sub => Q (.int (i - j)) S
    | .mul => mulOk i j ∧ Q (.int (i * j)) S
    | .fdiv => divOk i j ∧ Q (.int (i.fdiv j)) S
    | .mod => j ≠ 0 ∧ Q (.int (i.fmod j)) S
    | .pow => powOk i j ∧ Q (.int (i ^ j.toNat)) S
  | .str s, .str t => match o with
    | .add => s.length + t.length ≤ lim ∧ Q (.str (s ++ t)) S
    | _ => False
  | .tup a, .tup b => match o with
    | .add => a ≠ [] ∧ a.length + b.length ≤ lim ∧ Q (.tup (a ++ b)) S
    | _ => False
  | x, y => match o with
    | .add => ∃ a b, listOf S x = some a ∧ listOf S y = some b ∧ a.length + b.length ≤ lim ∧ Q (.lst (a ++ b)) S
    | _ => False

/-- x op= y of two ints, of two texts -/
def augW (o : Bop) (x y : D) (S : Store) (Q : Post) : Prop :=
  match o, x, y with
  | .add, .int i, .int j => Q (.int (i + j)) S
  | .sub, .int i, .int j => Q (.int (i - j)) S
  | .mul, .int i, .int j => mulOk i j ∧ Q (.int (i * j)) S
  | .add, .str s, .str t => s.length + t.length ≤ lim ∧ Q (.str (s ++ t)) S
  | _, _, _ => False

/-- data that == and in may read -/
def eqOk (S : Store) (x : D) (p : D) : Prop := rd S x = some p ∧ p.flat 60 = true
def cmpW (o : Cop) (x y : D) (S : Store) (Q : Bool → Prop) : Prop :=
  match o with
  | .lt => ∃ i j, x = .int i ∧ y = .int j ∧ Q (decide (i < j))
  | .le => ∃ i j, x = .int i ∧ y = .int j ∧ Q (decide (i ≤ j))
  | .gt => ∃ i j, x = .int i ∧ y = .int j ∧ Q (decide (j < i))
  | .ge => ∃ i j, x = .int i ∧ y = .int j ∧ Q (decide (j ≤ i))
  | .eq => match x, y with
    | .str s, .str t => Q (s == t)
    | x, y => ∃ p q, eqOk S x p ∧ eqOk S y q ∧ Q (D.eqv p q)
  | .ne => match x, y with
    | .str s, .str t => Q (!(s == t))
    | x, y => ∃ p q, eqOk S x p ∧ eqOk S y q ∧ Q (!D.eqv p q)
  | .isin => match y with
    | .str t => ∃ c, x = .str [c] ∧ Q (decide (c ∈ t))
    | _ => ∃ ys p qs, itemsOf S y = some ys ∧ eqOk S x p ∧ rdL S ys = some qs ∧ D.flatL qs 60 = true ∧ Q (qs.any fun q => D.eqv q p)
  | .notin => match y with
    | .str t => ∃ c, x = .str [c] ∧ Q (!decide (c ∈ t))
    | _ => ∃ ys p qs, itemsOf S y = some ys ∧ eqOk S x p ∧ rdL S ys = some qs ∧ D.flatL qs 60 = true ∧ Q (!qs.any fun q => D.eqv q p)

def idxW (x i : D) (S : Store) (Q : Post) : Prop :=
  match x with
  | .str s => ∃ k c, i = .int k ∧ s.length ≤ lim ∧ atI s k = some c ∧ Q (.str [c]) S
  | _ => ∃ k xs d, i = .int k ∧ itemsOf S x = some xs ∧ atI xs k = some d ∧ Q d S
def slcW (x : D) (lo hi : Option Int) (S : Store) (Q : Post) : Prop :=
  match x with
  | .str s => s.length ≤ lim ∧ Q (.str (cutL s lo hi)) S
  | .tup ds => Q (.tup (cutL ds lo hi)) S
  | x => ∃ ds, listOf S x = some ds ∧ Q (.lst (cutL ds lo hi)) S
def fldW (x : D) (f : String) (S : Store) (Q : Post) : Prop :=
  ∃ a c fs d, x = .ref a ∧ S a = some (.ins c fs) ∧ fs.lookup f = some d ∧ Q d S
def fput (f : String) (d : D) : List (String × D) → List (String × D)
  | [] => [(f, d)]
  | (g, e) :: r => if g = f then (f, d) :: r else (g, e) :: fput f d r

/-- the class of a value, of the built-in ones -/
def clsOf (S : Store) : D → Option String
  | .non => some "NoneType"
  | .bl _ => some "bool"
  | .int _ => some "int"
  | .str _ => some "str"
  | .tup _ => some "tuple"
  | .lst _ => some "list"
  | .ref a => match S a with | some (.lst _) => some "list" | _ => none
  | _ => none
def subB (c t : String) : Bool := c == t || (c == "bool" && t == "int")
/-- the types that isinstance may name -/
def tys : List String := ["bool", "int", "str", "tuple", "list"]

/-- lo, lo + c, .. -/
def rangeL (lo : Int) (n : Nat) : List D := (List.range n).map fun k => .int (lo + (k : Nat))

/-- the digits of a number that is not negative -/
def digitsN (n : Nat) : List Nat := (Nat.toDigits 10 n).map Char.toNat
/-- str of an int -/
def strI (i : Int) : List Nat := if i < 0 then 45 :: digitsN i.natAbs else digitsN i.natAbs
/-- the decimal digits' number -/
def numN (s : List Nat) : Nat := s.foldl (fun a c => a * 10 + (c - 48)) 0
/-- a text that int(..) reads: digits, perhaps with a sign in front -/
def intOf (s : List Nat) : Option Int :=
  match s with
  | [] => none
  | c :: r => if c = 45 then (if r ≠ [] ∧ r.all (fun c => decide (48 ≤ c ∧ c ≤ 57)) then some (-(numN r : Int)) else none)
    else if (c :: r).all (fun c => decide (48 ≤ c ∧ c ≤ 57)) then some (numN (c :: r) : Int) else none

def bltW (b : Blt) (m : Bool) (vs : List D) (S : Store) (Q : Post) : Prop :=
  match b with
  | .len => ∃ x, vs = [x] ∧ match x with
    | .str s => s.length ≤ lim ∧ Q (.int s.length) S
    | x => ∃ xs, itemsOf S x = some xs ∧ Q (.int xs.length) S
  | .abs => ∃ i, vs = [.int i] ∧ Q (.int (if i < 0 then -i else i)) S
  | .gcd => ∃ i j, vs = [.int i, .int j] ∧ Q (.int ((Nat.gcd i.natAbs j.natAbs : Nat) : Int)) S
  | .int => ∃ x, vs = [x] ∧ match x with
    | .int i => Q (.int i) S
    | .bl k => Q (.int (if k then 1 else 0)) S
    | .str s => ∃ i, intOf s = some i ∧ s.length ≤ 640 ∧ Q (.int i) S
    | _ => False
  | .str => ∃ i, vs = [.int i] ∧ i.natAbs < 10 ^ 4300 ∧ Q (.str (strI i)) S
  | .tuple => ∃ x xs, vs = [x] ∧ itemsOf S x = some xs ∧ Q (.tup xs) S
  | .list => ∃ x xs, vs = [x] ∧ itemsOf S x = some xs ∧ newL m xs S Q
  | .lrange => (∃ j, vs = [.int j] ∧ -(2 ^ 62) ≤ j ∧ j < 2 ^ 62 ∧ j ≤ lim ∧ newL m (rangeL 0 j.toNat) S Q) ∨
    ∃ i j, vs = [.int i, .int j] ∧ (-(2 ^ 62) ≤ i ∧ i < 2 ^ 62 ∧ -(2 ^ 62) ≤ j ∧ j < 2 ^ 62 ∧ j - i ≤ lim) ∧ newL m (rangeL i (j - i).toNat) S Q
  | .isinst => ∃ x t c, vs = [x, .ty t] ∧ clsOf S x = some c ∧ t ∈ tys ∧ Q (.bl (subB c t)) S

def bmeW (b : Bme) (x : D) (vs : List D) (S : Store) (Q : Post) : Prop :=
  match b with
  | .append => ∃ a xs d, x = .ref a ∧ vs = [d] ∧ S a = some (.lst xs) ∧ xs.length < lim ∧ Q .non (put S a (.lst (xs ++ [d])))
  | .extend => ∃ a xs y ys, x = .ref a ∧ vs = [y] ∧ S a = some (.lst xs) ∧ listOf S y = some ys ∧ xs.length + ys.length ≤ lim ∧ Q .non (put S a (.lst (xs ++ ys)))
  | .pop => ∃ a xs d, x = .ref a ∧ vs = [] ∧ S a = some (.lst xs) ∧ xs[xs.length - 1]? = some d ∧ Q d (put S a (.lst xs.dropLast))
  | .popAt => ∃ a xs i k d, x = .ref a ∧ vs = [.int i] ∧ S a = some (.lst xs) ∧ ixN xs.length i = some k ∧ xs[k]? = some d ∧ Q d (put S a (.lst (xs.eraseIdx k)))

/-- what a method is called of -/
def recvW (_ : Bme) (x : D) (S : Store) : Prop := ∃ a xs, x = .ref a ∧ S a = some (.lst xs)

/-- the target's names get the item -/
def bindW (t : Tg) (x : D) (ρ : Env) (K : Env → Prop) : Prop :=
  match t with
  | .nm i => K (ρ.set i (some x))
  | .tp is => ∃ xs, x = .tup xs ∧ xs.length = is.length ∧ K ((is.zip xs).foldl (fun r p => r.set p.1 (some p.2)) ρ)
def tgs : Tg → List Nat
  | .nm i => [i]
  | .tp is => is
/-- names forgotten -/
def wipeE (ρ : Env) : List Nat → Env
  | [] => ρ
  | i :: is => (wipeE ρ is).set i none

/-- the items that are walked: the list of the store behind them stays as it is -/
abbrev Src := List D × (Store → Prop)
def walkOf (S : Store) (x : D) (K : List D → (Store → Prop) → Prop) : Prop :=
  match x with
  | .tup ds => K ds fun _ => True
  | .lst ds => K ds fun _ => True
  | .str s => K (s.map fun c => .str [c]) fun _ => True
  | .ref a => ∃ ds, S a = some (.lst ds) ∧ K ds fun S' => S' a = some (.lst ds)
  | _ => False

/-- a loop over items by an invariant -/
def loopW (ds : List D) (st : Store → Prop) (turn : D → Env → Store → (Env → Store → Prop) → Prop) (ρ : Env) (S : Store) (nx : Env → Store → Prop) : Prop :=
  ∃ P : Nat → Env → Store → Prop, P 0 ρ S ∧ (∀ i ρ S, i ≤ ds.length → P i ρ S → st S) ∧
    (∀ i d ρ S, ds[i]? = some d → P i ρ S → turn d ρ S (P (i + 1))) ∧ ∀ ρ S, P ds.length ρ S → nx ρ S

mutual
def wpE (C : Cfg) (X : Exc → Env → Store → Prop) : Ex → Env → Store → Post → Prop
  | .var i, ρ, S, Q => ∃ d, ρ[i]? = some (some d) ∧ Q d S
  | .cst c, _, S, Q => Q c.d S
  | .glb i, _, S, Q => Q (C.gl i) S
  | .cls n, _, S, Q => Q (.ty n) S
  | .neg a, ρ, S, Q => wpE C X a ρ S fun x S1 => ∃ i, x = .int i ∧ Q (.int (-i)) S1
  | .bin o a b, ρ, S, Q => wpE C X a ρ S fun x S1 => wpE C X b ρ S1 fun y S2 => binW o x y S2 Q
  | .cmp o a b, ρ, S, Q => wpE C X a ρ S fun x S1 => wpE C X b ρ S1 fun y S2 => cmpW o x y S2 fun k => Q (.bl k) S2
  | .chn o p a b c, ρ, S, Q => wpE C X a ρ S fun x S1 => wpE C X b ρ S1 fun y S2 => cmpW o x y S2 fun k =>
      if k = true then wpE C X c ρ S2 fun z S3 => cmpW p y z S3 fun k => Q (.bl k) S3 else Q (.bl false) S2
  | .isN a, ρ, S, Q => wpE C X a ρ S fun x S1 => Q (.bl (match x with | .non => true | _ => false)) S1
  | .noN a, ρ, S, Q => wpE C X a ρ S fun x S1 => Q (.bl (match x with | .non => false | _ => true)) S1
  | .and es, ρ, S, Q => wpAnd C X es ρ S Q
  | .or es, ρ, S, Q => wpOr C X es ρ S Q
  | .not a, ρ, S, Q => wpE C X a ρ S fun x S1 => ∃ k, x = .bl k ∧ Q (.bl (!k)) S1
  | .ite c a b, ρ, S, Q => wpE C X c ρ S fun x S1 => ∃ k, x = .bl k ∧ if k = true then wpE C X a ρ S1 Q else wpE C X b ρ S1 Q
  | .tup es, ρ, S, Q => wpEs C X es ρ S fun ds S1 => ds.length ≤ lim ∧ Q (.tup ds) S1
  | .lst m es, ρ, S, Q => wpEs C X es ρ S fun ds S1 => newL m ds S1 Q
  | .idx a i, ρ, S, Q => wpE C X a ρ S fun x S1 => wpE C X i ρ S1 fun y S2 => idxW x y S2 Q
  | .slc a lo hi, ρ, S, Q => wpE C X a ρ S fun x S1 => wpO C X lo ρ S1 fun l S2 => wpO C X hi ρ S2 fun h S3 => slcW x l h S3 Q
  | .fld o f, ρ, S, Q => wpE C X o ρ S fun x S1 => fldW x f S1 Q
  | .call f es, ρ, S, Q => wpEs C X es ρ S fun ds S1 => C.fn f ds S1 Q fun x S2 => X x ρ S2
  | .new c f es, ρ, S, Q => wpEs C X es ρ S fun ds S1 => ∀ a, S1 a = none → C.fn f (.ref a :: ds) (put S1 a (.ins c [])) (fun d S2 => d = .non ∧ Q (.ref a) S2) fun x S2 => X x ρ S2
  | .meth o m t es, ρ, S, Q => wpE C X o ρ S fun x S1 => ∃ a c fs f, x = .ref a ∧ S1 a = some (.ins c fs) ∧ fs.lookup m = none ∧ t.lookup c = some f ∧
      wpEs C X es ρ S1 fun ds S2 => C.fn f (x :: ds) S2 Q fun x S3 => X x ρ S3
  | .blt b m es, ρ, S, Q => wpEs C X es ρ S fun ds S1 => bltW b m ds S1 Q
  | .bme o b es, ρ, S, Q => wpE C X o ρ S fun x S1 => recvW b x S1 ∧ wpEs C X es ρ S1 fun ds S2 => bmeW b x ds S2 Q
  | .comp m elt tg it c, ρ, S, Q => wpI C X it ρ S fun ds st S1 =>
      ∃ P : Nat → List D → Store → Prop, P 0 [] S1 ∧ (∀ i acc S, i ≤ ds.length → P i acc S → st S) ∧
        (∀ i d acc S, ds[i]? = some d → P i acc S → acc.length < lim ∧ bindW tg d (wipeE ρ (tgs tg)) fun ρ1 => wpC C c ρ1 S fun k S2 =>
          if k = true then wpE C (fun _ _ _ => False) elt ρ1 S2 fun x S3 => P (i + 1) (acc ++ [x]) S3 else P (i + 1) acc S2) ∧
        ∀ acc S, P ds.length acc S → newL m acc S Q
def wpEs (C : Cfg) (X : Exc → Env → Store → Prop) : Exs → Env → Store → (List D → Store → Prop) → Prop
  | .nil, _, S, Q => Q [] S
  | .cons e es, ρ, S, Q => wpE C X e ρ S fun d S1 => wpEs C X es ρ S1 fun ds S2 => Q (d :: ds) S2
def wpAnd (C : Cfg) (X : Exc → Env → Store → Prop) : Exs → Env → Store → Post → Prop
  | .nil, _, _, _ => False
  | .cons e es, ρ, S, Q => match es with
    | .nil => wpE C X e ρ S Q
    | .cons _ _ => wpE C X e ρ S fun x S1 => ∃ k, x = .bl k ∧ if k = true then wpAnd C X es ρ S1 Q else Q (.bl false) S1
def wpOr (C : Cfg) (X : Exc → Env → Store → Prop) : Exs → Env → Store → Post → Prop
  | .nil, _, _, _ => False
  | .cons e es, ρ, S, Q => match es with
    | .nil => wpE C X e ρ S Q
    | .cons _ _ => wpE C X e ρ S fun x S1 => ∃ k, x = .bl k ∧ if k = true then Q (.bl true) S1 else wpOr C X es ρ S1 Q
def wpO (C : Cfg) (X : Exc → Env → Store → Prop) : Opt → Env → Store → (Option Int → Store → Prop) → Prop
  | .no, _, S, Q => Q none S
  | .yes e, ρ, S, Q => wpE C X e ρ S fun x S1 => ∃ i, x = .int i ∧ Q (some i) S1
/-- a comprehension's test -/
def wpC (C : Cfg) : Opt → Env → Store → (Bool → Store → Prop) → Prop
  | .no, _, S, Q => Q true S
  | .yes e, ρ, S, Q => wpE C (fun _ _ _ => False) e ρ S fun x S1 => ∃ k, x = .bl k ∧ Q k S1
def wpI (C : Cfg) (X : Exc → Env → Store → Prop) : It → Env → Store → (List D → (Store → Prop) → Store → Prop) → Prop
  | .of e, ρ, S, K => wpE C X e ρ S fun x S1 => walkOf S1 x fun ds st => K ds st S1
  | .rng1 a, ρ, S, K => wpE C X a ρ S fun x S1 => ∃ j : Int, x = .int j ∧ -(2 ^ 62) ≤ j ∧ j < 2 ^ 62 ∧ K (rangeL 0 j.toNat) (fun _ => True) S1
  | .rng2 a b, ρ, S, K => wpE C X a ρ S fun x S1 => wpE C X b ρ S1 fun y S2 =>
      ∃ i j : Int, x = .int i ∧ y = .int j ∧ (-(2 ^ 62) ≤ i ∧ i < 2 ^ 62 ∧ -(2 ^ 62) ≤ j ∧ j < 2 ^ 62) ∧ K (rangeL i (j - i).toNat) (fun _ => True) S2
  | .zip a b, ρ, S, K => wpE C X a ρ S fun x S1 => wpE C X b ρ S1 fun y S2 => ∃ as bs, itemsOf S2 x = some as ∧ itemsOf S2 y = some bs ∧
      K ((as.zip bs).map fun p => .tup [p.1, p.2]) (fun S' => itemsOf S' x = some as ∧ itemsOf S' y = some bs) S2
  | .enm a, ρ, S, K => wpE C X a ρ S fun x S1 => ∃ as, itemsOf S1 x = some as ∧
      K ((List.range as.length).zip as |>.map fun p => .tup [.int (p.1 : Nat), p.2]) (fun S' => itemsOf S' x = some as) S1
end

/-- an except suite -/
def hxV (C : Cfg) (c : String) : Hx → D
  | .cst k => k.d
  | .inst t => .bl (C.sub c t)
  | .pair a b => .tup [hxV C c a, hxV C c b]
def hsV (C : Cfg) (c : String) : Hs → D
  | .ret h => hxV C c h
  | .ifi cs h r => if (cs.all fun t => C.sub c t) = true then hxV C c h else hsV C c r

mutual
def wpS (C : Cfg) : St → Ends → Env → Store → Prop
  | .asg i e, N, ρ, S => wpE C N.ex e ρ S fun d S1 => N.nx (ρ.set i (some d)) S1
  | .unp is e, N, ρ, S => wpE C N.ex e ρ S fun d S1 => ∃ xs, itemsOf S1 d = some xs ∧ xs.length = is.length ∧ N.nx ((is.zip xs).foldl (fun r p => r.set p.1 (some p.2)) ρ) S1
  | .par i j a b, N, ρ, S => wpE C N.ex a ρ S fun x S1 => wpE C N.ex b ρ S1 fun y S2 => N.nx ((ρ.set i (some x)).set j (some y)) S2
  | .fset o f e, N, ρ, S => wpE C N.ex e ρ S fun d S1 => wpE C N.ex o ρ S1 fun x S2 => ∃ a c fs, x = .ref a ∧ S2 a = some (.ins c fs) ∧ C.fld c f = true ∧ fs.length < 900 ∧ N.nx ρ (put S2 a (.ins c (fput f d fs)))
  | .iset o i e, N, ρ, S => wpE C N.ex e ρ S fun d S1 => wpE C N.ex o ρ S1 fun x S2 => wpE C N.ex i ρ S2 fun y S3 =>
      ∃ a xs k j, x = .ref a ∧ S3 a = some (.lst xs) ∧ y = .int k ∧ ixN xs.length k = some j ∧ N.nx ρ (put S3 a (.lst (xs.set j d)))
  | .aug i o e, N, ρ, S => ∃ x, ρ[i]? = some (some x) ∧ wpE C N.ex e ρ S fun y S1 => augW o x y S1 fun z S2 => N.nx (ρ.set i (some z)) S2
  | .augF o f p e, N, ρ, S => p = .add ∧ wpE C N.ex o ρ S fun x S1 => ∃ a c fs v, x = .ref a ∧ S1 a = some (.ins c fs) ∧ fs.lookup f = some (.int v) ∧ wpE C N.ex e ρ S1 fun y S2 =>
      ∃ j, y = .int j ∧ ∃ fs', S2 a = some (.ins c fs') ∧ C.fld c f = true ∧ fs'.length < 900 ∧ N.nx ρ (put S2 a (.ins c (fput f (.int (v + j)) fs')))
  | .exp e, N, ρ, S => wpE C N.ex e ρ S fun _ S1 => N.nx ρ S1
  | .ret e, N, ρ, S => wpE C N.ex e ρ S N.rt
  | .retN, N, _, S => N.rt .non S
  | .ifs c a b, N, ρ, S => wpE C N.ex c ρ S fun x S1 => ∃ k, x = .bl k ∧ if k = true then wpSs C a N ρ S1 else wpSs C b N ρ S1
  | .for tg it b, N, ρ, S => wpI C N.ex it ρ S fun ds st S1 => loopW ds st (fun d ρ S nx => bindW tg d ρ fun ρ1 => wpSs C b { N with nx := nx, bk := N.nx } ρ1 S) ρ S1 N.nx
  | .whl c b, N, ρ, S => ∃ W : Nat → Env → Store → Prop, (∃ m, W m ρ S) ∧ ∀ m ρ S, W m ρ S → wpE C N.ex c ρ S fun x S1 => ∃ k, x = .bl k ∧
      if k = true then wpSs C b { N with nx := fun ρ' S' => ∃ m', m' < m ∧ W m' ρ' S', bk := N.nx } ρ S1 else N.nx ρ S1
  | .brk, N, ρ, S => N.bk ρ S
  | .pass, N, ρ, S => N.nx ρ S
  | .rai c, N, ρ, S => N.ex ⟨c, []⟩ ρ S
  | .try b c _ h, N, ρ, S => wpSs C b { N with ex := fun x ρ' S' => if C.sub x.cls c = true then N.rt (hsV C x.cls h) S' else N.ex x ρ' S' } ρ S
def wpSs (C : Cfg) : Sts → Ends → Env → Store → Prop
  | .nil, N, ρ, S => N.nx ρ S
  | .cons s r, N, ρ, S => wpS C s { N with nx := fun ρ' S' => wpSs C r N ρ' S' } ρ S
end
end Py

set_option Elab.async false
/-! PyFz: what a def may do with its store as it ends: forget objects, turn lists that are done into frozen ones. -/
namespace Py
mutual
inductive Fr (S S' : Store) : D → D → Prop
  | same (d : D) : Fr S S' d d
  | tup {ds es : List D} : FrL S S' ds es → Fr S S' (.tup ds) (.tup es)
  | lst {ds es : List D} : FrL S S' ds es → Fr S S' (.lst ds) (.lst es)
  | frz {a : Nat} {ds es : List D} : S a = some (.lst ds) → S' a = none → FrL S S' ds es → Fr S S' (.ref a) (.lst es)
inductive FrL (S S' : Store) : List D → List D → Prop
  | nil : FrL S S' [] []
  | cons {d e : D} {ds es : List D} : Fr S S' d e → FrL S S' ds es → FrL S S' (d :: ds) (e :: es)
end
inductive FrF (S S' : Store) : List (String × D) → List (String × D) → Prop
  | nil : FrF S S' [] []
  | cons {f : String} {d e : D} {ds es : List (String × D)} : Fr S S' d e → FrF S S' ds es → FrF S S' ((f, d) :: ds) ((f, e) :: es)
def FrO (S S' : Store) : Obj → Obj → Prop
  | .lst ds, .lst es => FrL S S' ds es
  | .ins c fs, .ins c' gs => c = c' ∧ FrF S S' fs gs
  | _, _ => False
def FrS (S S' : Store) : Prop := ∀ a o', S' a = some o' → ∃ o, S a = some o ∧ FrO S S' o o'
theorem FrL.same {S S' : Store} : ∀ ds : List D, FrL S S' ds ds
  | [] => .nil
  | _ :: ds => .cons (.same _) (FrL.same ds)
theorem FrF.same {S S' : Store} : ∀ ds : List (String × D), FrF S S' ds ds
  | [] => .nil
  | (_, _) :: ds => .cons (.same _) (FrF.same ds)
theorem FrO.same {S S' : Store} (o : Obj) : FrO S S' o o := by
  cases o with
  | lst ds => exact FrL.same ds
  | ins c fs => exact ⟨rfl, FrF.same fs⟩
theorem FrS.same {S : Store} : FrS S S := fun _ o h => ⟨o, h, .same o⟩
/-- wanted of a def's value -/
def Fin (Q : Post) : Post := fun d S => ∃ d' S', Fr S S' d d' ∧ FrS S S' ∧ Q d' S'
theorem Fin.of {Q : Post} {d : D} {S : Store} (h : Q d S) : Fin Q d S := ⟨d, S, .same d, .same, h⟩
/-- objects forgotten -/
def keepS (S : Store) (p : Nat → Bool) : Store := fun a => if p a = true then S a else none
theorem FrS.keep {S : Store} {p : Nat → Bool} : FrS S (keepS S p) := fun a o h => by
  unfold keepS at h
  split at h
  · exact ⟨o, h, .same o⟩
  · cases h
/-- wanted of a def -/
def EndsOf (Q : Post) (X : Exc → Store → Prop) : Ends := { nx := fun _ S => Fin Q .non S, rt := Fin Q, bk := fun _ _ => False, ex := fun x _ S => X x S }
def DefOk (C : Cfg) (f : Sp) (np ns : Nat) (body : Sts) : Prop := ∀ ds S Q X, f ds S Q X → ds.length = np ∧ wpSs C body (EndsOf Q X) (ds.map some ++ List.replicate (ns - np) none) S
end Py

set_option Elab.async false
set_option linter.all false
set_option maxRecDepth 100000
/-! PyMono: a weaker wish. -/
namespace Py
section
variable {S : Store} {Q Q' : Post}
theorem newL_mono {m : Bool} {ds : List D} (h : newL m ds S Q) (k : ∀ d S, Q d S → Q' d S) : newL m ds S Q' := by
  cases m with
  | true => exact ⟨h.1, fun a n => k _ _ (h.2 a n)⟩
  | false => exact ⟨h.1, k _ _ h.2⟩
theorem binW_mono {o : Bop} {x y : D} (h : binW o x y S Q) (k : ∀ d S, Q d S → Q' d S) : binW o x y S Q' := by
  have ls : ∀ {x y : D}, (∃ a b, listOf S x = some a ∧ listOf S y = some b ∧ a.length + b.length ≤ lim ∧ Q (.lst (a ++ b)) S) → ∃ a b, listOf S x = some a ∧ listOf S y = some b ∧ a.length + b.length ≤ lim ∧ Q' (.lst (a ++ b)) S :=
    fun ⟨a, b, h1, h2, h3, h4⟩ => ⟨a, b, h1, h2, h3, k _ _ h4⟩
  cases x <;> cases y <;> cases o <;> first
    | exact k _ _ h
    | exact ⟨h.1, k _ _ h.2⟩
    | exact ⟨h.1, h.2.1, k _ _ h.2.2⟩
    | exact ls h
    | exact h.elim
theorem augW_mono {o : Bop} {x y : D} (h : augW o x y S Q) (k : ∀ d S, Q d S → Q' d S) : augW o x y S Q' := by
  cases o <;> cases x <;> cases y <;> first
    | exact k _ _ h
    | exact ⟨h.1, k _ _ h.2⟩
    | exact h.elim
theorem cmpW_mono {o : Cop} {x y : D} {Q Q' : Bool → Prop} (h : cmpW o x y S Q) (k : ∀ b, Q b → Q' b) : cmpW o x y S Q' := by
  cases o with
  | lt => obtain ⟨i, j, h1, h2, h3⟩ := h; exact ⟨i, j, h1, h2, k _ h3⟩
  | le => obtain ⟨i, j, h1, h2, h3⟩ := h; exact ⟨i, j, h1, h2, k _ h3⟩
  | gt => obtain ⟨i, j, h1, h2, h3⟩ := h; exact ⟨i, j, h1, h2, k _ h3⟩
  | ge => obtain ⟨i, j, h1, h2, h3⟩ := h; exact ⟨i, j, h1, h2, k _ h3⟩
  | eq => cases x <;> cases y <;> first | exact k _ h | exact (let ⟨p, q, h1, h2, h3⟩ := h; ⟨p, q, h1, h2, k _ h3⟩)
  | ne => cases x <;> cases y <;> first | exact k _ h | exact (let ⟨p, q, h1, h2, h3⟩ := h; ⟨p, q, h1, h2, k _ h3⟩)
  | isin => cases y <;> first | exact (let ⟨a, b, c, h1, h2, h3, h4, h5⟩ := h; ⟨a, b, c, h1, h2, h3, h4, k _ h5⟩) | exact (let ⟨c, h1, h2⟩ := h; ⟨c, h1, k _ h2⟩)
  | notin => cases y <;> first | exact (let ⟨a, b, c, h1, h2, h3, h4, h5⟩ := h; ⟨a, b, c, h1, h2, h3, h4, k _ h5⟩) | exact (let ⟨c, h1, h2⟩ := h; ⟨c, h1, k _ h2⟩)
theorem idxW_mono {x i : D} (h : idxW x i S Q) (k : ∀ d S, Q d S → Q' d S) : idxW x i S Q' := by
  cases x <;> first | exact (let ⟨a, b, c, h1, h2, h3, h4⟩ := h; ⟨a, b, c, h1, h2, h3, k _ _ h4⟩) | exact (let ⟨a, c, h1, h2, h3, h4⟩ := h; ⟨a, c, h1, h2, h3, k _ _ h4⟩)
theorem slcW_mono {x : D} {l r : Option Int} (h : slcW x l r S Q) (k : ∀ d S, Q d S → Q' d S) : slcW x l r S Q' := by
  cases x <;> first | exact (let ⟨a, h1, h2⟩ := h; ⟨a, h1, k _ _ h2⟩) | exact k _ _ h | exact ⟨h.1, k _ _ h.2⟩
theorem fldW_mono {x : D} {f : String} (h : fldW x f S Q) (k : ∀ d S, Q d S → Q' d S) : fldW x f S Q' := let ⟨a, c, fs, d, h1, h2, h3, h4⟩ := h; ⟨a, c, fs, d, h1, h2, h3, k _ _ h4⟩
theorem bltW_mono {b : Blt} {m : Bool} {vs : List D} (h : bltW b m vs S Q) (k : ∀ d S, Q d S → Q' d S) : bltW b m vs S Q' := by
  cases b with
  | len => obtain ⟨x, h1, h2⟩ := h; refine ⟨x, h1, ?_⟩; cases x <;> first | exact ⟨h2.1, k _ _ h2.2⟩ | exact (let ⟨a, b, c⟩ := h2; ⟨a, b, k _ _ c⟩)
  | abs => obtain ⟨x, h1, h2⟩ := h; exact ⟨x, h1, k _ _ h2⟩
  | gcd => obtain ⟨x, y, h1, h2⟩ := h; exact ⟨x, y, h1, k _ _ h2⟩
  | int => obtain ⟨x, h1, h2⟩ := h; refine ⟨x, h1, ?_⟩; cases x <;> first | exact k _ _ h2 | exact h2.elim | exact (let ⟨a, b, c, d⟩ := h2; ⟨a, b, c, k _ _ d⟩)
  | str => obtain ⟨x, h1, h2, h3⟩ := h; exact ⟨x, h1, h2, k _ _ h3⟩
  | tuple => obtain ⟨x, y, h1, h2, h3⟩ := h; exact ⟨x, y, h1, h2, k _ _ h3⟩
  | list => obtain ⟨x, y, h1, h2, h3⟩ := h; exact ⟨x, y, h1, h2, newL_mono h3 k⟩
  | lrange => rcases h with ⟨j, h1, h2, h3, h4, h5⟩ | ⟨i, j, h1, h2, h3⟩; exact .inl ⟨j, h1, h2, h3, h4, newL_mono h5 k⟩; exact .inr ⟨i, j, h1, h2, newL_mono h3 k⟩
  | isinst => obtain ⟨x, t, c, h1, h2, h3, h4⟩ := h; exact ⟨x, t, c, h1, h2, h3, k _ _ h4⟩
theorem bmeW_mono {b : Bme} {x : D} {vs : List D} (h : bmeW b x vs S Q) (k : ∀ d S, Q d S → Q' d S) : bmeW b x vs S Q' := by
  cases b with
  | append => obtain ⟨a, xs, d, h1, h2, h3, h4, h5⟩ := h; exact ⟨a, xs, d, h1, h2, h3, h4, k _ _ h5⟩
  | extend => obtain ⟨a, xs, y, ys, h1, h2, h3, h4, h5, h6⟩ := h; exact ⟨a, xs, y, ys, h1, h2, h3, h4, h5, k _ _ h6⟩
  | pop => obtain ⟨a, xs, d, h1, h2, h3, h4, h5⟩ := h; exact ⟨a, xs, d, h1, h2, h3, h4, k _ _ h5⟩
  | popAt => obtain ⟨a, xs, i, j, d, h1, h2, h3, h4, h5, h6⟩ := h; exact ⟨a, xs, i, j, d, h1, h2, h3, h4, h5, k _ _ h6⟩
theorem bindW_mono {t : Tg} {x : D} {ρ : Env} {K K' : Env → Prop} (h : bindW t x ρ K) (k : ∀ ρ, K ρ → K' ρ) : bindW t x ρ K' := by
  cases t with
  | nm i => exact k _ h
  | tp is => obtain ⟨xs, h1, h2, h3⟩ := h; exact ⟨xs, h1, h2, k _ h3⟩
theorem walkOf_mono {x : D} {K K' : List D → (Store → Prop) → Prop} (h : walkOf S x K) (k : ∀ ds st, K ds st → K' ds st) : walkOf S x K' := by
  cases x <;> first | exact k _ _ h | exact h.elim | exact (let ⟨a, h1, h2⟩ := h; ⟨a, h1, k _ _ h2⟩)
end
/-- the promises let a wish be weakened -/
def Mono (C : Cfg) : Prop := ∀ f ds S (Q Q' : Post) (E E' : Exc → Store → Prop), (∀ d S, Q d S → Q' d S) → (∀ x S, E x S → E' x S) → C.fn f ds S Q E → C.fn f ds S Q' E'
theorem ite_mono {b : Bool} {A B A' B' : Prop} (h : if b = true then A else B) (h1 : A → A') (h2 : B → B') : if b = true then A' else B' := by
  cases b with
  | true => rw [if_pos rfl] at h ⊢; exact h1 h
  | false => rw [if_neg Bool.false_ne_true] at h ⊢; exact h2 h
theorem kif_mono {x : D} {A B A' B' : Bool → Prop} (h : ∃ k, x = .bl k ∧ if k = true then A k else B k) (h1 : A true → A' true) (h2 : B false → B' false) : ∃ k, x = .bl k ∧ if k = true then A' k else B' k := by
  obtain ⟨k, e, h⟩ := h
  refine ⟨k, e, ?_⟩
  cases k with
  | true => rw [if_pos rfl] at h ⊢; exact h1 h
  | false => rw [if_neg Bool.false_ne_true] at h ⊢; exact h2 h
section
variable {C : Cfg} (hC : Mono C)
include hC
mutual
theorem mE {X X' : Exc → Env → Store → Prop} (kx : ∀ x ρ S, X x ρ S → X' x ρ S) : ∀ (e : Ex) {ρ : Env} {S : Store} {Q Q' : Post}, (∀ d S, Q d S → Q' d S) → wpE C X e ρ S Q → wpE C X' e ρ S Q'
  | .var i, ρ, S, Q, Q', k, h => let ⟨d, h1, h2⟩ := h; ⟨d, h1, k _ _ h2⟩
  | .cst c, ρ, S, Q, Q', k, h => k _ _ h
  | .glb i, ρ, S, Q, Q', k, h => k _ _ h
  | .cls n, ρ, S, Q, Q', k, h => k _ _ h
  | .neg a, ρ, S, Q, Q', k, h => mE kx a (fun x S1 ⟨i, e, q⟩ => ⟨i, e, k _ _ q⟩) h
  | .bin o a b, ρ, S, Q, Q', k, h => mE kx a (fun x S1 h => mE kx b (fun y S2 h => binW_mono h k) h) h
  | .cmp o a b, ρ, S, Q, Q', k, h => mE kx a (fun x S1 h => mE kx b (fun y S2 h => cmpW_mono h fun _ => k _ _) h) h
  | .chn o p a b c, ρ, S, Q, Q', k, h => mE kx a (fun x S1 h => mE kx b (fun y S2 h => cmpW_mono h fun b h => ite_mono h (fun h => mE kx c (fun z S3 h => cmpW_mono h fun _ => k _ _) h) (k _ _)) h) h
  | .isN a, ρ, S, Q, Q', k, h => mE kx a (fun x S1 q => k _ _ q) h
  | .noN a, ρ, S, Q, Q', k, h => mE kx a (fun x S1 q => k _ _ q) h
  | .and es, ρ, S, Q, Q', k, h => mAnd kx es k h
  | .or es, ρ, S, Q, Q', k, h => mOr kx es k h
  | .not a, ρ, S, Q, Q', k, h => mE kx a (fun x S1 ⟨i, e, q⟩ => ⟨i, e, k _ _ q⟩) h
  | .ite c a b, ρ, S, Q, Q', k, h => mE kx c (fun x S1 h => kif_mono (A := fun _ => wpE C X a ρ S1 Q) (B := fun _ => wpE C X b ρ S1 Q) (A' := fun _ => wpE C X' a ρ S1 Q') (B' := fun _ => wpE C X' b ρ S1 Q') h (fun h => mE kx a k h) (fun h => mE kx b k h)) h
  | .tup es, ρ, S, Q, Q', k, h => mEs kx es (fun ds S1 ⟨h1, h2⟩ => ⟨h1, k _ _ h2⟩) h
  | .lst m es, ρ, S, Q, Q', k, h => mEs kx es (fun ds S1 h => newL_mono h k) h
  | .idx a i, ρ, S, Q, Q', k, h => mE kx a (fun x S1 h => mE kx i (fun y S2 h => idxW_mono h k) h) h
  | .slc a lo hi, ρ, S, Q, Q', k, h => mE kx a (fun x S1 h => mO kx lo (fun y S2 h => mO kx hi (fun z S3 h => slcW_mono h k) h) h) h
  | .fld o f, ρ, S, Q, Q', k, h => mE kx o (fun x S1 h => fldW_mono h k) h
  | .call f es, ρ, S, Q, Q', k, h => mEs kx es (fun ds S1 h => hC _ _ _ _ _ _ _ k (fun x S2 => kx x ρ S2) h) h
  | .new c f es, ρ, S, Q, Q', k, h => mEs kx es (fun ds S1 h a n => hC _ _ _ _ _ _ _ (fun d S2 ⟨e, q⟩ => ⟨e, k _ _ q⟩) (fun x S2 => kx x ρ S2) (h a n)) h
  | .meth o m t es, ρ, S, Q, Q', k, h => mE kx o (fun x S1 ⟨a, c, fs, f, h1, h2, h3, h4, h⟩ => ⟨a, c, fs, f, h1, h2, h3, h4, mEs kx es (fun ds S2 h => hC _ _ _ _ _ _ _ k (fun x S2 => kx x ρ S2) h) h⟩) h
  | .blt b m es, ρ, S, Q, Q', k, h => mEs kx es (fun ds S1 h => bltW_mono h k) h
  | .bme o b es, ρ, S, Q, Q', k, h => mE kx o (fun x S1 ⟨h1, h⟩ => ⟨h1, mEs kx es (fun ds S2 h => bmeW_mono h k) h⟩) h
  | .comp m elt tg it c, ρ, S, Q, Q', k, h => mI kx it (fun ds st S1 ⟨P, h1, h2, h3, h4⟩ => ⟨P, h1, h2, h3, fun acc S h => newL_mono (h4 acc S h) k⟩) h
theorem mEs {X X' : Exc → Env → Store → Prop} (kx : ∀ x ρ S, X x ρ S → X' x ρ S) : ∀ (e : Exs) {ρ : Env} {S : Store} {Q Q' : List D → Store → Prop}, (∀ d S, Q d S → Q' d S) → wpEs C X e ρ S Q → wpEs C X' e ρ S Q'
  | .nil, ρ, S, Q, Q', k, h => k _ _ h
  | .cons e es, ρ, S, Q, Q', k, h => mE kx e (fun d S1 h => mEs kx es (fun ds S2 q => k _ _ q) h) h
theorem mAnd {X X' : Exc → Env → Store → Prop} (kx : ∀ x ρ S, X x ρ S → X' x ρ S) : ∀ (e : Exs) {ρ : Env} {S : Store} {Q Q' : Post}, (∀ d S, Q d S → Q' d S) → wpAnd C X e ρ S Q → wpAnd C X' e ρ S Q'
  | .nil, ρ, S, Q, Q', k, h => h.elim
  | .cons e .nil, ρ, S, Q, Q', k, h => mE kx e k h
  | .cons e (.cons f es), ρ, S, Q, Q', k, h => mE kx e (fun x S1 h => kif_mono (A := fun _ => wpAnd C X (.cons f es) ρ S1 Q) (B := fun _ => Q (.bl false) S1) (A' := fun _ => wpAnd C X' (.cons f es) ρ S1 Q') (B' := fun _ => Q' (.bl false) S1) h (fun h => mAnd kx (.cons f es) k h) (k _ _)) h
theorem mOr {X X' : Exc → Env → Store → Prop} (kx : ∀ x ρ S, X x ρ S → X' x ρ S) : ∀ (e : Exs) {ρ : Env} {S : Store} {Q Q' : Post}, (∀ d S, Q d S → Q' d S) → wpOr C X e ρ S Q → wpOr C X' e ρ S Q'
  | .nil, ρ, S, Q, Q', k, h => h.elim
  | .cons e .nil, ρ, S, Q, Q', k, h => mE kx e k h
  | .cons e (.cons f es), ρ, S, Q, Q', k, h => mE kx e (fun x S1 h => kif_mono (A := fun _ => Q (.bl true) S1) (B := fun _ => wpOr C X (.cons f es) ρ S1 Q) (A' := fun _ => Q' (.bl true) S1) (B' := fun _ => wpOr C X' (.cons f es) ρ S1 Q') h (k _ _) (fun h => mOr kx (.cons f es) k h)) h
theorem mO {X X' : Exc → Env → Store → Prop} (kx : ∀ x ρ S, X x ρ S → X' x ρ S) : ∀ (e : Opt) {ρ : Env} {S : Store} {Q Q' : Option Int → Store → Prop}, (∀ d S, Q d S → Q' d S) → wpO C X e ρ S Q → wpO C X' e ρ S Q'
  | .no, ρ, S, Q, Q', k, h => k _ _ h
  | .yes e, ρ, S, Q, Q', k, h => mE kx e (fun x S1 ⟨i, e, q⟩ => ⟨i, e, k _ _ q⟩) h
theorem mI {X X' : Exc → Env → Store → Prop} (kx : ∀ x ρ S, X x ρ S → X' x ρ S) : ∀ (e : It) {ρ : Env} {S : Store} {K K' : List D → (Store → Prop) → Store → Prop}, (∀ d st S, K d st S → K' d st S) → wpI C X e ρ S K → wpI C X' e ρ S K'
  | .of e, ρ, S, K, K', k, h => mE kx e (fun x S1 h => walkOf_mono h fun _ _ => k _ _ _) h
  | .rng1 a, ρ, S, K, K', k, h => mE kx a (fun x S1 ⟨j, h1, h2, h3, h⟩ => ⟨j, h1, h2, h3, k _ _ _ h⟩) h
  | .rng2 a b, ρ, S, K, K', k, h => mE kx a (fun x S1 h => mE kx b (fun y S2 ⟨i, j, h1, h2, h3, h⟩ => ⟨i, j, h1, h2, h3, k _ _ _ h⟩) h) h
  | .zip a b, ρ, S, K, K', k, h => mE kx a (fun x S1 h => mE kx b (fun y S2 ⟨i, j, h1, h2, h⟩ => ⟨i, j, h1, h2, k _ _ _ h⟩) h) h
  | .enm a, ρ, S, K, K', k, h => mE kx a (fun x S1 ⟨i, h1, h⟩ => ⟨i, h1, k _ _ _ h⟩) h
end
structure EImp (N N' : Ends) : Prop where
  nx : ∀ ρ S, N.nx ρ S → N'.nx ρ S
  rt : ∀ d S, N.rt d S → N'.rt d S
  bk : ∀ ρ S, N.bk ρ S → N'.bk ρ S
  ex : ∀ x ρ S, N.ex x ρ S → N'.ex x ρ S
mutual
theorem mS : ∀ (s : St) {N N' : Ends} {ρ : Env} {S : Store}, EImp N N' → wpS C s N ρ S → wpS C s N' ρ S
  | .asg i e, N, N', ρ, S, k, h => mE hC k.ex e (fun d S1 q => k.nx _ _ q) h
  | .unp is e, N, N', ρ, S, k, h => mE hC k.ex e (fun d S1 ⟨xs, h1, h2, q⟩ => ⟨xs, h1, h2, k.nx _ _ q⟩) h
  | .par i j a b, N, N', ρ, S, k, h => mE hC k.ex a (fun d S1 h => mE hC k.ex b (fun d S2 q => k.nx _ _ q) h) h
  | .fset o f e, N, N', ρ, S, k, h => mE hC k.ex e (fun d S1 h => mE hC k.ex o (fun x S2 ⟨a, c, fs, h1, h2, h3, h4, q⟩ => ⟨a, c, fs, h1, h2, h3, h4, k.nx _ _ q⟩) h) h
  | .iset o i e, N, N', ρ, S, k, h => mE hC k.ex e (fun d S1 h => mE hC k.ex o (fun x S2 h => mE hC k.ex i (fun y S3 ⟨a, c, fs, j, h1, h2, h3, h4, q⟩ => ⟨a, c, fs, j, h1, h2, h3, h4, k.nx _ _ q⟩) h) h) h
  | .aug i o e, N, N', ρ, S, k, h => let ⟨x, h1, h⟩ := h; ⟨x, h1, mE hC k.ex e (fun y S1 h => augW_mono h fun z S2 => k.nx _ _) h⟩
  | .augF o f p e, N, N', ρ, S, k, h => ⟨h.1, mE hC k.ex o (fun x S1 ⟨a, c, fs, v, h1, h2, h3, h⟩ => ⟨a, c, fs, v, h1, h2, h3, mE hC k.ex e (fun y S2 ⟨j, h4, fs', h5, h6, h7, q⟩ => ⟨j, h4, fs', h5, h6, h7, k.nx _ _ q⟩) h⟩) h.2⟩
  | .exp e, N, N', ρ, S, k, h => mE hC k.ex e (fun d S1 q => k.nx _ _ q) h
  | .ret e, N, N', ρ, S, k, h => mE hC k.ex e (fun d S1 q => k.rt _ _ q) h
  | .retN, N, N', ρ, S, k, h => k.rt _ _ h
  | .ifs c a b, N, N', ρ, S, k, h => mE hC k.ex c (fun x S1 h => kif_mono (A := fun _ => wpSs C a N ρ S1) (B := fun _ => wpSs C b N ρ S1) (A' := fun _ => wpSs C a N' ρ S1) (B' := fun _ => wpSs C b N' ρ S1) h (fun h => mSs a k h) (fun h => mSs b k h)) h
  | .for t it b, N, N', ρ, S, k, h => mI hC k.ex it (fun ds st S1 ⟨P, h1, h2, h3, h4⟩ => ⟨P, h1, h2, fun i d ρ S hd hP => bindW_mono (h3 i d ρ S hd hP) fun ρ1 h => mSs b (N := { N with nx := P (i + 1), bk := N.nx }) (N' := { N' with nx := P (i + 1), bk := N'.nx }) ⟨fun _ _ q => q, k.rt, k.nx, k.ex⟩ h, fun ρ S h => k.nx _ _ (h4 ρ S h)⟩) h
  | .whl c b, N, N', ρ, S, k, h => let ⟨W, h1, h2⟩ := h; ⟨W, h1, fun m ρ S hW => mE hC k.ex c (fun x S1 h => kif_mono (A := fun _ => wpSs C b { N with nx := fun ρ' S' => ∃ m', m' < m ∧ W m' ρ' S', bk := N.nx } ρ S1) (B := fun _ => N.nx ρ S1) (A' := fun _ => wpSs C b { N' with nx := fun ρ' S' => ∃ m', m' < m ∧ W m' ρ' S', bk := N'.nx } ρ S1) (B' := fun _ => N'.nx ρ S1) h
      (fun h => mSs b (N := { N with nx := fun ρ' S' => ∃ m', m' < m ∧ W m' ρ' S', bk := N.nx }) (N' := { N' with nx := fun ρ' S' => ∃ m', m' < m ∧ W m' ρ' S', bk := N'.nx }) ⟨fun _ _ q => q, k.rt, k.nx, k.ex⟩ h) (k.nx _ _)) (h2 m ρ S hW)⟩
  | .brk, N, N', ρ, S, k, h => k.bk _ _ h
  | .pass, N, N', ρ, S, k, h => k.nx _ _ h
  | .rai c, N, N', ρ, S, k, h => k.ex _ _ _ h
  | .try b c i hs, N, N', ρ, S, k, h => mSs b (N := { N with ex := fun x ρ' S' => if C.sub x.cls c = true then N.rt (hsV C x.cls hs) S' else N.ex x ρ' S' }) (N' := { N' with ex := fun x ρ' S' => if C.sub x.cls c = true then N'.rt (hsV C x.cls hs) S' else N'.ex x ρ' S' }) ⟨k.nx, k.rt, k.bk, fun x ρ' S' h => ite_mono h (k.rt _ _) (k.ex _ _ _)⟩ h
theorem mSs : ∀ (s : Sts) {N N' : Ends} {ρ : Env} {S : Store}, EImp N N' → wpSs C s N ρ S → wpSs C s N' ρ S
  | .nil, N, N', ρ, S, k, h => k.nx _ _ h
  | .cons s r, N, N', ρ, S, k, h => mS s (N := { N with nx := fun ρ' S' => wpSs C r N ρ' S' }) (N' := { N' with nx := fun ρ' S' => wpSs C r N' ρ' S' }) ⟨fun ρ' S' h => mSs r k h, k.rt, k.bk, k.ex⟩ h
end
/-- a statement with what holds behind it -/
theorem s_mid {s : St} {N : Ends} {ρ : Env} {S : Store} (M : Env → Store → Prop) (h : wpS C s { N with nx := M } ρ S) (k : ∀ ρ' S', M ρ' S' → N.nx ρ' S') : wpS C s N ρ S :=
  mS hC s (N := { N with nx := M }) (N' := N) ⟨k, fun _ _ q => q, fun _ _ q => q, fun _ _ _ q => q⟩ h
end
end Py

set_option Elab.async false
set_option linter.all false
set_option maxRecDepth 100000
/-! Snd1: how data and store lie in the abstract heap. -/
namespace Py
open PySem PySem.Spec PyProof.Rows L2

def toS (s : List Nat) : Str := ⟨s.toArray⟩
theorem toS_toList (s : List Nat) : (toS s).cps.toList = s := by simp [toS]
theorem toS_inj {s t : List Nat} (h : toS s = toS t) : s = t := by
  have := congrArg (fun x => x.cps.toList) h
  simpa [toS] using this
theorem toS_len (s : List Nat) : (toS s).length = s.length := by simp [toS, Str.length]

/-- the addresses of the classes: of instances, of exceptions and others -/
structure ClsT where
  ins : String → Option Addr
  val : String → Option Addr
  /-- lists that are just being made -/
  z : Addr → Prop

/-- a tuple, a list that is never changed -/
def FzT (K : PySem.W.Frag) (S : Store) (H : Hp) (a : Addr) (xs : List V) : Prop :=
  (Rd H a (.tup xs) ∧ S a = none) ∨ ∃ (o : PySem.Obj) (its : Array Value) (n : Nat), K.lookup a = some o ∧ o.cls = .type "tuple" ∧ o.data = .seq its n ∧ its.size ≤ sizeLine ∧ Vals xs its.toList
def FzL (z : Addr → Prop) (S : Store) (H : Hp) (a : Addr) (xs : List V) : Prop := H a = some (.lst xs) ∧ S a = none ∧ ¬ z a
def FzR (K : PySem.W.Frag) (S : Store) (H : Hp) (a : Addr) (xs : List V) : Prop :=
  ((∃ o, H a = some (.frz o (.lst xs))) ∧ S a = none) ∨ ∃ (o : PySem.Obj) (its : Array Value) (n : Nat), K.lookup a = some o ∧ o.cls = .type "list" ∧ o.dict = none ∧ o.data = .seq its n ∧ its.size ≤ sizeLine ∧ Vals xs its.toList
theorem FzT.sq {K : PySem.W.Frag} {S : Store} {H : Hp} {a : Addr} {xs : List V} (h : FzT K S H a xs) : SqT K H a xs := h.elim (fun z => .inl z.1) .inr
theorem FzL.sq {z : Addr → Prop} {K : PySem.W.Frag} {S : Store} {H : Hp} {a : Addr} {xs : List V} (h : FzL z S H a xs) : SqL K H a xs := .of h.1
theorem FzR.sq {K : PySem.W.Frag} {S : Store} {H : Hp} {a : Addr} {xs : List V} (h : FzR K S H a xs) : SqL K H a xs := h.elim (fun z => .inl (.inr z.1)) .inr

def btys : List String := ["bool", "int", "str", "tuple", "list", "dict", "ValueError"]

mutual
inductive DV (K : PySem.W.Frag) (cl : ClsT) (S : Store) (H : Hp) : D → V → Prop
  | non : DV K cl S H .non .non
  | bl (b : Bool) : DV K cl S H (.bl b) (.bl b)
  | int (i : Int) : DV K cl S H (.int i) (.int i)
  | str (s : List Nat) : DV K cl S H (.str s) (.str (toS s))
  | tup {a : Addr} {xs : List V} {ds : List D} : FzT K S H a xs → DVs K cl S H ds xs → DV K cl S H (.tup ds) (.ref a)
  | lst {a : Addr} {xs : List V} {ds : List D} : FzL cl.z S H a xs → DVs K cl S H ds xs → DV K cl S H (.lst ds) (.ref a)
  | scr {a : Addr} {ns : List Int} : FzR K S H a (ns.map V.int) → DV K cl S H (.scr ns) (.ref a)
  | ref (a : Addr) : DV K cl S H (.ref a) (.ref a)
  | tyB (n : String) : n ∈ btys → DV K cl S H (.ty n) (.ty n)
  | tyC {n : String} {c : Addr} : n ∉ btys → cl.val n = some c → DV K cl S H (.ty n) (.ref c)
inductive DVs (K : PySem.W.Frag) (cl : ClsT) (S : Store) (H : Hp) : List D → List V → Prop
  | nil : DVs K cl S H [] []
  | cons {d : D} {ds : List D} {v : V} {vs : List V} : DV K cl S H d v → DVs K cl S H ds vs → DVs K cl S H (d :: ds) (v :: vs)
end

/-- what is not in the store stays -/
def Step (S : Store) (H : Hp) (S' : Store) (H' : Hp) : Prop := ∀ a u, H a = some u → S a = none → H' a = some u ∧ S' a = none
theorem Step.refl {S : Store} {H : Hp} : Step S H S H := fun _ _ h s => ⟨h, s⟩
theorem Step.trans {S S1 S2 : Store} {H H1 H2 : Hp} (a : Step S H S1 H1) (b : Step S1 H1 S2 H2) : Step S H S2 H2 := fun c u h s =>
  let ⟨h1, s1⟩ := a c u h s
  b c u h1 s1

section
variable {K : PySem.W.Frag} {cl : ClsT} {S S' : Store} {H H' : Hp}
theorem Rd.step (st : Step S H S' H') {a : Addr} {u : HO} (h : Rd H a u) (s : S a = none) : Rd H' a u ∧ S' a = none := by
  rcases h with h | ⟨o, h⟩
  · exact ⟨.inl (st a _ h s).1, (st a _ h s).2⟩
  · exact ⟨.inr ⟨o, (st a _ h s).1⟩, (st a _ h s).2⟩
theorem FzT.step (st : Step S H S' H') {a : Addr} {xs : List V} (h : FzT K S H a xs) : FzT K S' H' a xs := h.elim (fun z => .inl (Rd.step st z.1 z.2)) .inr
theorem FzL.step {z : Addr → Prop} (st : Step S H S' H') {a : Addr} {xs : List V} (h : FzL z S H a xs) : FzL z S' H' a xs := ⟨(st a _ h.1 h.2.1).1, (st a _ h.1 h.2.1).2, h.2.2⟩
theorem FzR.step (st : Step S H S' H') {a : Addr} {xs : List V} (h : FzR K S H a xs) : FzR K S' H' a xs := h.elim (fun ⟨⟨o, h⟩, s⟩ => .inl ⟨⟨o, (st a _ h s).1⟩, (st a _ h s).2⟩) .inr
/-- the same address lies alike -/
structure Like (K : PySem.W.Frag) (z z' : Addr → Prop) (S : Store) (H : Hp) (S' : Store) (H' : Hp) : Prop where
  t : ∀ a xs, FzT K S H a xs → FzT K S' H' a xs
  l : ∀ a xs, FzL z S H a xs → FzL z' S' H' a xs
  r : ∀ a xs, FzR K S H a xs → FzR K S' H' a xs
def ClsT.at (cl : ClsT) (z : Addr → Prop) : ClsT := { cl with z := z }
mutual
theorem DV.like {z : Addr → Prop} (k : Like K cl.z z S H S' H') : ∀ {d : D} {v : V}, DV K cl S H d v → DV K (cl.at z) S' H' d v
  | _, _, .non => .non
  | _, _, .bl b => .bl b
  | _, _, .int i => .int i
  | _, _, .str s => .str s
  | _, _, .tup h r => .tup (k.t _ _ h) (DVs.like k r)
  | _, _, .lst h r => .lst (k.l _ _ h) (DVs.like k r)
  | _, _, .scr h => .scr (k.r _ _ h)
  | _, _, .ref a => .ref a
  | _, _, .tyB n h => .tyB n h
  | _, _, .tyC h e => .tyC h e
theorem DVs.like {z : Addr → Prop} (k : Like K cl.z z S H S' H') : ∀ {ds : List D} {vs : List V}, DVs K cl S H ds vs → DVs K (cl.at z) S' H' ds vs
  | _, _, .nil => .nil
  | _, _, .cons h r => .cons (DV.like k h) (DVs.like k r)
end
theorem Step.like {z : Addr → Prop} (st : Step S H S' H') : Like K z z S H S' H' := ⟨fun _ _ h => h.step st, fun _ _ h => h.step st, fun _ _ h => h.step st⟩
theorem DV.step (st : Step S H S' H') {d : D} {v : V} (h : DV K cl S H d v) : DV K cl S' H' d v := h.like (z := cl.z) st.like
theorem DVs.step (st : Step S H S' H') {ds : List D} {vs : List V} (h : DVs K cl S H ds vs) : DVs K cl S' H' ds vs := h.like (z := cl.z) st.like
theorem DVs.length : ∀ {ds : List D} {vs : List V}, DVs K cl S H ds vs → ds.length = vs.length
  | _, _, .nil => rfl
  | _, _, .cons _ r => congrArg (· + 1) (DVs.length r)
theorem DVs.get : ∀ {ds : List D} {vs : List V} {i : Nat} {d : D}, DVs K cl S H ds vs → ds[i]? = some d → ∃ v, vs[i]? = some v ∧ DV K cl S H d v
  | _, _, _, _, .nil, e => by simp at e
  | _, _, 0, _, .cons h _, e => by simp at e; subst e; exact ⟨_, rfl, h⟩
  | _, _, i + 1, d, .cons _ r, e => by
    obtain ⟨v, h1, h2⟩ := DVs.get (i := i) (d := d) r (by simpa using e)
    exact ⟨v, by simpa using h1, h2⟩
theorem DVs.getV : ∀ {ds : List D} {vs : List V} {i : Nat} {v : V}, DVs K cl S H ds vs → vs[i]? = some v → ∃ d, ds[i]? = some d ∧ DV K cl S H d v
  | _, _, _, _, .nil, e => by simp at e
  | _, _, 0, _, .cons h _, e => by simp at e; subst e; exact ⟨_, rfl, h⟩
  | _, _, i + 1, d, .cons _ r, e => by
    obtain ⟨v, h1, h2⟩ := DVs.getV (i := i) (v := d) r (by simpa using e)
    exact ⟨v, by simpa using h1, h2⟩
theorem DVs.append : ∀ {ds es : List D} {vs ws : List V}, DVs K cl S H ds vs → DVs K cl S H es ws → DVs K cl S H (ds ++ es) (vs ++ ws)
  | _, _, _, _, .nil, h => h
  | _, _, _, _, .cons h r, q => .cons h (DVs.append r q)
theorem DVs.set {d : D} {v : V} (h : DV K cl S H d v) : ∀ {ds : List D} {vs : List V} (i : Nat), DVs K cl S H ds vs → DVs K cl S H (ds.set i d) (vs.set i v)
  | _, _, _, .nil => .nil
  | _, _, 0, .cons _ r => .cons h r
  | _, _, i + 1, .cons q r => .cons q (DVs.set h i r)
theorem DVs.take : ∀ {ds : List D} {vs : List V} (n : Nat), DVs K cl S H ds vs → DVs K cl S H (ds.take n) (vs.take n)
  | _, _, 0, _ => .nil
  | _, _, _ + 1, .nil => .nil
  | _, _, n + 1, .cons h r => .cons h (DVs.take n r)
theorem DVs.drop : ∀ {ds : List D} {vs : List V} (n : Nat), DVs K cl S H ds vs → DVs K cl S H (ds.drop n) (vs.drop n)
  | _, _, 0, r => r
  | _, _, _ + 1, .nil => .nil
  | _, _, n + 1, .cons _ r => DVs.drop n r
theorem DVs.dropLast {ds : List D} {vs : List V} (h : DVs K cl S H ds vs) : DVs K cl S H ds.dropLast vs.dropLast := by
  rw [List.dropLast_eq_take, List.dropLast_eq_take, h.length]; exact h.take _
theorem DVs.eraseIdx : ∀ {ds : List D} {vs : List V} (i : Nat), DVs K cl S H ds vs → DVs K cl S H (ds.eraseIdx i) (vs.eraseIdx i)
  | _, _, _, .nil => .nil
  | _, _, 0, .cons _ r => r
  | _, _, i + 1, .cons h r => .cons h (DVs.eraseIdx i r)
theorem DVs.strs : ∀ {l : List Nat}, DVs K cl S H (l.map fun c => D.str [c]) (l.map fun c => V.str (toS [c]))
  | [] => .nil
  | _ :: _ => .cons (.str _) DVs.strs
theorem DVs.ints : ∀ {l : List Int}, DVs K cl S H (l.map D.int) (l.map V.int)
  | [] => .nil
  | _ :: _ => .cons (.int _) DVs.ints
theorem DVs.mapI {α : Type} {f : α → Int} : ∀ {l : List α}, DVs K cl S H (l.map fun a => D.int (f a)) (l.map fun a => V.int (f a))
  | [] => .nil
  | _ :: _ => .cons (.int _) DVs.mapI

/-- fields -/
def FV (K : PySem.W.Frag) (cl : ClsT) (C : Addr) (S : Store) (H : Hp) : List (String × D) → List (Str × V) → Prop := Paired fun p q => q.1 = Str.ofString p.1 ∧ DV K cl S H p.2 q.2 ∧ NoAttr K C q.1
theorem FV.like {C : Addr} {z : Addr → Prop} (k : Like K cl.z z S H S' H') : ∀ {fs : List (String × D)} {gs : List (Str × V)}, FV K cl C S H fs gs → FV K (cl.at z) C S' H' fs gs
  | _, _, .nil => .nil
  | _, _, .cons h r => .cons ⟨h.1, h.2.1.like k, h.2.2⟩ (FV.like k r)
theorem FV.step {C : Addr} (st : Step S H S' H') : ∀ {fs : List (String × D)} {gs : List (Str × V)}, FV K cl C S H fs gs → FV K cl C S' H' fs gs
  | _, _, .nil => .nil
  | _, _, .cons h r => .cons ⟨h.1, h.2.1.step st, h.2.2⟩ (FV.step st r)
theorem ofString_inj {s t : String} (h : Str.ofString s = Str.ofString t) : s = t := by
  rw [Str.ofString_eq_toList, Str.ofString_eq_toList] at h
  have h1 : (s.toList.map Char.toNat) = t.toList.map Char.toNat := by
    have := congrArg (fun x => x.cps.toList) h
    simpa using this
  have hc : ∀ (a b : Char), a.toNat = b.toNat → a = b := fun a b e => Char.ext (UInt32.toNat_inj.mp e)
  have h2 : s.toList = t.toList := by
    generalize s.toList = l at h1 ⊢
    generalize t.toList = m at h1 ⊢
    induction l generalizing m with
    | nil => cases m with | nil => rfl | cons _ _ => simp at h1
    | cons a l ih => cases m with
      | nil => simp at h1
      | cons b m =>
        simp only [List.map_cons, List.cons.injEq] at h1
        rw [hc a b h1.1, ih m h1.2]
  exact String.ext_iff.mpr h2
theorem FV.lookup {C : Addr} {f : String} : ∀ {fs : List (String × D)} {gs : List (Str × V)}, FV K cl C S H fs gs → (∀ d, fs.lookup f = some d → ∃ v, gs.lookup (Str.ofString f) = some v ∧ DV K cl S H d v ∧ NoAttr K C (Str.ofString f)) ∧ (fs.lookup f = none → gs.lookup (Str.ofString f) = none)
  | _, _, .nil => ⟨fun d e => by simp at e, fun _ => rfl⟩
  | (a, x) :: fs, (b, y) :: gs, .cons h r => by
    obtain ⟨e, h, na⟩ := h
    simp only at e h na
    subst e
    obtain ⟨i1, i2⟩ := FV.lookup (f := f) r
    by_cases hf : f = a
    · subst hf
      exact ⟨fun d e => ⟨y, by simp, by simp at e; subst e; exact h, na⟩, fun e => by simp at e⟩
    · have h1 : (f == a) = false := beq_eq_false_iff_ne.mpr hf
      have h2 : (Str.ofString f == Str.ofString a) = false := beq_eq_false_iff_ne.mpr fun e => hf (ofString_inj e)
      simp only [List.lookup_cons, h1, h2]
      exact ⟨i1, i2⟩
theorem FV.put {C : Addr} {f : String} {d : D} {v : V} (h : DV K cl S H d v) (na : NoAttr K C (Str.ofString f)) : ∀ {fs : List (String × D)} {gs : List (Str × V)}, FV K cl C S H fs gs → FV K cl C S H (fput f d fs) (putF (Str.ofString f) v gs)
  | _, _, .nil => .cons ⟨rfl, h, na⟩ .nil
  | (a, x) :: fs, (b, y) :: gs, .cons q r => by
    obtain ⟨e, q⟩ := q
    simp only at e q
    subst e
    unfold fput putF
    by_cases hf : a = f
    · subst hf
      rw [if_pos rfl, if_pos rfl]
      exact .cons ⟨rfl, h, na⟩ r
    · rw [if_neg hf, if_neg fun e => hf (ofString_inj e)]
      exact .cons ⟨rfl, q⟩ (FV.put h na r)
theorem FV.length {C : Addr} : ∀ {fs : List (String × D)} {gs : List (Str × V)}, FV K cl C S H fs gs → fs.length = gs.length
  | _, _, .nil => rfl
  | _, _, .cons _ r => congrArg (· + 1) (FV.length r)

/-- an object of the store in the heap -/
def OV (K : PySem.W.Frag) (cl : ClsT) (S : Store) (H : Hp) (a : Addr) : Py.Obj → Prop
  | .lst ds => ∃ xs, H a = some (.lst xs) ∧ DVs K cl S H ds xs
  | .ins c fs => ∃ C dx gs, cl.ins c = some C ∧ H a = some (.ins C dx gs) ∧ FV K cl C S H fs gs
structure Cp (K : PySem.W.Frag) (cl : ClsT) (S : Store) (H : Hp) : Prop where
  ob : ∀ a o, S a = some o → OV K cl S H a o
  zz : ∀ a, cl.z a → S a = none ∧ ∃ u, H a = some u
theorem OV.there {a : Addr} {o : Py.Obj} (h : OV K cl S H a o) : ∃ u, H a = some u := by
  cases o with
  | lst ds => obtain ⟨xs, h, _⟩ := h; exact ⟨_, h⟩
  | ins c fs => obtain ⟨_, _, _, _, h, _⟩ := h; exact ⟨_, h⟩
theorem OV.like {a : Addr} {o : Py.Obj} {z : Addr → Prop} (h : OV K cl S H a o) (k : Like K cl.z z S H S' H') (e : H' a = H a) : OV K (cl.at z) S' H' a o := by
  cases o with
  | lst ds => obtain ⟨xs, h, r⟩ := h; exact ⟨xs, e.trans h, r.like k⟩
  | ins c fs => obtain ⟨C, dx, gs, h1, h, r⟩ := h; exact ⟨C, dx, gs, h1, e.trans h, r.like k⟩
theorem OV.step {a : Addr} {o : Py.Obj} (h : OV K cl S H a o) (st : Step S H S' H') (e : H' a = H a) : OV K cl S' H' a o := by
  cases o with
  | lst ds => obtain ⟨xs, h, r⟩ := h; exact ⟨xs, e.trans h, r.step st⟩
  | ins c fs => obtain ⟨C, dx, gs, h1, h, r⟩ := h; exact ⟨C, dx, gs, h1, e.trans h, r.step st⟩
theorem Cp.free (c : Cp K cl S H) {p : Addr} (h : H p = none) : S p = none := by
  cases e : S p with
  | none => rfl
  | some o =>
    obtain ⟨u, q⟩ := (c.ob p o e).there
    rw [h] at q; cases q
theorem Cp.of (c : Cp K cl S H) (st : Step S H S' H') (h : ∀ a o, S' a = some o → (S a = some o ∧ H' a = H a) ∨ OV K cl S' H' a o) : Cp K cl S' H' :=
  ⟨fun a o e => (h a o e).elim (fun ⟨h1, h2⟩ => (c.ob a o h1).step st h2) id, fun a ha => let ⟨h1, u, h2⟩ := c.zz a ha; ⟨(st a u h2 h1).2, u, (st a u h2 h1).1⟩⟩
/-- a new object that is not in the store -/
theorem Step.new {p : Addr} {u : HO} (h : H p = none) : Step S H S (upd H p u) := fun a w e s => ⟨by rw [upd_ne (L2.ne_of_none e h)]; exact e, s⟩
theorem Cp.new (c : Cp K cl S H) {p : Addr} {u : HO} (h : H p = none) : Cp K cl S (upd H p u) :=
  c.of (Step.new h) fun a o e => .inl ⟨e, upd_ne fun z => by subst z; rw [c.free h] at e; cases e⟩
/-- a new object of the store -/
theorem Step.newS {p : Addr} {u : HO} {o : Py.Obj} (h : H p = none) : Step S H (put S p o) (upd H p u) := fun a w e s => by
  have n := L2.ne_of_none e h
  exact ⟨by rw [upd_ne n]; exact e, by rw [put_ne n]; exact s⟩
theorem Cp.newS (c : Cp K cl S H) {p : Addr} {u : HO} {o : Py.Obj} (h : H p = none) (q : OV K cl (put S p o) (upd H p u) p o) : Cp K cl (put S p o) (upd H p u) :=
  c.of (Step.newS h) fun a x e => by
    by_cases ha : a = p
    · subst ha; rw [put_same] at e; cases e; exact .inr q
    · rw [put_ne ha] at e; exact .inl ⟨e, upd_ne ha⟩
/-- an object of the store changed -/
theorem Step.put {p : Addr} {u : HO} {o o' : Py.Obj} (h : S p = some o') : Step S H (put S p o) (upd H p u) := fun a w e s => by
  have n : a ≠ p := fun z => by subst z; rw [h] at s; cases s
  exact ⟨by rw [upd_ne n]; exact e, by rw [put_ne n]; exact s⟩
theorem Cp.put (c : Cp K cl S H) {p : Addr} {u : HO} {o o' : Py.Obj} (h : S p = some o') (q : OV K cl (put S p o) (upd H p u) p o) : Cp K cl (put S p o) (upd H p u) :=
  c.of (Step.put h) fun a x e => by
    by_cases ha : a = p
    · subst ha; rw [put_same] at e; cases e; exact .inr q
    · rw [put_ne ha] at e; exact .inl ⟨e, upd_ne ha⟩

/-- names -/
structure EnvR (K : PySem.W.Frag) (cl : ClsT) (S : Store) (H : Hp) (ρ : Py.Env) (σ : L2.St) : Prop where
  len : ρ.length = σ.length
  get : ∀ (i : Nat) d, ρ[i]? = some (some d) → ∃ v, σ[i]? = some (some v) ∧ DV K cl S H d v
theorem EnvR.like {ρ : Py.Env} {σ : L2.St} {z : Addr → Prop} (r : EnvR K cl S H ρ σ) (k : Like K cl.z z S H S' H') : EnvR K (cl.at z) S' H' ρ σ :=
  ⟨r.len, fun i d e => let ⟨v, h1, h2⟩ := r.get i d e; ⟨v, h1, h2.like k⟩⟩
theorem EnvR.step {ρ : Py.Env} {σ : L2.St} (r : EnvR K cl S H ρ σ) (st : Step S H S' H') : EnvR K cl S' H' ρ σ :=
  ⟨r.len, fun i d e => let ⟨v, h1, h2⟩ := r.get i d e; ⟨v, h1, h2.step st⟩⟩
theorem EnvR.set {ρ : Py.Env} {σ : L2.St} (r : EnvR K cl S H ρ σ) {i : Nat} {d : D} {v : V} (h : DV K cl S H d v) : EnvR K cl S H (ρ.set i (some d)) (σ.set i (some v)) := by
  refine ⟨by simp [r.len], fun j x e => ?_⟩
  by_cases hj : i = j
  · subst hj
    by_cases hl : i < ρ.length
    · rw [List.getElem?_set_self hl] at e
      cases e
      exact ⟨v, List.getElem?_set_self (by rw [← r.len]; exact hl), h⟩
    · rw [List.getElem?_eq_none (by simpa using hl)] at e; cases e
  · rw [List.getElem?_set_ne hj] at e
    obtain ⟨w, h1, h2⟩ := r.get j x e
    exact ⟨w, by rw [List.getElem?_set_ne hj]; exact h1, h2⟩
theorem EnvR.unset {ρ : Py.Env} {σ : L2.St} (r : EnvR K cl S H ρ σ) {i : Nat} : EnvR K cl S H (ρ.set i none) (σ.set i none) := by
  refine ⟨by simp [r.len], fun j x e => ?_⟩
  by_cases hj : i = j
  · subst hj
    by_cases hl : i < ρ.length
    · rw [List.getElem?_set_self hl] at e; cases e
    · rw [List.getElem?_eq_none (by simpa using hl)] at e; cases e
  · rw [List.getElem?_set_ne hj] at e
    obtain ⟨w, h1, h2⟩ := r.get j x e
    exact ⟨w, by rw [List.getElem?_set_ne hj]; exact h1, h2⟩
theorem EnvR.wipe {ρ : Py.Env} {σ : L2.St} (r : EnvR K cl S H ρ σ) : ∀ is : List Nat, EnvR K cl S H (wipeE ρ is) (wipe σ is)
  | [] => r
  | _ :: is => (EnvR.wipe r is).unset
theorem EnvR.start : ∀ {ds : List D} {vs : List V} (N : List Str), DVs K cl S H ds vs → EnvR K cl S H (ds.map some ++ List.replicate (N.length - ds.length) none) (start N vs) := fun {ds vs} N h => by
  unfold L2.start
  refine ⟨by simp [h.length], fun i d e => ?_⟩
  by_cases hi : i < ds.length
  · rw [List.getElem?_append_left (by simpa using hi), List.getElem?_map] at e
    have : ds[i]? = some d := by
      cases q : ds[i]? with
      | none => rw [q] at e; cases e
      | some x => rw [q] at e; cases e; rfl
    obtain ⟨v, h1, h2⟩ := h.get this
    refine ⟨v, ?_, h2⟩
    rw [List.getElem?_append_left (by simp; rw [← h.length]; exact hi), List.getElem?_map, h1]; rfl
  · rw [List.getElem?_append_right (by simpa using hi), List.getElem?_replicate] at e
    split at e <;> cases e
end


section
variable {K : PySem.W.Frag} {cl : ClsT} {S : Store} {H : Hp} {d : D} {v : V} {ds : List D}
theorem listOf_seq (c : Cp K cl S H) (h : DV K cl S H d v) (e : listOf S d = some ds) : ∃ a xs, v = .ref a ∧ H a = some (.lst xs) ∧ DVs K cl S H ds xs := by
  cases h with
  | lst h r => cases e; exact ⟨_, _, rfl, h.1, r⟩
  | ref a =>
    simp only [listOf] at e
    cases q : S a with
    | none => rw [q] at e; cases e
    | some o =>
      rw [q] at e
      cases o with
      | lst es => cases e; obtain ⟨xs, h, r⟩ := c.ob a _ q; exact ⟨a, xs, rfl, h, r⟩
      | ins c fs => cases e
  | _ => cases e
theorem itemsOf_seq (c : Cp K cl S H) (h : DV K cl S H d v) (e : itemsOf S d = some ds) : ∃ a xs, v = .ref a ∧ (SqL K H a xs ∨ SqT K H a xs) ∧ DVs K cl S H ds xs := by
  cases h with
  | lst h r => cases e; exact ⟨_, _, rfl, .inl h.sq, r⟩
  | tup h r => cases e; exact ⟨_, _, rfl, .inr h.sq, r⟩
  | scr h => cases e; exact ⟨_, _, rfl, .inl h.sq, .ints⟩
  | ref a =>
    simp only [itemsOf] at e
    cases q : S a with
    | none => rw [q] at e; cases e
    | some o =>
      rw [q] at e
      cases o with
      | lst es => cases e; obtain ⟨xs, h, r⟩ := c.ob a _ q; exact ⟨a, xs, rfl, .inl (.of h), r⟩
      | ins c fs => cases e
  | _ => cases e
end
end Py

set_option Elab.async false
set_option linter.all false
set_option maxRecDepth 100000
/-! Snd2: readings by what is run; the operators. -/
namespace Py
open PySem PySem.Spec PyProof.Rows L2

section
variable {X : Cx}
def RE (X : Cx) (e : Expr) : TE := fun σ H Q => ∀ (pins : List (Addr × PySem.Obj)) (s : Shared), Inv X pins σ H s → wpAny (model X.prog X.w) X.A (eval e X.env) (EP X pins σ Q) X.xe s
theorem re (X : Cx) (e : Expr) : PE X e (RE X e) := ⟨fun pins s _ _ _ I h => h pins s I⟩
theorem eto {e : Expr} {t : TE} (h : PE X e t) {σ : L2.St} {H : Hp} {Q : VK} (q : t σ H Q) : RE X e σ H Q := fun pins s I => h.run pins s σ H Q I q
theorem RE.mono {e : Expr} {σ : L2.St} {H : Hp} {Q Q' : VK} (h : RE X e σ H Q) (k : ∀ v H', Q v H' → Q' v H') : RE X e σ H Q' := fun pins s I =>
  wpAny_mono (h pins s I) (fun _ _ ⟨v, H', J, r, q⟩ => ⟨v, H', J, r, k _ _ q⟩) fun _ _ x => x
def RT (X : Cx) (e : Expr) : TT := fun σ H Q => ∀ (pins : List (Addr × PySem.Obj)) (s : Shared), Inv X pins σ H s → wpAny (model X.prog X.w) X.A (isTrue e X.env (eval e X.env)) (TP X pins σ Q) X.xe s
theorem rt (X : Cx) (e : Expr) : PT X e (RT X e) := ⟨fun pins s _ _ _ I h => h pins s I⟩
theorem tto {e : Expr} {t : TT} (h : PT X e t) {σ : L2.St} {H : Hp} {Q : Bool → Hp → Prop} (q : t σ H Q) : RT X e σ H Q := fun pins s I => h.run pins s σ H Q I q
theorem RT.mono {e : Expr} {σ : L2.St} {H : Hp} {Q Q' : Bool → Hp → Prop} (h : RT X e σ H Q) (k : ∀ v H', Q v H' → Q' v H') : RT X e σ H Q' := fun pins s I =>
  wpAny_mono (h pins s I) (fun _ _ ⟨H', J, q⟩ => ⟨H', J, k _ _ q⟩) fun _ _ x => x
def RA (X : Cx) (es : List Expr) : TA := fun σ H Q => ∀ (pos : Pos) (pins : List (Addr × PySem.Obj)) (s : Shared), Inv X pins σ H s → wpAny (model X.prog X.w) X.A (spliced (backTo pos (starEach es X.env))) (AP X pins σ Q) X.xe s
theorem ra (X : Cx) (es : List Expr) : PA X es (RA X es) := ⟨fun pos pins s _ _ _ I h => h pos pins s I⟩
theorem ato {es : List Expr} {t : TA} (h : PA X es t) {σ : L2.St} {H : Hp} {Q : List V → Hp → Prop} (q : t σ H Q) : RA X es σ H Q := fun pos pins s I => h.run pos pins s σ H Q I q
theorem RA.mono {es : List Expr} {σ : L2.St} {H : Hp} {Q Q' : List V → Hp → Prop} (h : RA X es σ H Q) (k : ∀ v H', Q v H' → Q' v H') : RA X es σ H Q' := fun pos pins s I =>
  wpAny_mono (h pos pins s I) (fun _ _ ⟨v, H', J, r, q⟩ => ⟨v, H', J, r, k _ _ q⟩) fun _ _ x => x
/-- an operation on two values -/
def RO (X : Cx) (f : Value → Value → Sem Value) : R2 := fun x y H Q => ∀ (pins : List (Addr × PySem.Obj)) (s : Shared) (σ : L2.St) (v u : Value), Inv X pins σ H s → RelV x v → RelV y u → wpAny (model X.prog X.w) X.A (f v u) (EP X pins σ Q) X.xe s
theorem ro (X : Cx) (f : Value → Value → Sem Value) : OpR X f (RO X f) := fun pins s σ H x y v u Q I r1 r2 h => h pins s σ v u I r1 r2
theorem oto {f : Value → Value → Sem Value} {r : R2} (h : OpR X f r) {x y : V} {H : Hp} {Q : VK} (q : r x y H Q) : RO X f x y H Q := fun pins s σ v u I r1 r2 => h pins s σ H x y v u Q I r1 r2 q
theorem RO.mono {f : Value → Value → Sem Value} {x y : V} {H : Hp} {Q Q' : VK} (h : RO X f x y H Q) (k : ∀ v H', Q v H' → Q' v H') : RO X f x y H Q' := fun pins s σ v u I r1 r2 =>
  wpAny_mono (h pins s σ v u I r1 r2) (fun _ _ ⟨v, H', J, r, q⟩ => ⟨v, H', J, r, k _ _ q⟩) fun _ _ x => x
/-- a call of a known value -/
def RC (X : Cx) (f : Value) : List V → Hp → VK → Prop := fun xs H Q => ∀ (pins : List (Addr × PySem.Obj)) (s : Shared) (σ : L2.St) (us : List Value), Inv X pins σ H s → Vals xs us → wpAny (model X.prog X.w) X.A (call f us) (EP X pins σ Q) X.xe s
theorem rc (X : Cx) (f : Value) : CallR X f (RC X f) := fun pins s σ H xs us Q I r h => h pins s σ us I r
theorem cto {f : Value} {r : List V → Hp → VK → Prop} (h : CallR X f r) {xs : List V} {H : Hp} {Q : VK} (q : r xs H Q) : RC X f xs H Q := fun pins s σ us I rv => h pins s σ H xs us Q I rv q
end

/-- what comes out: data in a store that the heap holds -/
def Out (K : PySem.W.Frag) (cl : ClsT) (S : Store) (H : Hp) (Q : Post) : VK := fun v H' => ∃ d S', Step S H S' H' ∧ Cp K cl S' H' ∧ DV K cl S' H' d v ∧ Q d S'
def OutL (K : PySem.W.Frag) (cl : ClsT) (S : Store) (H : Hp) (Q : List D → Store → Prop) : List V → Hp → Prop := fun v H' => ∃ d S', Step S H S' H' ∧ Cp K cl S' H' ∧ DVs K cl S' H' d v ∧ Q d S'
def OutB (K : PySem.W.Frag) (cl : ClsT) (S : Store) (H : Hp) (Q : Bool → Store → Prop) : Bool → Hp → Prop := fun b H' => ∃ S', Step S H S' H' ∧ Cp K cl S' H' ∧ Q b S'
section
variable {K : PySem.W.Frag} {cl : ClsT} {S S1 : Store} {H H1 : Hp}
theorem Out.from {Q : Post} {v : V} {H' : Hp} (st : Step S H S1 H1) (o : Out K cl S1 H1 Q v H') : Out K cl S H Q v H' := let ⟨d, S', s, c, r, q⟩ := o; ⟨d, S', st.trans s, c, r, q⟩
theorem OutB.from {Q : Bool → Store → Prop} {v : Bool} {H' : Hp} (st : Step S H S1 H1) (o : OutB K cl S1 H1 Q v H') : OutB K cl S H Q v H' := let ⟨S', s, c, q⟩ := o; ⟨S', st.trans s, c, q⟩
/-- a value that is made without touching anything -/
theorem Out.pure {Q : Post} {d : D} {v : V} (c : Cp K cl S H) (r : DV K cl S H d v) (q : Q d S) : Out K cl S H Q v H := ⟨d, S, .refl, c, r, q⟩
/-- a new frozen object -/
theorem Out.tup {Q : Post} {ds : List D} {xs : List V} (c : Cp K cl S H) (r : DVs K cl S H ds xs) (q : Q (.tup ds) S) : ∀ p, H p = Option.none → Out K cl S H Q (.ref p) (upd H p (.tup xs)) := fun p hp =>
  ⟨.tup ds, S, Step.new hp, c.new hp, .tup (.inl ⟨.inl upd_same, c.free hp⟩) (r.step (Step.new hp)), q⟩
theorem Out.lst {Q : Post} {ds : List D} {xs : List V} (c : Cp K cl S H) (r : DVs K cl S H ds xs) (q : Q (.lst ds) S) : ∀ p, H p = Option.none → Out K cl S H Q (.ref p) (upd H p (.lst xs)) := fun p hp =>
  ⟨.lst ds, S, Step.new hp, c.new hp, .lst ⟨upd_same, c.free hp, fun z => by obtain ⟨_, u, e⟩ := c.zz p z; rw [hp] at e; cases e⟩ (r.step (Step.new hp)), q⟩
theorem Out.newL {Q : Post} {m : Bool} {ds : List D} {xs : List V} (c : Cp K cl S H) (r : DVs K cl S H ds xs) (q : Py.newL m ds S Q) : ∀ p, H p = Option.none → Out K cl S H Q (.ref p) (upd H p (.lst xs)) := fun p hp => by
  obtain ⟨_, q⟩ := q
  cases m with
  | false => exact Out.lst c r q p hp
  | true => exact ⟨.ref p, put S p (.lst ds), Step.newS hp, c.newS hp ⟨xs, upd_same, r.step (Step.newS hp)⟩, .ref p, q p (c.free hp)⟩
end

/-! ### operators -/
theorem toS_append (s t : List Nat) : toS s ++ toS t = toS (s ++ t) := by
  show (⟨_⟩ : Str) = ⟨_⟩
  simp [toS]
theorem lim_eq : (lim : Nat) = sizeLine := by decide
theorem mulOk.ok {i j : Int} (h : mulOk i j) : IntMulOk i j := by
  have b : ∀ x : Int, Builtin.Int.intBits x ≤ x.natAbs.log2 + 1 := fun x => by
    unfold Builtin.Int.intBits
    split <;> omega
  have h1 := b i
  have h2 := b j
  have h3 : i.natAbs.log2 + j.natAbs.log2 < 134000000 := h
  have e : bitsLine = 134217728 := by decide
  unfold IntMulOk
  intro z
  rw [Bool.and_eq_true] at z
  have z2 := z.2
  unfold Builtin.Int.intTooBig at z2
  have z3 := of_decide_eq_true z2
  rw [e] at z3
  omega
def popOf : Bop → Operator
  | .add => .Add | .sub => .Sub | .mul => .Mult | .fdiv => .FloorDiv | .mod => .Mod | .pow => .Pow
section
variable {X : Cx} {cl : ClsT}
theorem op_mulM : OpR X (binaryOp .Mult) (rI mulOk fun i j => .int (i * j)) := opI fun _ _ _ _ _ _ _ hc q => mul_int q hc.ok
theorem op_fdivM : OpR X (binaryOp .FloorDiv) (rI divOk fun i j => .int (i.fdiv j)) := opI fun i j _ _ _ _ _ hc q => floordiv_int hc.1 q (.inl (PyProof.noPylong_of_log2 hc.2))
theorem iop_mulM : OpR X (inplaceOp .Mult) (rI mulOk fun i j => .int (i * j)) := opI fun _ _ _ _ _ _ _ hc q => imul_int q hc.ok
theorem binW_cases {o : Bop} {x y : D} {S : Store} {Q : Post} (h : binW o x y S Q) :
    (∃ i j, x = .int i ∧ y = .int j ∧ binW o (.int i) (.int j) S Q) ∨ (∃ s t, x = .str s ∧ y = .str t ∧ o = .add ∧ s.length + t.length ≤ lim ∧ Q (.str (s ++ t)) S) ∨
    (∃ a b, x = .tup a ∧ y = .tup b ∧ o = .add ∧ a ≠ [] ∧ a.length + b.length ≤ lim ∧ Q (.tup (a ++ b)) S) ∨
    (o = .add ∧ ∃ a b, listOf S x = some a ∧ listOf S y = some b ∧ a.length + b.length ≤ lim ∧ Q (.lst (a ++ b)) S) := by
  cases x <;> cases y <;> cases o <;> first
    | exact .inl ⟨_, _, rfl, rfl, h⟩
    | exact .inr (.inl ⟨_, _, rfl, rfl, rfl, h⟩)
    | exact .inr (.inr (.inl ⟨_, _, rfl, rfl, rfl, h⟩))
    | exact .inr (.inr (.inr ⟨rfl, h⟩))
    | exact h.elim
theorem bin_snd {S : Store} {H : Hp} {o : Bop} {d e : D} {x y : V} {Q : Post} (c : Cp X.K cl S H) (hx : DV X.K cl S H d x) (hy : DV X.K cl S H e y) (h : binW o d e S Q) : RO X (binaryOp (popOf o)) x y H (Out X.K cl S H Q) := by
  rcases binW_cases h with ⟨i, j, rfl, rfl, h⟩ | ⟨s, t, rfl, rfl, rfl, hz, h⟩ | ⟨a, b, rfl, rfl, rfl, hn, hz, h⟩ | ⟨rfl, a, b, ha, hb, hz, h⟩
  · cases hx
    cases hy
    cases o with
    | add => exact oto op_add ⟨i, j, rfl, rfl, .pure c (.int _) h⟩
    | sub => exact oto op_sub ⟨i, j, rfl, rfl, .pure c (.int _) h⟩
    | mul => exact oto op_mulM ⟨i, j, rfl, rfl, h.1, .pure c (.int _) h.2⟩
    | fdiv => exact oto op_fdivM ⟨i, j, rfl, rfl, h.1, .pure c (.int _) h.2⟩
    | mod => exact oto op_modN ⟨i, j, rfl, rfl, h.1, .pure c (.int _) h.2⟩
    | pow => exact oto op_pow ⟨i, j, rfl, rfl, h.1, .pure c (.int _) h.2⟩
  · cases hx
    cases hy
    refine oto op_add_str ⟨_, _, rfl, rfl, by rw [toS_len, toS_len, ← lim_eq]; exact hz, ?_⟩
    rw [toS_append]
    exact .pure c (.str _) h
  · cases hx with
    | tup fx rx =>
      cases hy with
      | tup fy ry =>
        refine oto op_catT ⟨_, _, _, _, rfl, rfl, fx.sq, fy.sq, fun z => hn ?_, by rw [← rx.length, ← ry.length, ← lim_eq]; exact hz, fun z => ?_, fun _ => Out.tup c (rx.append ry) h⟩
        · subst z; cases rx; rfl
        · subst z
          cases ry
          rw [List.append_nil] at h
          exact .pure c (.tup fx rx) h
  · obtain ⟨p, xs, rfl, hp, rx⟩ := listOf_seq c hx ha
    obtain ⟨q, ys, rfl, hq, ry⟩ := listOf_seq c hy hb
    exact oto op_cat ⟨_, _, _, _, rfl, rfl, hp, hq, by rw [← rx.length, ← ry.length, ← lim_eq]; exact hz, Out.lst c (rx.append ry) h⟩

/-! ### data that == reads -/
mutual
def py : D → PyData
  | .non => .none
  | .bl b => .bool b
  | .int i => .int i
  | .str s => .str (toS s)
  | .tup ds => .tuple (pys ds)
  | .lst ds => .list (pys ds)
  | .scr _ => .none
  | .ref _ => .none
  | .ty _ => .none
def pys : List D → List PyData
  | [] => []
  | d :: ds => py d :: pys ds
end
mutual
theorem rd_pure {S : Store} : ∀ {d : D}, d.pure = true → rd S d = some d
  | .non, _ => rfl
  | .bl _, _ => rfl
  | .int _, _ => rfl
  | .str _, _ => rfl
  | .tup ds, h => by
    have h' : D.pureL ds = true := h
    simp only [rd, rdL_pure h', Option.map_some]
  | .lst ds, h => by
    have h' : D.pureL ds = true := h
    simp only [rd, rdL_pure h', Option.map_some]
theorem rdL_pure {S : Store} : ∀ {ds : List D}, D.pureL ds = true → rdL S ds = some ds
  | [], _ => rfl
  | d :: ds, h => by
    have h' : d.pure = true ∧ D.pureL ds = true := by simpa [D.pureL] using h
    simp only [rdL, rd_pure h'.1, rdL_pure h'.2, Option.bind_some, Option.map_some]
end
mutual
theorem rd_isPure {S : Store} : ∀ {d p : D}, rd S d = some p → p.pure = true
  | .non, _, h => by cases h; rfl
  | .bl _, _, h => by cases h; rfl
  | .int _, _, h => by cases h; rfl
  | .str _, _, h => by cases h; rfl
  | .tup ds, p, h => by
    simp only [rd] at h
    cases q : rdL S ds with
    | none => rw [q] at h; cases h
    | some es => rw [q] at h; cases h; exact rdL_isPure q
  | .lst ds, p, h => by
    simp only [rd] at h
    cases q : rdL S ds with
    | none => rw [q] at h; cases h
    | some es => rw [q] at h; cases h; exact rdL_isPure q
  | .scr _, _, h => by cases h
  | .ty _, _, h => by cases h
  | .ref a, p, h => by
    simp only [rd] at h
    cases q : S a with
    | none => rw [q] at h; cases h
    | some o =>
      rw [q] at h
      cases o with
      | ins _ _ => cases h
      | lst es =>
        simp only at h
        split at h
        · rename_i z; cases h; exact z
        · cases h
theorem rdL_isPure {S : Store} : ∀ {ds ps : List D}, rdL S ds = some ps → D.pureL ps = true
  | [], _, h => by cases h; rfl
  | d :: ds, ps, h => by
    simp only [rdL] at h
    cases q : rd S d with
    | none => rw [q] at h; cases h
    | some x =>
      rw [q] at h
      cases r : rdL S ds with
      | none => rw [r] at h; cases h
      | some es =>
        rw [r] at h; cases h
        simp only [D.pureL, rd_isPure q, rdL_isPure r, Bool.and_self]
end
mutual
theorem rd_dp {K : PySem.W.Frag} {S : Store} {H : Hp} (c : Cp K cl S H) : ∀ {d p : D} {v : V}, rd S d = some p → DV K cl S H d v → Dp K H v (py p)
  | .non, _, _, h, r => by cases h; cases r; exact .non
  | .bl _, _, _, h, r => by cases h; cases r; exact .bl _
  | .int _, _, _, h, r => by cases h; cases r; exact .int _
  | .str _, _, _, h, r => by cases h; cases r; exact .str _
  | .tup ds, p, _, h, r => by
    simp only [rd] at h
    cases q : rdL S ds with
    | none => rw [q] at h; cases h
    | some es =>
      rw [q] at h; cases h
      cases r with
      | tup f r => exact .tup f.sq (rdL_dp c q r)
  | .lst ds, p, _, h, r => by
    simp only [rd] at h
    cases q : rdL S ds with
    | none => rw [q] at h; cases h
    | some es =>
      rw [q] at h; cases h
      cases r with
      | lst f r => exact .lst f.sq (rdL_dp c q r)
  | .scr _, _, _, h, _ => by cases h
  | .ty _, _, _, h, _ => by cases h
  | .ref a, p, _, h, r => by
    simp only [rd] at h
    cases q : S a with
    | none => rw [q] at h; cases h
    | some o =>
      rw [q] at h
      cases o with
      | ins _ _ => cases h
      | lst es =>
        simp only at h
        split at h
        · rename_i z
          cases h
          cases r
          obtain ⟨xs, hx, rx⟩ := c.ob a _ q
          exact .lst (.of hx) (dps_pure c z rx)
        · cases h
theorem rdL_dp {K : PySem.W.Frag} {S : Store} {H : Hp} (c : Cp K cl S H) : ∀ {ds ps : List D} {vs : List V}, rdL S ds = some ps → DVs K cl S H ds vs → DpAll K H vs (pys ps)
  | [], _, _, h, r => by cases h; cases r; exact .nil
  | d :: ds, ps, _, h, r => by
    simp only [rdL] at h
    cases q : rd S d with
    | none => rw [q] at h; cases h
    | some x =>
      rw [q] at h
      cases r' : rdL S ds with
      | none => rw [r'] at h; cases h
      | some es =>
        rw [r'] at h; cases h
        cases r with
        | cons h1 h2 => exact .cons (rd_dp c q h1) (rdL_dp c r' h2)
/-- plain data is read as it is -/
theorem dp_pure {K : PySem.W.Frag} {S : Store} {H : Hp} (c : Cp K cl S H) : ∀ {d : D} {v : V}, d.pure = true → DV K cl S H d v → Dp K H v (py d)
  | .non, _, _, r => by cases r; exact .non
  | .bl _, _, _, r => by cases r; exact .bl _
  | .int _, _, _, r => by cases r; exact .int _
  | .str _, _, _, r => by cases r; exact .str _
  | .tup ds, _, h, r => by
    cases r with
    | tup f r => exact .tup f.sq (dps_pure c h r)
  | .lst ds, _, h, r => by
    cases r with
    | lst f r => exact .lst f.sq (dps_pure c h r)
theorem dps_pure {K : PySem.W.Frag} {S : Store} {H : Hp} (c : Cp K cl S H) : ∀ {ds : List D} {vs : List V}, D.pureL ds = true → DVs K cl S H ds vs → DpAll K H vs (pys ds)
  | [], _, _, r => by cases r; exact .nil
  | d :: ds, _, h, r => by
    have h' : d.pure = true ∧ D.pureL ds = true := by simpa [D.pureL] using h
    cases r with
    | cons h1 h2 => exact .cons (dp_pure c h'.1 h1) (dps_pure c h'.2 h2)
end
mutual
theorem lay_flat : ∀ (d : D) {n : Nat}, d.flat n = true → (py d).canLay0 = true ∧ (py d).depth ≤ n
  | .non, _, _ => ⟨rfl, Nat.zero_le _⟩
  | .bl _, _, _ => ⟨rfl, Nat.zero_le _⟩
  | .int _, _, _ => ⟨rfl, Nat.zero_le _⟩
  | .str s, _, h => by
    have h' : (s.all fun c => decide (c < 1114112)) = true := h
    refine ⟨?_, Nat.zero_le _⟩
    show PyData.strOk (toS s) = true
    unfold PyData.strOk toS
    simpa using h'
  | .tup ds, 0, h => by cases h
  | .tup ds, n + 1, h => by
    obtain ⟨h1, h2⟩ := lay_flatL ds (n := n) h
    exact ⟨by simpa [py, PyData.canLay0] using h1, by simp only [py, PyData.depth]; omega⟩
  | .lst ds, 0, h => by cases h
  | .lst ds, n + 1, h => by
    obtain ⟨h1, h2⟩ := lay_flatL ds (n := n) h
    exact ⟨by simpa [py, PyData.canLay0] using h1, by simp only [py, PyData.depth]; omega⟩
  | .scr _, _, _ => ⟨rfl, Nat.zero_le _⟩
  | .ref _, _, _ => ⟨rfl, Nat.zero_le _⟩
  | .ty _, _, _ => ⟨rfl, Nat.zero_le _⟩
theorem lay_flatL : ∀ (ds : List D) {n : Nat}, D.flatL ds n = true → PyData.canLayAll0 (pys ds) = true ∧ PyData.depthAll (pys ds) ≤ n
  | [], _, _ => ⟨rfl, Nat.zero_le _⟩
  | d :: ds, n, h => by
    have h' : d.flat n = true ∧ D.flatL ds n = true := by simpa [D.flatL] using h
    obtain ⟨a1, a2⟩ := lay_flat d h'.1
    obtain ⟨b1, b2⟩ := lay_flatL ds h'.2
    exact ⟨by simp [pys, PyData.canLayAll0, a1, b1], by simp only [pys, PyData.depthAll]; omega⟩
end
theorem flat_shaped {d : D} (h : d.flat 60 = true) : SeqAt.shaped (py d) = true := by
  obtain ⟨h1, h2⟩ := lay_flat d h
  unfold SeqAt.shaped
  rw [h1, Bool.true_and]
  exact decide_eq_true (by omega)
theorem toS_beq (s t : List Nat) : (toS s == toS t) = (s == t) := by
  by_cases h : s = t
  · subst h; simp
  · rw [beq_eq_false_iff_ne.mpr h, beq_eq_false_iff_ne.mpr fun e => h (toS_inj e)]
mutual
theorem eqv_py : ∀ {p q : D}, p.pure = true → q.pure = true → PyData.eqv (py p) (py q) = D.eqv p q
  | .non, q, _, h => by cases q <;> first | rfl | cases h
  | .bl a, q, _, h => by cases q <;> first | rfl | cases h
  | .int a, q, _, h => by cases q <;> first | rfl | cases h
  | .str s, q, _, h => by cases q <;> first | exact toS_beq _ _ | rfl | cases h
  | .tup a, q, g, h => by cases q <;> first | rfl | cases h | exact eqvL_py g h
  | .lst a, q, g, h => by cases q <;> first | rfl | cases h | exact eqvL_py g h
theorem eqvL_py : ∀ {p q : List D}, D.pureL p = true → D.pureL q = true → PyData.eqvAll (pys p) (pys q) = D.eqvL p q
  | [], q, _, _ => by cases q <;> rfl
  | a :: p, [], _, _ => rfl
  | a :: p, b :: q, g, h => by
    have g' : a.pure = true ∧ D.pureL p = true := by simpa [D.pureL] using g
    have h' : b.pure = true ∧ D.pureL q = true := by simpa [D.pureL] using h
    simp only [pys, PyData.eqvAll, D.eqvL, eqv_py g'.1 h'.1, eqvL_py g'.2 h'.2]
end
theorem any_py {p : D} (hp : p.pure = true) : ∀ {qs : List D}, D.pureL qs = true → ((pys qs).any fun z => PyData.eqv z (py p)) = qs.any fun q => D.eqv q p
  | [], _ => rfl
  | q :: qs, h => by
    have h' : q.pure = true ∧ D.pureL qs = true := by simpa [D.pureL] using h
    simp only [pys, List.any_cons, eqv_py h'.1 hp, any_py hp h'.2]
theorem op_inT (hu : X.A.units + 65 < cLine) : OpR X (compareOp .In) (fun x y H Q => ∃ d ds, Dp X.K H x d ∧ Dp X.K H y (.tuple ds) ∧ SeqAt.shaped d = true ∧ SeqAt.shaped (.tuple ds) = true ∧ Q (.bl (ds.any fun z => PyData.eqv z d)) H) := by
  intro pins s σ H x y v u Q I rx ry h
  obtain ⟨d, ds, hd, he, sd, se, q⟩ := h
  obtain ⟨as, r1⟩ := Dp.reads I d x v hd rx
  obtain ⟨bs, r2⟩ := Dp.reads I (.tuple ds) y u he ry
  exact SeqAt.in_tuple_reads r2 r1 (SeqAt.canLay_of_shaped se) (SeqAt.canLay_of_shaped sd) (room_in_shaped sd hu) ⟨.bl _, H, I, rfl, q⟩
theorem op_notInT (hu : X.A.units + 65 < cLine) : OpR X (compareOp .NotIn) (fun x y H Q => ∃ d ds, Dp X.K H x d ∧ Dp X.K H y (.tuple ds) ∧ SeqAt.shaped d = true ∧ SeqAt.shaped (.tuple ds) = true ∧ Q (.bl (!ds.any fun z => PyData.eqv z d)) H) := by
  intro pins s σ H x y v u Q I rx ry h
  obtain ⟨d, ds, hd, he, sd, se, q⟩ := h
  obtain ⟨as, r1⟩ := Dp.reads I d x v hd rx
  obtain ⟨bs, r2⟩ := Dp.reads I (.tuple ds) y u he ry
  exact SeqAt.notIn_tuple_reads r2 r1 (SeqAt.canLay_of_shaped se) (SeqAt.canLay_of_shaped sd) (room_in_shaped sd hu) ⟨.bl _, H, I, rfl, q⟩
end
end Py

set_option Elab.async false
set_option linter.all false
set_option maxRecDepth 100000
/-! Snd3: what is known of the program; comparisons; the checker; simple expressions. -/
namespace Py
open PySem PySem.Spec PyProof.Rows L2

/-- the text's tables: names of defs, methods, makers by number, how many arguments, at which level; constants -/
structure Tab where
  C : Cfg
  fn : Nat → Option String
  mt : Nat → Option (String × String)
  nw : Nat → Option String
  gl : Nat → Option String
  ar : Nat → Nat
  lev : Nat → Nat
  gcd : Bool

/-- an exception -/
def XV (K : PySem.W.Frag) (cl : ClsT) (S : Store) (H : Hp) (x : Exc) (c : Value) (d : Option Addr) : Prop :=
  ∃ C, cl.val x.cls = some C ∧ c = .ref C ∧ match d with
  | none => x.fs = []
  | some d => ∃ gs, H d = some (.xd gs) ∧ S d = none ∧ Paired (fun (p : String × D) (q : Str × V) => q.1 = Str.ofString p.1 ∧ DV K cl S H p.2 q.2) x.fs gs
/-- a def's promise over the abstract heap -/
def spV (T : Tab) (cl : ClsT) (K : PySem.W.Frag) (i : Nat) : L2.Sp := fun vs H Q E => ∃ (z : Addr → Prop) (ds : List D) (S : Store) (Qd : Post) (Ed : Exc → Store → Prop), Cp K (cl.at z) S H ∧ DVs K (cl.at z) S H ds vs ∧ T.C.fn i ds S Qd Ed ∧
  (∀ d S' v H', Qd d S' → Step S H S' H' → Cp K (cl.at z) S' H' → DV K (cl.at z) S' H' d v → Q v H') ∧
  (∀ x S' c d H', Ed x S' → Step S H S' H' → Cp K (cl.at z) S' H' → XV K (cl.at z) S' H' x c d → E c d H')

def bltNames : List String := ["len", "abs", "int", "str", "tuple", "list", "range", "isinstance", "sorted", "set", "sum", "any", "all", "min", "max", "dict", "repr", "iter", "zip", "enumerate", "bool", "ValueError"]

structure Facts (T : Tab) (cl : ClsT) (k : Nat) (X : Cx) : Prop where
  room : Room k X.A
  calm : X.calm = true
  nd : X.N.Nodup
  fn : ∀ i x, T.fn i = some x → T.lev i ≤ k → ∃ f fd ps, X.mg (Str.ofString x) = some (.ref f) ∧ PySem.W.keepIn X.K (.ref f) = true ∧ Binds X.K fd ps [] ∧
    FnOk X.prog X.w X.K X.mg X.base (L2.CX X.prog X.w) (T.lev i) f fd ps (spV T cl X.K i)
  mt : ∀ i c m, T.mt i = some (c, m) → T.lev i ≤ k → ∃ C f fd ps, cl.ins c = some C ∧ Meth X.K C (Str.ofString m) f ∧ Binds X.K fd ps [] ∧
    FnOk X.prog X.w X.K X.mg X.base (L2.CX X.prog X.w) (T.lev i) f fd ps (spV T cl X.K i)
  nw : ∀ i c, T.nw i = some c → T.lev i + 1 ≤ k → ∃ C f fd ps, cl.ins c = some C ∧ X.mg (Str.ofString c) = some (.ref C) ∧ Mk X.K C f ∧ Binds X.K fd ps [] ∧
    FnOk X.prog X.w X.K X.mg X.base (L2.CX X.prog X.w) (T.lev i) f fd ps (spV T cl X.K i)
  cls : ∀ c C, cl.ins c = some C → Cls X.K C
  attr : ∀ c C f, cl.ins c = some C → T.C.fld c f = true → NoAttr X.K C (Str.ofString f)
  gl : ∀ i x, T.gl i = some x → ∃ v u, X.mg (Str.ofString x) = some u ∧ RelV v u ∧ ∀ z S H, DV X.K (cl.at z) S H (T.C.gl i) v
  blt : ∀ x, x ∈ bltNames → X.mg (Str.ofString x) = none
  gcd : T.gcd = true → X.mg (Str.ofString "gcd") = some (.builtin "math.gcd")
  dig : X.base.NoDigits
  val : ∀ n C, n ∉ btys → cl.val n = some C → X.mg (Str.ofString n) = some (.ref C)

section
variable {X : Cx} {T : Tab} {cl : ClsT} {k : Nat}
theorem Facts.hu (F : Facts T cl k X) : X.A.units + 65 < cLine := by have := F.room.un; omega
theorem Facts.blk (F : Facts T cl k X) (s : Shared) (H : Hp) (scope : Scope) (cenv : PySem.Env) (fp : List Addr) : Facts T cl k (X.blk s H scope cenv fp) :=
  ⟨F.room, F.calm, F.nd, F.fn, F.mt, F.nw, F.cls, F.attr, F.gl, F.blt, F.gcd, F.dig, F.val⟩
theorem Facts.at (F : Facts T cl k X) (z : Addr → Prop) : Facts T (cl.at z) k X :=
  ⟨F.room, F.calm, F.nd, F.fn, F.mt, F.nw, F.cls, F.attr, fun i x e => let ⟨v, u, h1, h2, h3⟩ := F.gl i x e; ⟨v, u, h1, h2, fun z S H => h3 z S H⟩, F.blt, F.gcd, F.dig, F.val⟩
theorem Facts.tr (F : Facts T cl k X) (pn : List (Addr × PySem.Obj)) (xe : Value → Shared → Prop) : Facts T cl k (X.tr pn xe) :=
  ⟨F.room, F.calm, F.nd, F.fn, F.mt, F.nw, F.cls, F.attr, F.gl, F.blt, F.gcd, F.dig, F.val⟩

/-! ### comparisons -/
def copOf : Cop → CmpOp
  | .lt => .Lt | .le => .LtE | .gt => .Gt | .ge => .GtE | .eq => .Eq | .ne => .NotEq | .isin => .In | .notin => .NotIn
theorem Cp.seqD (c : Cp X.K cl S H) {d : D} {ys qs : List D} {v : V} (hv : DV X.K cl S H d v) (e : itemsOf S d = some ys) (r : rdL S ys = some qs) : Dp X.K H v (.list (pys qs)) ∨ Dp X.K H v (.tuple (pys qs)) := by
  obtain ⟨a, xs, rfl, h, r'⟩ := itemsOf_seq c hv e
  exact h.imp (fun h => .lst h (rdL_dp c r r')) fun h => .tup h (rdL_dp c r r')
theorem shapedL {qs : List D} (h : D.flatL qs 60 = true) : SeqAt.shaped (.list (pys qs)) = true ∧ SeqAt.shaped (.tuple (pys qs)) = true := by
  obtain ⟨h1, h2⟩ := lay_flatL qs h
  constructor
  · unfold SeqAt.shaped
    rw [show PyData.canLay0 (.list (pys qs)) = true by simpa [PyData.canLay0] using h1, Bool.true_and]
    exact decide_eq_true (by simp only [PyData.depth]; omega)
  · unfold SeqAt.shaped
    rw [show PyData.canLay0 (.tuple (pys qs)) = true by simpa [PyData.canLay0] using h1, Bool.true_and]
    exact decide_eq_true (by simp only [PyData.depth]; omega)
theorem eq_cases {S : Store} {x y : D} {Q : Bool → Prop} (h : cmpW .eq x y S Q) : (∃ s t, x = .str s ∧ y = .str t ∧ Q (s == t)) ∨ ∃ p q, eqOk S x p ∧ eqOk S y q ∧ Q (D.eqv p q) := by
  cases x <;> cases y <;> first | exact .inl ⟨_, _, rfl, rfl, h⟩ | exact .inr h
theorem ne_cases {S : Store} {x y : D} {Q : Bool → Prop} (h : cmpW .ne x y S Q) : (∃ s t, x = .str s ∧ y = .str t ∧ Q (!(s == t))) ∨ ∃ p q, eqOk S x p ∧ eqOk S y q ∧ Q (!D.eqv p q) := by
  cases x <;> cases y <;> first | exact .inl ⟨_, _, rfl, rfl, h⟩ | exact .inr h
theorem in_cases {S : Store} {x y : D} {Q : Bool → Prop} (h : cmpW .isin x y S Q) : (∃ t c, y = .str t ∧ x = .str [c] ∧ Q (decide (c ∈ t))) ∨
    ∃ ys p qs, itemsOf S y = some ys ∧ eqOk S x p ∧ rdL S ys = some qs ∧ D.flatL qs 60 = true ∧ Q (qs.any fun q => D.eqv q p) := by
  cases y <;> first | exact (let ⟨c, e, q⟩ := h; .inl ⟨_, c, rfl, e, q⟩) | exact .inr h
theorem notin_cases {S : Store} {x y : D} {Q : Bool → Prop} (h : cmpW .notin x y S Q) : (∃ t c, y = .str t ∧ x = .str [c] ∧ Q (!decide (c ∈ t))) ∨
    ∃ ys p qs, itemsOf S y = some ys ∧ eqOk S x p ∧ rdL S ys = some qs ∧ D.flatL qs 60 = true ∧ Q (!qs.any fun q => D.eqv q p) := by
  cases y <;> first | exact (let ⟨c, e, q⟩ := h; .inl ⟨_, c, rfl, e, q⟩) | exact .inr h
theorem cmp_snd (F : Facts T cl k X) {S : Store} {H : Hp} {o : Cop} {d e : D} {x y : V} {Q : Bool → Store → Prop} (c : Cp X.K cl S H) (hx : DV X.K cl S H d x) (hy : DV X.K cl S H e y) (h : cmpW o d e S fun b => Q b S) :
    RO X (compareOp (copOf o)) x y H (fun v H' => ∃ b, v = .bl b ∧ OutB X.K cl S H Q b H') := by
  have fin : ∀ {b : Bool}, Q b S → ∃ b', V.bl b = .bl b' ∧ OutB X.K cl S H Q b' H := fun {b} q => ⟨b, rfl, S, .refl, c, q⟩
  cases o with
  | lt => obtain ⟨i, j, rfl, rfl, q⟩ := h; cases hx; cases hy; exact oto op_lt ⟨_, _, rfl, rfl, fin q⟩
  | le => obtain ⟨i, j, rfl, rfl, q⟩ := h; cases hx; cases hy; exact oto op_le ⟨_, _, rfl, rfl, fin q⟩
  | gt => obtain ⟨i, j, rfl, rfl, q⟩ := h; cases hx; cases hy; exact oto op_gt ⟨_, _, rfl, rfl, fin q⟩
  | ge => obtain ⟨i, j, rfl, rfl, q⟩ := h; cases hx; cases hy; exact oto op_ge ⟨_, _, rfl, rfl, fin q⟩
  | eq =>
    rcases eq_cases h with ⟨s, t, rfl, rfl, q⟩ | ⟨p, q, ⟨h1, h2⟩, ⟨h3, h4⟩, q'⟩
    · cases hx; cases hy
      refine oto op_eq ⟨rfl, fin ?_⟩
      rw [dec_str, toS_beq]; exact q
    · refine oto (op_eqD (by have := F.hu; omega)) ⟨_, _, rd_dp c h1 hx, rd_dp c h3 hy, flat_shaped h2, flat_shaped h4, fin ?_⟩
      rw [eqv_py (rd_isPure h1) (rd_isPure h3)]; exact q'
  | ne =>
    rcases ne_cases h with ⟨s, t, rfl, rfl, q⟩ | ⟨p, q, ⟨h1, h2⟩, ⟨h3, h4⟩, q'⟩
    · cases hx; cases hy
      refine oto op_ne ⟨rfl, fin ?_⟩
      rw [dec_str, toS_beq]; exact q
    · refine oto (op_neD (by have := F.hu; omega)) ⟨_, _, rd_dp c h1 hx, rd_dp c h3 hy, flat_shaped h2, flat_shaped h4, fin ?_⟩
      rw [eqv_py (rd_isPure h1) (rd_isPure h3)]; exact q'
  | isin =>
    rcases in_cases h with ⟨t, z, rfl, rfl, q⟩ | ⟨ys, p, qs, h1, ⟨h2, h3⟩, h4, h5, q⟩
    · cases hx; cases hy
      refine oto op_in_sign ⟨z, _, rfl, rfl, fin ?_⟩
      rw [toS_toList]; exact q
    · obtain ⟨g1, g2⟩ := shapedL h5
      rcases c.seqD hy h1 h4 with g | g
      · refine oto (op_inD F.hu) ⟨_, _, rd_dp c h2 hx, g, flat_shaped h3, g1, fin ?_⟩
        rw [any_py (rd_isPure h2) (rdL_isPure h4)]; exact q
      · refine oto (op_inT F.hu) ⟨_, _, rd_dp c h2 hx, g, flat_shaped h3, g2, fin ?_⟩
        rw [any_py (rd_isPure h2) (rdL_isPure h4)]; exact q
  | notin =>
    rcases notin_cases h with ⟨t, z, rfl, rfl, q⟩ | ⟨ys, p, qs, h1, ⟨h2, h3⟩, h4, h5, q⟩
    · cases hx; cases hy
      refine oto op_notIn_sign ⟨z, _, rfl, rfl, fin ?_⟩
      rw [toS_toList]; exact q
    · obtain ⟨g1, g2⟩ := shapedL h5
      rcases c.seqD hy h1 h4 with g | g
      · refine oto (op_notInD F.hu) ⟨_, _, rd_dp c h2 hx, g, flat_shaped h3, g1, fin ?_⟩
        rw [any_py (rd_isPure h2) (rdL_isPure h4)]; exact q
      · refine oto (op_notInT F.hu) ⟨_, _, rd_dp c h2 hx, g, flat_shaped h3, g2, fin ?_⟩
        rw [any_py (rd_isPure h2) (rdL_isPure h4)]; exact q
end

/-! ### the state where an expression is evaluated -/
structure At (K : PySem.W.Frag) (cl : ClsT) (S0 : Store) (H0 : Hp) (ρ : Py.Env) (S : Store) (σ : L2.St) (H : Hp) : Prop where
  st : Step S0 H0 S H
  cp : Cp K cl S H
  env : EnvR K cl S H ρ σ
theorem At.next {K : PySem.W.Frag} {cl : ClsT} {S0 S S' : Store} {H0 H H' : Hp} {ρ : Py.Env} {σ : L2.St} (a : At K cl S0 H0 ρ S σ H) (st : Step S H S' H') (c : Cp K cl S' H') : At K cl S0 H0 ρ S' σ H' :=
  ⟨a.st.trans st, c, a.env.step st⟩
/-- where the walk stands: the program's facts, the wish about exceptions -/
structure Ctx (T : Tab) (cl : ClsT) (k : Nat) (X : Cx) (S0 : Store) (H0 : Hp) (Xe : Exc → Py.Env → Store → Prop) : Prop where
  F : Facts T cl k X
  tk : Takes X fun c d σ H => ∃ ρ S x, At X.K cl S0 H0 ρ S σ H ∧ XV X.K cl S H x c d ∧ Xe x ρ S
def SndE (T : Tab) (cl : ClsT) (X : Cx) (S0 : Store) (H0 : Hp) (Xe : Exc → Py.Env → Store → Prop) (e : Ex) (pe : Expr) : Prop :=
  ∀ ρ S σ H Q, At X.K cl S0 H0 ρ S σ H → wpE T.C Xe e ρ S Q → RE X pe σ H (Out X.K cl S H Q)
def SndEs (T : Tab) (cl : ClsT) (X : Cx) (S0 : Store) (H0 : Hp) (Xe : Exc → Py.Env → Store → Prop) (e : Exs) (pe : List Expr) : Prop :=
  ∀ ρ S σ H Q, At X.K cl S0 H0 ρ S σ H → wpEs T.C Xe e ρ S Q → RA X pe σ H (OutL X.K cl S H Q)
/-- .. as a test -/
def isB (Q : Bool → Store → Prop) : Post := fun x S1 => ∃ k, x = .bl k ∧ Q k S1
def SndT (T : Tab) (cl : ClsT) (X : Cx) (S0 : Store) (H0 : Hp) (Xe : Exc → Py.Env → Store → Prop) (e : Ex) (pe : Expr) : Prop :=
  ∀ ρ S σ H Q, At X.K cl S0 H0 ρ S σ H → wpE T.C Xe e ρ S (isB Q) → RT X pe σ H (OutB X.K cl S H Q)

/-! ### simple expressions -/
def visB (sc : Scope) (x : Str) : Bool := match sc.names.lookup x with | some .local => true | some .cell => true | some .free => true | _ => false
def glB (sc : Scope) (x : Str) : Bool := match sc.names.lookup x with | some .globalImplicit => !(x == ("__debug__" : Str)) | _ => false
def locB (sc : Scope) (x : Str) : Bool := match sc.names.lookup x with | some .local => true | some .cell => true | _ => false
theorem visB_ok {sc : Scope} {x : Str} (h : visB sc x = true) : Vis sc x := by
  unfold visB at h
  split at h
  · exact .inl (by assumption)
  · exact .inr (.inl (by assumption))
  · exact .inr (.inr (by assumption))
  · cases h
theorem locB_ok {sc : Scope} {x : Str} (h : locB sc x = true) : Loc sc x := by
  unfold locB at h
  split at h
  · exact .inl (by assumption)
  · exact .inr (by assumption)
  · cases h
theorem glB_ok {X : Cx} {x : Str} (h : glB X.env.scope x = true) : Gl X x ∧ (x == ("__debug__" : Str)) = false := by
  unfold glB at h
  split at h
  · exact ⟨by assumption, by simpa using h⟩
  · cases h
def varB (N : List Str) (sc : Scope) (i : Nat) (x : Str) : Bool := (N[i]? == some x) && visB sc x && !(x == ("__debug__" : Str)) && !(x == ("__classdict__" : Str))
def cstB : Cst → Const → Bool
  | .non, c => match c with | .none => true | _ => false
  | .bl a, c => match c with | .bool b => a == b | _ => false
  | .int a, c => match c with | .int b => a == b | _ => false
  | .str s, c => match c with | .str t => t == toS s | _ => false

section
variable {T : Tab} {cl : ClsT} {X : Cx} {S0 : Store} {H0 : Hp} {Xe : Exc → Py.Env → Store → Prop} {k : Nat} {pos : Pos}
theorem snd_var {i : Nat} {x : Str} (h : varB X.N X.env.scope i x = true) : SndE T cl X S0 H0 Xe (.var i) (.Name x pos) := by
  intro ρ S σ H Q a w
  obtain ⟨d, e, q⟩ := w
  unfold varB at h
  simp only [Bool.and_eq_true, beq_iff_eq, Bool.not_eq_true'] at h
  obtain ⟨v, h1, h2⟩ := a.env.get i d e
  exact eto (pe_var h.1.1.1 (visB_ok h.1.1.2) h.1.2 h.2) ⟨v, h1, .pure a.cp h2 q⟩
theorem snd_cst {c : Cst} {kc : Const} {j : Nat} (h : cstB c kc = true) : SndE T cl X S0 H0 Xe (.cst c) (.Constant kc j pos) := by
  intro ρ S σ H Q a w
  have w' : Q c.d S := w
  cases c with
  | non =>
    cases kc <;> first | cases h | skip
    exact eto pe_non (.pure a.cp .non w')
  | bl b =>
    cases kc <;> first | cases h | skip
    rename_i b'
    have e : b = b' := by simpa [cstB] using h
    subst e
    exact eto pe_bl (.pure a.cp (.bl _) w')
  | int i =>
    cases kc <;> first | cases h | skip
    rename_i b'
    have e : i = b' := by simpa [cstB] using h
    subst e
    exact eto pe_int (.pure a.cp (.int _) w')
  | str s =>
    cases kc <;> first | cases h | skip
    rename_i b'
    have e : b' = toS s := by simpa [cstB] using h
    subst e
    exact eto pe_str (.pure a.cp (.str _) w')
theorem snd_glb (C : Ctx T cl k X S0 H0 Xe) {i : Nat} {x : String} {y : Str} (hi : T.gl i = some x) (hy : y = Str.ofString x) (hg : glB X.env.scope y = true) : SndE T cl X S0 H0 Xe (.glb i) (.Name y pos) := by
  intro ρ S σ H Q a w
  subst hy
  obtain ⟨v, u, h1, h2, h3⟩ := C.F.gl i x hi
  obtain ⟨g1, g2⟩ := glB_ok hg
  exact eto (pe_glob g1 h1 h2 g2) (.pure a.cp (h3 cl.z S H) w)
theorem snd_neg {e : Ex} {pe : Expr} (h : SndE T cl X S0 H0 Xe e pe) : SndE T cl X S0 H0 Xe (.neg e) (.UnaryOp .USub pe pos) := by
  intro ρ S σ H Q a w
  refine eto (pe_un un_neg (re X pe)) ?_
  refine (h ρ S σ H _ a w).mono fun v H1 ⟨d, S1, st, c, r, i, e, q⟩ => ?_
  subst e
  cases r
  exact ⟨i, rfl, (Out.pure c (.int _) q).from st⟩
theorem snd_bin {e f : Ex} {pe pf : Expr} {o : Bop} {op : Operator} (ho : op = popOf o) (h1 : SndE T cl X S0 H0 Xe e pe) (h2 : SndE T cl X S0 H0 Xe f pf) : SndE T cl X S0 H0 Xe (.bin o e f) (.BinOp pe op pf pos) := by
  intro ρ S σ H Q a w
  subst ho
  refine eto (pe_op (ro X _) (re X pe) (re X pf)) ?_
  refine (h1 ρ S σ H _ a w).mono fun v H1 ⟨d, S1, st1, c1, r1, w1⟩ => ?_
  refine (h2 ρ S1 σ H1 _ (a.next st1 c1) w1).mono fun u H2 ⟨e, S2, st2, c2, r2, w2⟩ => ?_
  exact RO.mono (bin_snd c2 (r1.step st2) r2 w2) fun _ _ o => o.from (st1.trans st2)
theorem snd_cmp (C : Ctx T cl k X S0 H0 Xe) {e f : Ex} {pe pf : Expr} {o : Cop} {op : CmpOp} (ho : op = copOf o) (hm : behindInMarks op pf = false) (h1 : SndE T cl X S0 H0 Xe e pe) (h2 : SndE T cl X S0 H0 Xe f pf) :
    SndE T cl X S0 H0 Xe (.cmp o e f) (.Compare pe [op] [pf] pos) ∧ SndT T cl X S0 H0 Xe (.cmp o e f) (.Compare pe [op] [pf] pos) := by
  subst ho
  constructor
  · intro ρ S σ H Q a w
    refine eto (pe_cmpR (ro X _) (re X pe) (re X pf) hm) ?_
    refine (h1 ρ S σ H _ a w).mono fun v H1 ⟨d, S1, st1, c1, r1, w1⟩ => ?_
    refine (h2 ρ S1 σ H1 _ (a.next st1 c1) w1).mono fun u H2 ⟨e, S2, st2, c2, r2, w2⟩ => ?_
    refine RO.mono (cmp_snd (Q := fun b S => Q (.bl b) S) C.F c2 (r1.step st2) r2 w2) fun _ _ ⟨b, e, S3, st3, c3, q⟩ => ?_
    subst e
    exact (Out.pure c3 (.bl b) q).from ((st1.trans st2).trans st3)
  · intro ρ S σ H Q a w
    refine tto (pt_cmpR (ro X _) (re X pe) (re X pf) hm) ?_
    refine (h1 ρ S σ H _ a w).mono fun v H1 ⟨d, S1, st1, c1, r1, w1⟩ => ?_
    refine (h2 ρ S1 σ H1 _ (a.next st1 c1) w1).mono fun u H2 ⟨e, S2, st2, c2, r2, w2⟩ => ?_
    refine RO.mono (cmp_snd (Q := fun b S => isB Q (.bl b) S) C.F c2 (r1.step st2) r2 w2) fun _ _ ⟨b, e, S3, st3, c3, b', eb, q⟩ => ?_
    subst e
    cases eb
    exact ⟨b, rfl, S3, (st1.trans st2).trans st3, c3, q⟩
theorem tChain_mono {pa pb pc : Expr} {f f' : Value → Value → Sem Value} {σ : L2.St} {H : Hp} {Q Q' : VK} (h : tChain (RO X f) (RO X f') (RE X pa) (RE X pb) (RE X pc) σ H Q) (k : ∀ v H', Q v H' → Q' v H') :
    tChain (RO X f) (RO X f') (RE X pa) (RE X pb) (RE X pc) σ H Q' := by
  refine RE.mono h fun x H1 h => RE.mono h fun y H2 h => RO.mono h fun z H3 ⟨b, e, h⟩ => ⟨b, e, ?_⟩
  cases b with
  | false => exact k _ _ h
  | true =>
    have h' : RE X pc σ H3 fun w' H4 => RO X f' y w' H4 Q := h
    exact RE.mono h' fun w H4 h => RO.mono h k
theorem snd_chn (C : Ctx T cl k X S0 H0 Xe) {e f g : Ex} {pe pf pg : Expr} {o p : Cop} {op pp : CmpOp} (ho : op = copOf o) (hp : pp = copOf p) (hm : behindInMarks pp pg = false) (h1 : SndE T cl X S0 H0 Xe e pe) (h2 : SndE T cl X S0 H0 Xe f pf) (h3 : SndE T cl X S0 H0 Xe g pg) :
    SndE T cl X S0 H0 Xe (.chn o p e f g) (.Compare pe [op, pp] [pf, pg] pos) ∧ SndT T cl X S0 H0 Xe (.chn o p e f g) (.Compare pe [op, pp] [pf, pg] pos) := by
  subst ho hp
  have hr : PE X (.Compare pe [copOf o, copOf p] [pf, pg] pos) (tChain (RO X (compareOp (copOf o))) (RO X (compareOp (copOf p))) (RE X pe) (RE X pf) (RE X pg)) := pe_chain (ro X _) (ro X _) (re X _) (re X _) (re X _) hm
  have ht : PT X (.Compare pe [copOf o, copOf p] [pf, pg] pos) (tTest (tChain (RO X (compareOp (copOf o))) (RO X (compareOp (copOf p))) (RE X pe) (RE X pf) (RE X pg))) := pt_chain (ro X _) (ro X _) (re X _) (re X _) (re X _) hm
  have core : ∀ ρ S σ H Q, At X.K cl S0 H0 ρ S σ H → wpE T.C Xe (.chn o p e f g) ρ S Q → tChain (RO X (compareOp (copOf o))) (RO X (compareOp (copOf p))) (RE X pe) (RE X pf) (RE X pg) σ H (Out X.K cl S H Q) := by
    intro ρ S σ H Q a w
    refine (h1 ρ S σ H _ a w).mono fun v H1 ⟨d, S1, st1, c1, r1, w1⟩ => ?_
    refine (h2 ρ S1 σ H1 _ (a.next st1 c1) w1).mono fun u H2 ⟨e, S2, st2, c2, r2, w2⟩ => ?_
    refine RO.mono (cmp_snd (Q := fun k S2 => if k = true then wpE T.C Xe g ρ S2 fun z S3 => cmpW p e z S3 fun k => Q (.bl k) S3 else Q (.bl false) S2) C.F c2 (r1.step st2) r2 w2) fun _ _ ⟨b, eb, S3, st3, c3, q⟩ => ?_
    refine ⟨b, eb, ?_⟩
    cases b with
    | false => exact (Out.pure c3 (.bl _) q).from ((st1.trans st2).trans st3)
    | true =>
      have q' : wpE T.C Xe g ρ S3 fun z S3 => cmpW p e z S3 fun k => Q (.bl k) S3 := q
      refine (h3 ρ S3 σ _ _ (a.next ((st1.trans st2).trans st3) c3) q').mono fun u H4 ⟨e4, S4, st4, c4, r4, w4⟩ => ?_
      refine RO.mono (cmp_snd (Q := fun b S => Q (.bl b) S) C.F c4 (r2.step (st3.trans st4)) r4 w4) fun _ _ ⟨b, e, S5, st5, c5, q⟩ => ?_
      subst e
      exact (Out.pure c5 (.bl b) q).from ((((st1.trans st2).trans st3).trans st4).trans st5)
  constructor
  · intro ρ S σ H Q a w
    exact eto hr (core ρ S σ H Q a w)
  · intro ρ S σ H Q a w
    refine tto ht (tChain_mono (core ρ S σ H _ a w) fun v H' ⟨d, S', st, c, r, b, e, q⟩ => ?_)
    subst e
    cases r
    exact ⟨b, rfl, S', st, c, q⟩
end
end Py

set_option Elab.async false
set_option linter.all false
set_option maxRecDepth 100000
/-! Snd4: and, or, not; displays, places, slices, fields; calls; built-ins. -/
namespace Py
open PySem PySem.Spec PyProof.Rows L2

def RW (X : Cx) (e : Expr) : TT := fun σ H Q => ∀ (whole : Sem Value) (pins : List (Addr × PySem.Obj)) (s : Shared), Inv X pins σ H s → wpAny (model X.prog X.w) X.A (isTrue e X.env whole) (TP X pins σ Q) X.xe s
theorem rw' (X : Cx) (e : Expr) : PW X e (RW X e) := ⟨fun whole pins s _ _ _ I h => h whole pins s I⟩
theorem wto {X : Cx} {e : Expr} {t : TT} (h : PW X e t) {σ : L2.St} {H : Hp} {Q : Bool → Hp → Prop} (q : t σ H Q) : RW X e σ H Q := fun whole pins s I => h.run whole pins s σ H Q I q

def notStar : Expr → Bool
  | .Starred _ _ => false
  | _ => true
theorem starEach_cons {e : Expr} {es : List Expr} {env : PySem.Env} (h : notStar e = true) : starEach (e :: es) env = (false, eval e env) :: starEach es env := by
  cases e <;> first | rfl | cases h
/-- no star in the list -/
def notStars : List Expr → Bool
  | [] => true
  | e :: es => notStar e && notStars es
theorem notStars_any {env : PySem.Env} {pos : Pos} : ∀ {es : List Expr}, notStars es = true → (backTo pos (starEach es env)).any (·.1) = false
  | [], _ => rfl
  | e :: es, h => by
    have h' : notStar e = true ∧ notStars es = true := by simpa [notStars] using h
    rw [starEach_cons h'.1]
    have := notStars_any (env := env) (pos := pos) h'.2
    unfold backTo at this ⊢
    simp only [List.map_cons, List.any_cons, Bool.false_or]
    exact this
def plainT : Expr → Bool
  | .UnaryOp .Not _ _ => false
  | .BoolOp _ _ _ => false
  | .IfExp _ _ _ _ => false
  | .Compare _ _ _ _ => false
  | _ => true
def notSlice : Expr → Bool
  | .Slice _ _ _ _ => false
  | _ => true
theorem plainIx {e : Expr} (h : notSlice e = true) : PlainIx e := fun o i => by cases e <;> first | rfl | cases h
def plainBase : Expr → Bool
  | .Call _ [] [] _ => false
  | _ => true
theorem plainBase_ok {e : Expr} {f : Str} {env : PySem.Env} (h : plainBase e = true) : attributeBase e f env (eval e env) = eval e env := by
  cases e with
  | Call g es kws pos =>
    cases es with
    | nil =>
      cases kws with
      | nil => cases h
      | cons a b => cases g <;> rfl
    | cons a b => cases g <;> rfl
  | _ => rfl

section
variable {T : Tab} {cl : ClsT} {X : Cx} {S0 : Store} {H0 : Hp} {Xe : Exc → Py.Env → Store → Prop} {k : Nat} {pos : Pos}
theorem snd_val {e : Ex} {pe : Expr} (h : SndE T cl X S0 H0 Xe e pe) (hp : plainT pe = true) : SndT T cl X S0 H0 Xe e pe := by
  intro ρ S σ H Q a w
  refine tto (pt_val (re X pe) (fun whole => ?_)) ?_
  · cases pe <;> first | rfl | cases hp | skip
    rename_i op _ _
    cases op <;> first | rfl | cases hp
  · refine (h ρ S σ H _ a w).mono fun v H' ⟨d, S', st, c, r, b, e, q⟩ => ?_
    subst e
    cases r
    exact ⟨b, rfl, S', st, c, q⟩
/-! ### and, or, not, if .. else -/
def SndBE (T : Tab) (cl : ClsT) (X : Cx) (S0 : Store) (H0 : Hp) (Xe : Exc → Py.Env → Store → Prop) (o : BoolOp) (e : Exs) (pe : List Expr) (pos : Pos) : Prop :=
  ∀ ρ S σ H Q, At X.K cl S0 H0 ρ S σ H → (match o with | .And => wpAnd T.C Xe e ρ S Q | .Or => wpOr T.C Xe e ρ S Q) → RE X (.BoolOp o pe pos) σ H (Out X.K cl S H Q)
def SndBT (T : Tab) (cl : ClsT) (X : Cx) (S0 : Store) (H0 : Hp) (Xe : Exc → Py.Env → Store → Prop) (o : BoolOp) (e : Exs) (pe : List Expr) (pos : Pos) : Prop :=
  ∀ ρ S σ H Q, At X.K cl S0 H0 ρ S σ H → (match o with | .And => wpAnd T.C Xe e ρ S (isB Q) | .Or => wpOr T.C Xe e ρ S (isB Q)) → RW X (.BoolOp o pe pos) σ H (OutB X.K cl S H Q)
theorem snd_b1 {o : BoolOp} {e : Ex} {pe : Expr} (h : SndE T cl X S0 H0 Xe e pe) : SndBE T cl X S0 H0 Xe o (.cons e .nil) [pe] pos := by
  intro ρ S σ H Q a w
  refine eto (pe_one (re X pe)) (h ρ S σ H Q a ?_)
  cases o <;> exact w
theorem snd_b2 {o : BoolOp} {e f : Ex} {es : Exs} {pe pf : Expr} {ps : List Expr} (h : SndE T cl X S0 H0 Xe e pe) (r : SndBE T cl X S0 H0 Xe o (.cons f es) (pf :: ps) pos) : SndBE T cl X S0 H0 Xe o (.cons e (.cons f es)) (pe :: pf :: ps) pos := by
  intro ρ S σ H Q a w
  cases o with
  | And =>
    refine eto (pe_and (re X pe) (re X (.BoolOp .And (pf :: ps) pos))) ?_
    refine (h ρ S σ H _ a w).mono fun v H1 ⟨d, S1, st, c, rd, b, e, q⟩ => ?_
    subst e
    cases rd
    refine ⟨b, rfl, ?_⟩
    cases b with
    | true => exact (r ρ S1 σ H1 Q (a.next st c) q).mono fun _ _ o => o.from st
    | false => exact (Out.pure c (.bl _) q).from st
  | Or =>
    refine eto (pe_or (re X pe) (re X (.BoolOp .Or (pf :: ps) pos))) ?_
    refine (h ρ S σ H _ a w).mono fun v H1 ⟨d, S1, st, c, rd, b, e, q⟩ => ?_
    subst e
    cases rd
    refine ⟨b, rfl, ?_⟩
    cases b with
    | true => exact (Out.pure c (.bl _) q).from st
    | false => exact (r ρ S1 σ H1 Q (a.next st c) q).mono fun _ _ o => o.from st
theorem snd_b1T {o : BoolOp} {e : Ex} {pe : Expr} (h : SndT T cl X S0 H0 Xe e pe) : SndBT T cl X S0 H0 Xe o (.cons e .nil) [pe] pos := by
  intro ρ S σ H Q a w
  cases o with
  | And => exact wto (pw_and1 (rt X pe)) (h ρ S σ H Q a w)
  | Or => exact wto (pw_or1 (rt X pe)) (h ρ S σ H Q a w)
theorem snd_b2T {o : BoolOp} {e f : Ex} {es : Exs} {pe pf : Expr} {ps : List Expr} (h : SndT T cl X S0 H0 Xe e pe) (r : SndBT T cl X S0 H0 Xe o (.cons f es) (pf :: ps) pos) : SndBT T cl X S0 H0 Xe o (.cons e (.cons f es)) (pe :: pf :: ps) pos := by
  intro ρ S σ H Q a w
  cases o with
  | And =>
    refine wto (pw_and (rt X pe) (rw' X (.BoolOp .And (pf :: ps) pos))) ?_
    refine (h ρ S σ H (fun b S1 => if b = true then wpAnd T.C Xe (.cons f es) ρ S1 (isB Q) else isB Q (.bl false) S1) a w).mono fun b H1 ⟨S1, st, c, q⟩ => ?_
    cases b with
    | true => exact fun wh pins s I => wpAny_mono (r ρ S1 σ H1 Q (a.next st c) q wh pins s I) (fun _ _ ⟨H', J, o⟩ => ⟨H', J, o.from st⟩) fun _ _ x => x
    | false =>
      obtain ⟨b', e, q⟩ := q
      cases e
      exact ⟨S1, st, c, q⟩
  | Or =>
    refine wto (pw_or (rt X pe) (rw' X (.BoolOp .Or (pf :: ps) pos))) ?_
    refine (h ρ S σ H (fun b S1 => if b = true then isB Q (.bl true) S1 else wpOr T.C Xe (.cons f es) ρ S1 (isB Q)) a w).mono fun b H1 ⟨S1, st, c, q⟩ => ?_
    cases b with
    | true =>
      obtain ⟨b', e, q⟩ := q
      cases e
      exact ⟨S1, st, c, q⟩
    | false => exact fun wh pins s I => wpAny_mono (r ρ S1 σ H1 Q (a.next st c) q wh pins s I) (fun _ _ ⟨H', J, o⟩ => ⟨H', J, o.from st⟩) fun _ _ x => x
theorem snd_not {e : Ex} {pe : Expr} (h : SndE T cl X S0 H0 Xe e pe) : SndE T cl X S0 H0 Xe (.not e) (.UnaryOp .Not pe pos) := by
  intro ρ S σ H Q a w
  refine eto (pe_not (re X pe)) ((h ρ S σ H _ a w).mono fun v H1 ⟨d, S1, st, c, rd, b, e, q⟩ => ?_)
  subst e
  cases rd
  exact ⟨b, rfl, (Out.pure c (.bl _) q).from st⟩
theorem snd_notT {e : Ex} {pe : Expr} (h : SndT T cl X S0 H0 Xe e pe) : SndT T cl X S0 H0 Xe (.not e) (.UnaryOp .Not pe pos) := by
  intro ρ S σ H Q a w
  refine tto (pt_not (rt X pe)) ?_
  have w' : wpE T.C Xe e ρ S fun x S1 => ∃ k, x = .bl k ∧ isB Q (.bl (!k)) S1 := w
  refine (h ρ S σ H (fun b S1 => isB Q (.bl (!b)) S1) a w').mono fun b H1 ⟨S1, st, c, b', e, q⟩ => ?_
  cases e
  exact ⟨S1, st, c, q⟩
theorem snd_ite {e f g : Ex} {pe pf pg : Expr} (h : SndT T cl X S0 H0 Xe e pe) (h1 : SndE T cl X S0 H0 Xe f pf) (h2 : SndE T cl X S0 H0 Xe g pg) : SndE T cl X S0 H0 Xe (.ite e f g) (.IfExp pe pf pg pos) := by
  intro ρ S σ H Q a w
  refine eto (pe_ifExp (rt X pe) (re X pf) (re X pg)) ?_
  refine (h ρ S σ H (fun b S1 => if b = true then wpE T.C Xe f ρ S1 Q else wpE T.C Xe g ρ S1 Q) a w).mono fun b H1 ⟨S1, st, c, q⟩ => ?_
  cases b with
  | true => exact (h1 ρ S1 σ H1 Q (a.next st c) q).mono fun _ _ o => o.from st
  | false => exact (h2 ρ S1 σ H1 Q (a.next st c) q).mono fun _ _ o => o.from st
theorem snd_isN {e : Ex} {pe : Expr} {j : Nat} {p2 : Pos} (h : SndE T cl X S0 H0 Xe e pe) : SndE T cl X S0 H0 Xe (.isN e) (.Compare pe [.Is] [.Constant .none j p2] pos) ∧ SndT T cl X S0 H0 Xe (.isN e) (.Compare pe [.Is] [.Constant .none j p2] pos) := by
  have key : ∀ {d : D} {v : V} {S H}, DV X.K cl S H d v → decide (v = .non) = (match d with | .non => true | _ => false) := fun r => by cases r <;> rfl
  constructor
  · intro ρ S σ H Q a w
    refine eto (pe_cmp (pc_isN (re X pe))) ((h ρ S σ H _ a w).mono fun v H1 ⟨d, S1, st, c, rd, q⟩ => ?_)
    rw [key rd]
    exact (Out.pure c (.bl _) q).from st
  · intro ρ S σ H Q a w
    refine tto (pt_cmp (pc_isN (re X pe))) ((h ρ S σ H _ a w).mono fun v H1 ⟨d, S1, st, c, rd, b, e, q⟩ => ?_)
    cases e
    exact ⟨_, congrArg V.bl (key rd), S1, st, c, q⟩
theorem snd_noN {e : Ex} {pe : Expr} {j : Nat} {p2 : Pos} (h : SndE T cl X S0 H0 Xe e pe) : SndE T cl X S0 H0 Xe (.noN e) (.Compare pe [.IsNot] [.Constant .none j p2] pos) ∧ SndT T cl X S0 H0 Xe (.noN e) (.Compare pe [.IsNot] [.Constant .none j p2] pos) := by
  have key : ∀ {d : D} {v : V} {S H}, DV X.K cl S H d v → (!decide (v = .non)) = (match d with | .non => false | _ => true) := fun r => by cases r <;> rfl
  constructor
  · intro ρ S σ H Q a w
    refine eto (pe_cmp (pc_notN (re X pe))) ((h ρ S σ H _ a w).mono fun v H1 ⟨d, S1, st, c, rd, q⟩ => ?_)
    rw [key rd]
    exact (Out.pure c (.bl _) q).from st
  · intro ρ S σ H Q a w
    refine tto (pt_cmp (pc_notN (re X pe))) ((h ρ S σ H _ a w).mono fun v H1 ⟨d, S1, st, c, rd, b, e, q⟩ => ?_)
    cases e
    exact ⟨_, congrArg V.bl (key rd), S1, st, c, q⟩

/-! ### lists of expressions, displays -/
theorem snd_nil : SndEs T cl X S0 H0 Xe .nil [] := by
  intro ρ S σ H Q a w
  exact ato pa_nil ⟨[], S, .refl, a.cp, .nil, w⟩
theorem snd_cons {e : Ex} {es : Exs} {pe : Expr} {ps : List Expr} (hs : notStar pe = true) (h : SndE T cl X S0 H0 Xe e pe) (r : SndEs T cl X S0 H0 Xe es ps) : SndEs T cl X S0 H0 Xe (.cons e es) (pe :: ps) := by
  intro ρ S σ H Q a w
  refine ato (pa_cons (re X pe) (ra X ps) (starEach_cons hs)) ?_
  refine (h ρ S σ H _ a w).mono fun v H1 ⟨d, S1, st, c, rd, q⟩ => ?_
  refine RA.mono (r ρ S1 σ H1 _ (a.next st c) q) fun vs H2 ⟨ds, S2, st2, c2, rs, q2⟩ => ?_
  exact ⟨d :: ds, S2, st.trans st2, c2, .cons (rd.step st2) rs, q2⟩
theorem snd_tup {es : Exs} {ps : List Expr} {j : Nat} (r : SndEs T cl X S0 H0 Xe es ps) : SndE T cl X S0 H0 Xe (.tup es) (.Tuple ps j pos) := by
  intro ρ S σ H Q a w
  refine eto (pe_tup (ra X ps)) ?_
  refine RA.mono (r ρ S σ H _ a w) fun vs H2 ⟨ds, S2, st2, c2, rs, z, q2⟩ => ⟨by rw [← rs.length, ← lim_eq]; exact z, fun p hp => ?_⟩
  exact (Out.tup c2 rs q2 p hp).from st2
theorem snd_lst {m : Bool} {es : Exs} {ps : List Expr} (r : SndEs T cl X S0 H0 Xe es ps) : SndE T cl X S0 H0 Xe (.lst m es) (.List ps pos) := by
  intro ρ S σ H Q a w
  refine eto (pe_lst (ra X ps)) ?_
  refine RA.mono (r ρ S σ H _ a w) fun vs H2 ⟨ds, S2, st2, c2, rs, q2⟩ => ⟨by rw [← rs.length, ← lim_eq]; exact q2.1, fun p hp => ?_⟩
  exact (Out.newL c2 rs q2 p hp).from st2

/-! ### places, slices, fields -/
theorem atI_snd {ds : List D} {xs : List V} {S : Store} {H : Hp} {i : Int} {d : D} (r : DVs X.K cl S H ds xs) (h : Py.atI ds i = some d) : ∃ v, L2.atI xs i = some v ∧ DV X.K cl S H d v := by
  unfold Py.atI at h
  cases e : Py.ixN ds.length i with
  | none => rw [e] at h; cases h
  | some j =>
    rw [e] at h
    obtain ⟨v, h1, h2⟩ := r.get (show ds[j]? = some d from h)
    refine ⟨v, ?_, h2⟩
    unfold L2.atI
    rw [← r.length, show L2.ixN ds.length i = Py.ixN ds.length i from rfl, e]
    exact h1
theorem idx_cases {x i : D} {S : Store} {Q : Post} (h : idxW x i S Q) : (∃ s k c, x = .str s ∧ i = .int k ∧ s.length ≤ lim ∧ Py.atI s k = some c ∧ Q (.str [c]) S) ∨
    ∃ k xs d, i = .int k ∧ itemsOf S x = some xs ∧ Py.atI xs k = some d ∧ Q d S := by
  cases x <;> first | exact (let ⟨k, c, h⟩ := h; .inl ⟨_, k, c, rfl, h⟩) | exact .inr h
def RIx (X : Cx) : R2 := rIx X.K
theorem snd_idx {e f : Ex} {pe pf : Expr} (hs : notSlice pf = true) (h1 : SndE T cl X S0 H0 Xe e pe) (h2 : SndE T cl X S0 H0 Xe f pf) : SndE T cl X S0 H0 Xe (.idx e f) (.Subscript pe pf pos) := by
  intro ρ S σ H Q a w
  refine eto (pe_ix ix_seq (re X pe) (re X pf) (plainIx hs)) ?_
  refine (h1 ρ S σ H _ a w).mono fun v H1 ⟨d, S1, st1, c1, r1, w1⟩ => ?_
  refine (h2 ρ S1 σ H1 _ (a.next st1 c1) w1).mono fun u H2 ⟨e, S2, st2, c2, r2, w2⟩ => ?_
  have st := st1.trans st2
  rcases idx_cases w2 with ⟨s, k, z, rfl, rfl, hz, hk, q⟩ | ⟨k, xs, y, rfl, hx, hk, q⟩
  · cases r1
    cases r2
    refine .inr (.inr ⟨toS s, k, z, rfl, rfl, by rw [toS_len, ← lim_eq]; exact hz, ?_, (Out.pure c2 (.str [z]) q).from st⟩)
    rw [toS_toList]
    exact hk
  · cases r2
    obtain ⟨p, vs, rfl, hq, rv⟩ := itemsOf_seq c2 (r1.step st2) hx
    obtain ⟨v, h3, h4⟩ := atI_snd rv hk
    rcases hq with hq | hq
    · exact .inl ⟨p, vs, k, v, rfl, rfl, hq, h3, (Out.pure c2 h4 q).from st⟩
    · exact .inr (.inl ⟨p, vs, k, v, rfl, rfl, hq, h3, (Out.pure c2 h4 q).from st⟩)
def RPo (X : Cx) (e : Option Expr) : TO := fun σ H Q => ∀ (pins : List (Addr × PySem.Obj)) (s : Shared), Inv X pins σ H s → wpAny (model X.prog X.w) X.A (evalPart e X.env) (fun u s' => ∃ o H', Inv X pins σ H' s' ∧ IsPart u o ∧ Q o H') X.xe s
theorem rpo (X : Cx) (e : Option Expr) : PO X e (RPo X e) := ⟨fun pins s _ _ _ I h => h pins s I⟩
theorem poto {e : Option Expr} {t : TO} (h : PO X e t) {σ : L2.St} {H : Hp} {Q : Option Int → Hp → Prop} (q : t σ H Q) : RPo X e σ H Q := fun pins s I => h.run pins s σ H Q I q
theorem RPo.mono {e : Option Expr} {σ : L2.St} {H : Hp} {Q Q' : Option Int → Hp → Prop} (h : RPo X e σ H Q) (k : ∀ v H', Q v H' → Q' v H') : RPo X e σ H Q' := fun pins s I =>
  wpAny_mono (h pins s I) (fun _ _ ⟨v, H', J, r, q⟩ => ⟨v, H', J, r, k _ _ q⟩) fun _ _ x => x
def SndO (T : Tab) (cl : ClsT) (X : Cx) (S0 : Store) (H0 : Hp) (Xe : Exc → Py.Env → Store → Prop) (o : Opt) (pe : Option Expr) : Prop :=
  ∀ ρ S σ H Q, At X.K cl S0 H0 ρ S σ H → wpO T.C Xe o ρ S Q → RPo X pe σ H fun i H' => ∃ S', Step S H S' H' ∧ Cp X.K cl S' H' ∧ Q i S'
theorem snd_no : SndO T cl X S0 H0 Xe .no none := fun ρ S σ H Q a w => poto po_none ⟨S, .refl, a.cp, w⟩
theorem snd_yes {e : Ex} {pe : Expr} (h : SndE T cl X S0 H0 Xe e pe) : SndO T cl X S0 H0 Xe (.yes e) (some pe) := fun ρ S σ H Q a w => by
  refine poto (po_some (re X pe)) ((h ρ S σ H _ a w).mono fun v H1 ⟨d, S1, st, c, rd, i, e, q⟩ => ?_)
  subst e
  cases rd
  exact ⟨i, rfl, S1, st, c, q⟩
theorem slc_cases {x : D} {lo hi : Option Int} {S : Store} {Q : Post} (h : slcW x lo hi S Q) : (∃ s, x = .str s ∧ s.length ≤ lim ∧ Q (.str (cutL s lo hi)) S) ∨ (∃ ds, x = .tup ds ∧ Q (.tup (cutL ds lo hi)) S) ∨
    ∃ ds, listOf S x = some ds ∧ Q (.lst (cutL ds lo hi)) S := by
  cases x <;> first | exact .inl ⟨_, rfl, h⟩ | exact .inr (.inl ⟨_, rfl, h⟩) | exact .inr (.inr h)
theorem cut_dvs {ds : List D} {xs : List V} {S : Store} {H : Hp} (r : DVs X.K cl S H ds xs) (lo hi : Option Int) : DVs X.K cl S H (cutL ds lo hi) (cutV xs lo hi) := by
  unfold cutL cutV
  rw [r.length]
  exact (r.drop _).take _
def rSl (K : PySem.W.Frag) : V → Option Int → Option Int → Hp → VK → Prop := fun x lo hi H Q => rSlS x lo hi H Q ∨ rSlA K x lo hi H Q ∨ rSlL K x lo hi H Q
theorem sl_any : SlR X (rSl X.K) := sl_str.or (sl_tupA.or sl_list)
theorem snd_slc {e : Ex} {pe : Expr} {l h : Opt} {pl ph : Option Expr} {p2 : Pos} (h1 : SndE T cl X S0 H0 Xe e pe) (hl : SndO T cl X S0 H0 Xe l pl) (hh : SndO T cl X S0 H0 Xe h ph) : SndE T cl X S0 H0 Xe (.slc e l h) (.Subscript pe (.Slice pl ph none p2) pos) := by
  intro ρ S σ H Q a w
  refine eto (pe_slice sl_any (re X pe) (rpo X pl) (rpo X ph)) ?_
  refine (h1 ρ S σ H _ a w).mono fun v H1 ⟨d, S1, st1, c1, r1, w1⟩ => ?_
  refine (hl ρ S1 σ H1 _ (a.next st1 c1) w1).mono fun lo H2 ⟨S2, st2, c2, w2⟩ => ?_
  refine (hh ρ S2 σ H2 _ (a.next (st1.trans st2) c2) w2).mono fun hi H3 ⟨S3, st3, c3, w3⟩ => ?_
  have st := (st1.trans st2).trans st3
  have r3 := r1.step (st2.trans st3)
  rcases slc_cases w3 with ⟨s, rfl, hz, q⟩ | ⟨ds, rfl, q⟩ | ⟨ds, hd, q⟩
  · cases r3
    refine .inl ⟨toS s, rfl, by rw [toS_len, ← lim_eq]; exact hz, ?_⟩
    have e : cutS (toS s) lo hi = toS (cutL s lo hi) := by
      unfold cutS toS cutL
      rfl
    rw [e]
    exact (Out.pure c3 (.str _) q).from st
  · cases r3 with
    | @tup p xs _ f r =>
      refine .inr (.inl ⟨p, xs, rfl, f.sq, fun hw => ?_, fun _ p' hp => (Out.tup c3 (cut_dvs r lo hi) q p' hp).from st⟩)
      have e : cutL ds lo hi = ds := by
        unfold cutL
        have h1 : Py.sIx ds.length 0 lo = 0 := by rw [r.length]; exact hw.1
        have h2 : Py.sIx ds.length ds.length hi = ds.length := by rw [r.length]; exact hw.2
        rw [h1, h2]
        simp
      rw [e] at q
      exact (Out.pure c3 (.tup f r) q).from st
  · obtain ⟨p, xs, rfl, hp, r⟩ := listOf_seq c3 r3 hd
    exact .inr (.inr ⟨p, xs, rfl, .of hp, fun p' hp' => (Out.lst c3 (cut_dvs r lo hi) q p' hp').from st⟩)
theorem snd_fld (C : Ctx T cl k X S0 H0 Xe) {e : Ex} {pe : Expr} {f : String} {g : Str} (hg : g = Str.ofString f) (hb : plainBase pe = true) (h : SndE T cl X S0 H0 Xe e pe) : SndE T cl X S0 H0 Xe (.fld e f) (.Attribute pe g pos) := by
  intro ρ S σ H Q a w
  subst hg
  refine eto (pe_fld (re X pe) (plainBase_ok hb)) ((h ρ S σ H _ a w).mono fun v H1 ⟨d, S1, st, c, rd, b, n, fs, y, e, hs, hf, q⟩ => ?_)
  subst e
  cases rd
  obtain ⟨C', dx, gs, h1, h2, h3⟩ := c.ob b _ hs
  obtain ⟨v, h4, h5, h6⟩ := h3.lookup.1 y hf
  exact ⟨b, C', dx, gs, v, rfl, h2, C.F.cls _ _ h1, h6, h4, (Out.pure c h5 q).from st⟩

/-! ### calls of defs -/
/-- the wish about exceptions, at slots -/
abbrev Wx (T : Tab) (cl : ClsT) (X : Cx) (S0 : Store) (H0 : Hp) (Xe : Exc → Py.Env → Store → Prop) : WX := fun c d σ H => ∃ ρ S x, At X.K cl S0 H0 ρ S σ H ∧ XV X.K cl S H x c d ∧ Xe x ρ S
theorem call_spV {ds : List D} {vs : List V} {ρ : Py.Env} {S S1 : Store} {σ : L2.St} {H H1 : Hp} {Q : Post} {i : Nat} (a : At X.K cl S0 H0 ρ S σ H) (st : Step S H S1 H1) (c : Cp X.K cl S1 H1) (rd : DVs X.K cl S1 H1 ds vs) 
    (q : T.C.fn i ds S1 Q fun x S2 => Xe x ρ S2) : spV T cl X.K i vs H1 (Out X.K cl S H Q) (WE (Wx T cl X S0 H0 Xe) σ) :=
  ⟨cl.z, ds, S1, Q, fun x S2 => Xe x ρ S2, c, rd, q, fun d S' v H' q' st' c' r' => ⟨d, S', st.trans st', c', r', q'⟩, fun x S' cc d H' q' st' c' r' => ⟨ρ, S', x, a.next (st.trans st') c', r', q'⟩⟩
end
end Py

set_option Elab.async false
set_option linter.all false
set_option maxRecDepth 100000
/-! Snd5: calls of defs, methods, makers, built-ins, methods of lists. -/
namespace Py
open PySem PySem.Spec PyProof.Rows L2

section
variable {X : Cx} {CX : CXT} {k : Nat} {f C : Addr} {fd : FuncData} {ps : List Str} {sp : L2.Sp} {E : L2.St → XK} {x m : Str} {p pos apos : Pos} {e o : Expr} {es : List Expr} {ta : TE} {t : TA}
theorem pe_callS0 (F : FnOk X.prog X.w X.K X.mg X.base CX k f fd ps sp) (hr : Room k X.A) (hg : Gl X x) (hm : X.mg x = some (.ref f)) (hk : PySem.W.keepIn X.K (.ref f) = true) (hb : Binds X.K fd ps []) (hx : ∀ σ, PassesAt CX X σ (E σ))
    (hdb : (x == ("__debug__" : Str)) = false) : PE X (.Call (.Name x p) [] [] pos) (fun σ H Q => sp [] H Q (E σ)) := by
  refine ⟨fun pins s σ H Q I h => ?_⟩
  refine wpAny_Call_Name_kw (ld_glob I hg hm ?_ hdb)
  exact PySem.W.callWith_K0 I.kIn hk (run_fnS (us := []) (vs := []) F hr hb (hx σ) I .nil h)
theorem pe_methS {pl : Sem Bool} (he : PE X o ta) (c : Cls X.K C) (hm : Meth X.K C m f) (F : FnOk X.prog X.w X.K X.mg X.base CX k f fd ps sp) (hr : Room k X.A) (hb : Binds X.K fd ps []) (hx : ∀ σ, PassesAt CX X σ (E σ)) (ha : PA X (e :: es) t)
    (hst : starEach (e :: es) X.env = (false, eval e X.env) :: starEach es X.env) (hpl : (backTo pos (starEach es X.env)).any (·.1) = false)
    (ht : eval (.Call (.Attribute o m apos) (e :: es) [] pos) X.env = (do
      let ov ← eval o X.env
      standAt apos.atName
      let (f, first) ← holding [ov] (getMethod ov m pl)
      callWith pos f first (backTo pos (starEach (e :: es) X.env)) (backToKw pos (keywordEach [] X.env)))) :
    PE X (.Call (.Attribute o m apos) (e :: es) [] pos) (fun σ H Q => ta σ H fun x H1 => ∃ a dx fs, x = .ref a ∧ H1 a = some (.ins C dx fs) ∧ fs.lookup m = none ∧ t σ H1 fun vs H2 => sp (x :: vs) H2 Q (E σ)) := by
  refine ⟨fun pins s σ H Q I h => ?_⟩
  refine PySem.W.methodCall_KW (pl := pl) (thn (he.run pins s σ H _ I h) fun u s1 ⟨x, H1, I1, rx, a, dx, fs, ex, ea, l, q⟩ => ?_) ht
  subst ex
  obtain rfl : u = Value.ref a := rx
  refine getmeth_ok I1 ea c hm l ?_
  refine PySem.W.callWith_K (first := [.ref a]) (h₀ := X.base) I.ok.mod.kin hm.kp (thn (ha.run pos pins s1 σ H1 _ I1 q) fun us s2 ⟨vs, H2, I2, r, q2⟩ => ⟨I2.kIn, ?_⟩) hst hpl
  exact run_fnS (us := .ref a :: us) (vs := .ref a :: vs) F hr hb (hx σ) I2 (.cons rfl r) q2
theorem pe_methS0 {pl : Sem Bool} (he : PE X o ta) (c : Cls X.K C) (hm : Meth X.K C m f) (F : FnOk X.prog X.w X.K X.mg X.base CX k f fd ps sp) (hr : Room k X.A) (hb : Binds X.K fd ps []) (hx : ∀ σ, PassesAt CX X σ (E σ))
    (ht : eval (.Call (.Attribute o m apos) [] [] pos) X.env = (do
      let ov ← eval o X.env
      standAt apos.atName
      let (f, first) ← holding [ov] (getMethod ov m pl)
      callWith pos f first (backTo pos (starEach [] X.env)) (backToKw pos (keywordEach [] X.env)))) :
    PE X (.Call (.Attribute o m apos) [] [] pos) (fun σ H Q => ta σ H fun x H1 => ∃ a dx fs, x = .ref a ∧ H1 a = some (.ins C dx fs) ∧ fs.lookup m = none ∧ sp [x] H1 Q (E σ)) := by
  refine ⟨fun pins s σ H Q I h => ?_⟩
  refine PySem.W.methodCall_KW (pl := pl) (thn (he.run pins s σ H _ I h) fun u s1 ⟨x, H1, I1, rx, a, dx, fs, ex, ea, l, q⟩ => ?_) ht
  subst ex
  obtain rfl : u = Value.ref a := rx
  refine getmeth_ok I1 ea c hm l ?_
  exact PySem.W.callWith_K0 (first := [.ref a]) I1.kIn hm.kp (run_fnS (us := [.ref a]) (vs := [.ref a]) F hr hb (hx σ) I1 (.cons rfl .nil) q)
theorem run_makeS {pins : List (Addr × PySem.Obj)} {σ : L2.St} {H : Hp} {s : Shared} {Q : VK} {us : List Value} {vs : List V} (M : Mk X.K C f) (F : FnOk X.prog X.w X.K X.mg X.base CX k f fd ps sp) (hr : Room (k + 1) X.A) (hb : Binds X.K fd ps [])
    (hx : PassesAt CX X σ (E σ)) (I : Inv X pins σ H s) (r : Vals vs us)
    (h : ∀ x dx, H x = none → H dx = none → dx ≠ x → sp (.ref x :: vs) (upd (upd H dx (.own x)) x (.ins C dx [])) (fun v H2 => v = .non ∧ Q (.ref x) H2) (E σ)) :
    wpAny (model X.prog X.w) X.A (call (.ref C) us) (EP X pins σ Q) X.xe s := by
  have hq := h (s.heap.objs.size + 1) s.heap.objs.size (I.hok.fresh (Nat.le_succ _)) (I.hok.fresh (Nat.le_refl _)) (Nat.ne_of_lt (Nat.lt_succ_self _))
  have I2 := Inv.made (C := C) I
  have r2 : Vals (V.ref (s.heap.objs.size + 1) :: vs) (Value.ref (s.heap.objs.size + 1) :: us) := .cons rfl r
  have hl : (Value.ref (s.heap.objs.size + 1) :: us).length = ps.length := by
    have e := r2.length
    rw [F.len _ _ _ _ hq] at e
    exact e.symm
  have b := hb _ (Value.ref (s.heap.objs.size + 1) :: us) I2.kIn (by rw [List.append_nil]; exact hl)
  rw [List.append_nil] at b
  refine wpAny_call (make_map (f := f) I.kIn M.makes M.init (beq_iff_eq.mp M.fn) (codeAny_mono (F.run _ X.stack _ _ ⟨Value.ref (s.heap.objs.size + 1) :: us, []⟩ (Value.ref (s.heap.objs.size + 1) :: us) _ _ (E σ) (hr.make C us [])
    (I2.env0.make C us []) b r2 hq) fun r s' hq' => ?_))
  cases r with
  | error e => exact hx pins _ _ e s' I2 hq'
  | ok fl =>
    cases fl with
    | ret u =>
      obtain ⟨v, H', I3, rv, ev, q3⟩ := I2.after hq'
      subst ev
      exact ⟨rv, ⟨V.ref (s.heap.objs.size + 1), H', I3, rfl, q3⟩⟩
    | next => exact False.elim hq'
    | brk => exact False.elim hq'
    | cont => exact False.elim hq'
/-- C(e, ..), C() -/
theorem pe_makeS (M : Mk X.K C f) (F : FnOk X.prog X.w X.K X.mg X.base CX k f fd ps sp) (hr : Room (k + 1) X.A) (hg : Gl X x) (hm : X.mg x = some (.ref C)) (hb : Binds X.K fd ps []) (hx : ∀ σ, PassesAt CX X σ (E σ))
    (ha : PA X (e :: es) t) (hdb : (x == ("__debug__" : Str)) = false) (hn : notStar e = true ∧ notStars es = true) :
    PE X (.Call (.Name x p) (e :: es) [] pos) (fun σ H Q => t σ H fun vs H1 => ∀ x dx, H1 x = none → H1 dx = none → dx ≠ x → sp (.ref x :: vs) (upd (upd H1 dx (.own x)) x (.ins C dx [])) (fun v H2 => v = .non ∧ Q (.ref x) H2) (E σ)) := by
  refine ⟨fun pins s σ H Q I h => ?_⟩
  refine wpAny_Call_Name_kw (ld_glob I hg hm ?_ hdb)
  refine PySem.W.callWith_K (h₀ := X.base) I.ok.mod.kin M.kp (thn (ha.run pos pins s σ H _ I h) fun us s1 ⟨vs, H1, I1, r, q⟩ => ⟨I1.kIn, ?_⟩) (starEach_cons hn.1) (notStars_any hn.2)
  exact run_makeS M F hr hb (hx σ) I1 r q
theorem pe_makeS0 (M : Mk X.K C f) (F : FnOk X.prog X.w X.K X.mg X.base CX k f fd ps sp) (hr : Room (k + 1) X.A) (hg : Gl X x) (hm : X.mg x = some (.ref C)) (hb : Binds X.K fd ps []) (hx : ∀ σ, PassesAt CX X σ (E σ))
    (hdb : (x == ("__debug__" : Str)) = false) :
    PE X (.Call (.Name x p) [] [] pos) (fun σ H1 Q => ∀ x dx, H1 x = none → H1 dx = none → dx ≠ x → sp [.ref x] (upd (upd H1 dx (.own x)) x (.ins C dx [])) (fun v H2 => v = .non ∧ Q (.ref x) H2) (E σ)) := by
  refine ⟨fun pins s σ H Q I h => ?_⟩
  refine wpAny_Call_Name_kw (ld_glob I hg hm ?_ hdb)
  exact PySem.W.callWith_K0 I.kIn M.kp (run_makeS (us := []) (vs := []) M F hr hb (hx σ) I .nil h)
end

theorem meth_eval {o : Expr} {m : Str} {es : List Expr} {env : PySem.Env} {apos pos : Pos} (hb : plainBase o = true) (hn : notStars es = true) (hl : es.length < 30) (hp : (apos.endLine == pos.line) = true) :
    eval (.Call (.Attribute o m apos) es [] pos) env = (do
      let ov ← eval o env
      standAt apos.atName
      let (f, first) ← holding [ov] (getMethod ov m (do return (← importBound o env).getD true))
      callWith pos f first (backTo pos (starEach es env)) (backToKw pos (keywordEach [] env))) := by
  have stars : ∀ {es : List Expr}, notStars es = true → (backTo pos (starEach es env)).all (fun x => !x.1) = true := by
    intro es h
    induction es with
    | nil => rfl
    | cons e es ih =>
      have h' : notStar e = true ∧ notStars es = true := by simpa [notStars] using h
      rw [starEach_cons h'.1]
      have := ih h'.2
      unfold backTo at this ⊢
      simp only [List.map_cons, List.all_cons, Bool.not_false, Bool.true_and]
      exact this
  have hf : methodCallForm (es.length + ([] : List Keyword).length) (backTo pos (starEach es env)) (backToKw pos (keywordEach [] env)) = true := by
    unfold methodCallForm
    rw [stars hn]
    show (true && true && decide (es.length + 0 + (if true then 0 else 1) < 30)) = true
    simpa using hl
  show (do
    let ov ← attributeBase o m env (eval o env)
    standAt apos.atName
    methodCall o m apos pos env ov (es.length + ([] : List Keyword).length) (backTo pos (starEach es env)) (backToKw pos (keywordEach [] env))) = _
  rw [plainBase_ok hb]
  unfold methodCall calleeOf methodCallPos
  rw [hf]
  simp only [hp, if_true, Bool.not_true, Bool.false_or, pure_bind]
section
variable {T : Tab} {cl : ClsT} {X : Cx} {S0 : Store} {H0 : Hp} {Xe : Exc → Py.Env → Store → Prop} {k : Nat} {p pos apos : Pos}
/-- f(..) -/
theorem snd_call (C : Ctx T cl k X S0 H0 Xe) {i : Nat} {nm : String} {x : Str} {e : Ex} {es : Exs} {pe : Expr} {ps : List Expr} (hi : T.fn i = some nm) (hl : T.lev i ≤ k) (hx : x = Str.ofString nm) (hg : glB X.env.scope x = true) (hn : notStars (pe :: ps) = true)
    (h : SndEs T cl X S0 H0 Xe (.cons e es) (pe :: ps)) : SndE T cl X S0 H0 Xe (.call i (.cons e es)) (.Call (.Name x p) (pe :: ps) [] pos) := by
  intro ρ S σ H Q a w
  subst hx
  obtain ⟨f, fd, pp, h1, h2, h3, h4⟩ := C.F.fn i nm hi hl
  obtain ⟨g1, g2⟩ := glB_ok hg
  have hn' : notStar pe = true ∧ notStars ps = true := by simpa [notStars] using hn
  refine eto (pe_callS h4 (C.F.room.mono hl) g1 h1 h2 h3 (passAt C.tk) (ra X (pe :: ps)) g2 (starEach_cons hn'.1) (notStars_any hn'.2)) ?_
  exact RA.mono (h ρ S σ H _ a w) fun vs H1 ⟨ds, S1, st, c, rd, q⟩ => call_spV a st c rd q
theorem snd_call0 (C : Ctx T cl k X S0 H0 Xe) {i : Nat} {nm : String} {x : Str} (hi : T.fn i = some nm) (hl : T.lev i ≤ k) (hx : x = Str.ofString nm) (hg : glB X.env.scope x = true) :
    SndE T cl X S0 H0 Xe (.call i .nil) (.Call (.Name x p) [] [] pos) := by
  intro ρ S σ H Q a w
  subst hx
  obtain ⟨f, fd, pp, h1, h2, h3, h4⟩ := C.F.fn i nm hi hl
  obtain ⟨g1, g2⟩ := glB_ok hg
  refine eto (pe_callS0 h4 (C.F.room.mono hl) g1 h1 h2 h3 (passAt C.tk) g2) ?_
  exact call_spV a .refl a.cp .nil w
theorem new_spV {nm : String} {i : Nat} {C' : Addr} {ds : List D} {vs : List V} {ρ : Py.Env} {S S1 : Store} {σ : L2.St} {H H1 : Hp} {Q : Post} (hc : cl.ins nm = some C') (a : At X.K cl S0 H0 ρ S σ H) (st : Step S H S1 H1) (c : Cp X.K cl S1 H1) (rd : DVs X.K cl S1 H1 ds vs)
    (q : ∀ a, S1 a = none → T.C.fn i (.ref a :: ds) (put S1 a (.ins nm [])) (fun d S2 => d = .non ∧ Q (.ref a) S2) fun x S2 => Xe x ρ S2) :
    ∀ x dx, H1 x = none → H1 dx = none → dx ≠ x → spV T cl X.K i (.ref x :: vs) (upd (upd H1 dx (.own x)) x (.ins C' dx [])) (fun v H2 => v = .non ∧ Out X.K cl S H Q (.ref x) H2) (WE (Wx T cl X S0 H0 Xe) σ) := by
  intro x dx nx ndx ne
  have st1 : Step S1 H1 (put S1 x (.ins nm [])) (upd (upd H1 dx (.own x)) x (.ins C' dx [])) := fun b u e s => by
    have n1 := L2.ne_of_none e nx
    have n2 := L2.ne_of_none e ndx
    exact ⟨by rw [upd_ne n1, upd_ne n2]; exact e, by rw [put_ne n1]; exact s⟩
  have c1 : Cp X.K cl (put S1 x (.ins nm [])) (upd (upd H1 dx (.own x)) x (.ins C' dx [])) := c.of st1 fun b o e => by
    by_cases hb : b = x
    · subst hb
      rw [put_same] at e
      cases e
      exact .inr ⟨C', dx, [], hc, upd_same, .nil⟩
    · rw [put_ne hb] at e
      refine .inl ⟨e, ?_⟩
      rw [upd_ne hb, upd_ne fun z => by subst z; rw [c.free ndx] at e; cases e]
  obtain ⟨z', ds', S', Qd, Ed, s1, s2, s3, s4, s5⟩ := call_spV (Q := fun d S2 => d = .non ∧ Q (.ref x) S2) (i := i) a (st.trans st1) c1 (.cons (.ref x) (rd.step st1)) (q x (c.free nx))
  refine ⟨z', ds', S', Qd, Ed, s1, s2, s3, fun d S'' v H' q' st' c' r' => ?_, s5⟩
  obtain ⟨d2, S2, st2, c2, r2, e2, q2⟩ := s4 d S'' v H' q' st' c' r'
  subst e2
  cases r2
  exact ⟨rfl, .ref x, S2, st2, c2, .ref x, q2⟩
/-- C(..) -/
theorem snd_new (C : Ctx T cl k X S0 H0 Xe) {i : Nat} {nm : String} {x : Str} {e : Ex} {es : Exs} {pe : Expr} {ps : List Expr} (hi : T.nw i = some nm) (hl : T.lev i + 1 ≤ k) (hx : x = Str.ofString nm) (hg : glB X.env.scope x = true) (hn : notStars (pe :: ps) = true)
    (h : SndEs T cl X S0 H0 Xe (.cons e es) (pe :: ps)) : SndE T cl X S0 H0 Xe (.new nm i (.cons e es)) (.Call (.Name x p) (pe :: ps) [] pos) := by
  intro ρ S σ H Q a w
  subst hx
  obtain ⟨C', f, fd, pp, hc, h1, h2, h3, h4⟩ := C.F.nw i nm hi hl
  obtain ⟨g1, g2⟩ := glB_ok hg
  have hn' : notStar pe = true ∧ notStars ps = true := by simpa [notStars] using hn
  refine eto (pe_makeS h2 h4 (C.F.room.mono hl) g1 h1 h3 (passAt C.tk) (ra X (pe :: ps)) g2 hn') ?_
  exact RA.mono (h ρ S σ H _ a w) fun vs H1 ⟨ds, S1, st, c, rd, q⟩ => new_spV hc a st c rd q
theorem snd_new0 (C : Ctx T cl k X S0 H0 Xe) {i : Nat} {nm : String} {x : Str} (hi : T.nw i = some nm) (hl : T.lev i + 1 ≤ k) (hx : x = Str.ofString nm) (hg : glB X.env.scope x = true) :
    SndE T cl X S0 H0 Xe (.new nm i .nil) (.Call (.Name x p) [] [] pos) := by
  intro ρ S σ H Q a w
  subst hx
  obtain ⟨C', f, fd, pp, hc, h1, h2, h3, h4⟩ := C.F.nw i nm hi hl
  obtain ⟨g1, g2⟩ := glB_ok hg
  refine eto (pe_makeS0 h2 h4 (C.F.room.mono hl) g1 h1 h3 (passAt C.tk) g2) ?_
  exact new_spV hc a .refl a.cp .nil w
/-- the methods that a call may reach stand at a low level -/
def mtB (T : Tab) (k : Nat) (m : String) (t : List (String × Nat)) : Bool := t.all fun p => (T.mt p.2 == some (p.1, m)) && decide (T.lev p.2 ≤ k)
theorem mtB_ok {m c : String} {i : Nat} : ∀ {t : List (String × Nat)}, mtB T k m t = true → t.lookup c = some i → T.mt i = some (c, m) ∧ T.lev i ≤ k
  | [], _, e => by cases e
  | (d, j) :: t, h, e => by
    have h' : ((T.mt j == some (d, m)) && decide (T.lev j ≤ k)) = true ∧ mtB T k m t = true := by simpa [mtB] using h
    rw [List.lookup_cons] at e
    cases q : c == d with
    | true =>
      rw [q] at e
      cases e
      have : c = d := by simpa using q
      subst this
      simpa using h'.1
    | false => rw [q] at e; exact mtB_ok h'.2 e
theorem RE.union {pe : Expr} {σ : L2.St} {H : Hp} {Q : VK} (h : ∃ t, PE X pe t ∧ t σ H Q) : RE X pe σ H Q := let ⟨_, a, b⟩ := h; eto a b
/-- o.m(..) -/
theorem snd_meth (C : Ctx T cl k X S0 H0 Xe) {o e : Ex} {es : Exs} {po pe : Expr} {ps : List Expr} {m : String} {g : Str} {t : List (String × Nat)} (hg : g = Str.ofString m) (hb : plainBase po = true) (ht : mtB T k m t = true) (hn : notStars (pe :: ps) = true) (hlen : (pe :: ps).length < 30) (hp : (apos.endLine == pos.line) = true)
    (h0 : SndE T cl X S0 H0 Xe o po) (h : SndEs T cl X S0 H0 Xe (.cons e es) (pe :: ps)) : SndE T cl X S0 H0 Xe (.meth o m t (.cons e es)) (.Call (.Attribute po g apos) (pe :: ps) [] pos) := by
  intro ρ S σ H Q a w
  subst hg
  have hn' : notStar pe = true ∧ notStars ps = true := by simpa [notStars] using hn
  intro pins s I
  refine PySem.W.methodCall_KW ?_ (meth_eval hb hn hlen hp)
  refine thn (h0 ρ S σ H _ a w pins s I) fun u s1 ⟨x, H1, I1, rx, d, S1, st1, c1, r1, b, c, fs, i, e1, hs, hno, hl, w1⟩ => ?_
  subst e1
  cases r1
  obtain rfl : u = Value.ref b := rx
  obtain ⟨C', dx, gs, k1, k2, k3⟩ := c1.ob b _ hs
  obtain ⟨m1, m2⟩ := mtB_ok ht hl
  obtain ⟨C2, f, fd, pp, n1, n2, n3, n4⟩ := C.F.mt i c m m1 m2
  rw [n1] at k1
  cases k1
  refine getmeth_ok I1 k2 (C.F.cls _ _ n1) n2 (k3.lookup.2 hno) ?_
  refine PySem.W.callWith_K (first := [.ref b]) (h₀ := X.base) I1.ok.mod.kin n2.kp (thn (h ρ S1 σ H1 _ (a.next st1 c1) w1 pos pins s1 I1) fun us s2 ⟨vs, H2, I2, r, ds, S2, st2, c2, rd, q2⟩ => ⟨I2.kIn, ?_⟩) (starEach_cons hn'.1) (notStars_any hn'.2)
  exact run_fnS (us := .ref b :: us) (vs := .ref b :: vs) n4 (C.F.room.mono m2) n3 (passAt C.tk σ) I2 (.cons rfl r) (call_spV a (st1.trans st2) c2 (.cons (.ref b) rd) q2)
theorem snd_meth0 (C : Ctx T cl k X S0 H0 Xe) {o : Ex} {po : Expr} {m : String} {g : Str} {t : List (String × Nat)} (hg : g = Str.ofString m) (hb : plainBase po = true) (ht : mtB T k m t = true) (hp : (apos.endLine == pos.line) = true)
    (h0 : SndE T cl X S0 H0 Xe o po) : SndE T cl X S0 H0 Xe (.meth o m t .nil) (.Call (.Attribute po g apos) [] [] pos) := by
  intro ρ S σ H Q a w
  subst hg
  intro pins s I
  refine PySem.W.methodCall_KW ?_ (meth_eval hb rfl (by decide) hp)
  refine thn (h0 ρ S σ H _ a w pins s I) fun u s1 ⟨x, H1, I1, rx, d, S1, st1, c1, r1, b, c, fs, i, e1, hs, hno, hl, w1⟩ => ?_
  subst e1
  cases r1
  obtain rfl : u = Value.ref b := rx
  obtain ⟨C', dx, gs, k1, k2, k3⟩ := c1.ob b _ hs
  obtain ⟨m1, m2⟩ := mtB_ok ht hl
  obtain ⟨C2, f, fd, pp, n1, n2, n3, n4⟩ := C.F.mt i c m m1 m2
  rw [n1] at k1
  cases k1
  refine getmeth_ok I1 k2 (C.F.cls _ _ n1) n2 (k3.lookup.2 hno) ?_
  exact PySem.W.callWith_K0 (first := [.ref b]) I1.kIn n2.kp (run_fnS (us := [.ref b]) (vs := [.ref b]) n4 (C.F.room.mono m2) n3 (passAt C.tk σ) I1 (.cons rfl .nil) (call_spV a st1 c1 (.cons (.ref b) .nil) w1))
end
end Py

set_option Elab.async false
set_option linter.all false
set_option maxRecDepth 100000
/-! Snd6: built-ins by values, methods of lists. -/
namespace Py
open PySem PySem.Spec PyProof.Rows L2

section
variable {T : Tab} {cl : ClsT} {X : Cx} {k : Nat}
theorem Inv.digits {pins : List (Addr × PySem.Obj)} {σ : L2.St} {H : Hp} {s : Shared} (I : Inv X pins σ H s) (h : X.base.NoDigits) : s.heap.NoDigits := h.keeps I.bk
theorem str_signs (i : Int) : Str.ofString (toString i) = toS (strI i) := by
  have e : (Str.ofString (toString i)).cps.toList = strI i := by
    cases i with
    | ofNat m =>
      have h := PySem.W.KIN.signs_num m
      unfold strI digitsN
      rw [if_neg (by simp)]
      exact h
    | negSucc m =>
      have h := PySem.W.KIN.signs_num (m + 1)
      rw [Str.ofString_eq_toList] at h ⊢
      have e2 : (toString (Int.negSucc m)).toList = '-' :: (toString (((m + 1 : Nat)) : Int)).toList := by
        show ("-" ++ Nat.repr (m + 1)).toList = '-' :: (Nat.repr (m + 1)).toList
        rw [String.toList_append]
        rfl
      rw [e2]
      unfold strI digitsN
      rw [if_pos (Int.negSucc_lt_zero m)]
      simp only [List.map_cons] at h ⊢
      exact congrArg (45 :: ·) h
  have : Str.ofString (toString i) = ⟨((Str.ofString (toString i)).cps.toList).toArray⟩ := by cases Str.ofString (toString i); simp
  rw [this, e]
  rfl
theorem call_strM (hc : X.calm = true) (hd : X.base.NoDigits) : CallR X (.type "str") (fun xs H Q => ∃ i : Int, xs = [.int i] ∧ i.natAbs < 10 ^ 4300 ∧ Q (.str (toS (strI i))) H) := by
  intro pins s σ H xs us Q I r h
  obtain ⟨i, rfl, hi, q⟩ := h
  obtain ⟨u, rfl, t, rfl⟩ := vals1 r
  refine str_of_int_or (I.ok.hd hc) (Inv.digits I hd) (fun _ => ?_) fun z => absurd hi (Nat.not_lt.mpr z)
  exact ⟨.str (toS (strI i)), H, I.tok _, ⟨_, by rw [str_signs]⟩, q⟩
theorem allD {s : List Nat} (h : s.all (fun c => decide (48 ≤ c ∧ c ≤ 57)) = true) : NumText.AllDigits s := fun c hc => by
  have := List.all_eq_true.mp h c hc
  exact of_decide_eq_true this
theorem int_reads {s : List Nat} {i : Int} (h : intOf s = some i) (hl : s.length ≤ 640) : PySem.intText? (toS s) = some i := by
  unfold intOf at h
  cases s with
  | nil => cases h
  | cons c r =>
    simp only at h
    by_cases hc : c = 45
    · rw [if_pos hc] at h
      split at h
      · rename_i z
        cases h
        exact intText_neg (cs := r) (by rw [toS_toList, hc]) (allD z.2) z.1 (by rw [toS_len]; omega)
      · cases h
    · rw [if_neg hc] at h
      split at h
      · rename_i z
        cases h
        have := intText_digits (x := toS (c :: r)) (by rw [toS_toList]; exact allD z) (by rw [toS_toList]; simp) (by rw [toS_len]; omega)
        rw [toS_toList] at this
        exact this
      · cases h
theorem itemsOf_cases {S : Store} {H : Hp} {d : D} {v : V} {ds : List D} (c : Cp X.K cl S H) (h : DV X.K cl S H d v) (e : itemsOf S d = some ds) :
    (d = .tup ds ∧ ∃ a xs, v = .ref a ∧ FzT X.K S H a xs ∧ DVs X.K cl S H ds xs) ∨ ∃ a xs, v = .ref a ∧ SqL X.K H a xs ∧ DVs X.K cl S H ds xs := by
  cases h with
  | lst h r => cases e; exact .inr ⟨_, _, rfl, h.sq, r⟩
  | tup h r => cases e; exact .inl ⟨rfl, _, _, rfl, h, r⟩
  | scr h => cases e; exact .inr ⟨_, _, rfl, h.sq, .ints⟩
  | ref a =>
    simp only [itemsOf] at e
    cases q : S a with
    | none => rw [q] at e; cases e
    | some o =>
      rw [q] at e
      cases o with
      | lst es => cases e; obtain ⟨xs, h, r⟩ := c.ob a _ q; exact .inr ⟨a, xs, rfl, .of h, r⟩
      | ins c fs => cases e
  | _ => cases e
theorem kit_all : ∀ c, c ∈ ["NoneType", "bool", "int", "str", "tuple", "list"] → ∀ t, t ∈ tys → PySem.W.kitOne X.K (.type c) (.type t) = some (subB c t) := by
  have h : (["NoneType", "bool", "int", "str", "tuple", "list"].all fun c => tys.all fun t => decide (kitB c t = some (subB c t))) = true := by decide +kernel
  intro c hc t ht
  have h1 := List.all_eq_true.mp h c hc
  have h2 := List.all_eq_true.mp h1 t ht
  exact kit_ty (of_decide_eq_true h2)
theorem cls_ty {S : Store} {H : Hp} {d : D} {v : V} {c : String} (cp : Cp X.K cl S H) (h : DV X.K cl S H d v) (e : clsOf S d = some c) : TyX X.K H v (.type c) ∧ c ∈ ["NoneType", "bool", "int", "str", "tuple", "list"] := by
  cases h with
  | non => cases e; exact ⟨.base .non, by decide⟩
  | bl b => cases e; exact ⟨.base (.bl b), by decide⟩
  | int i => cases e; exact ⟨.base (.int i), by decide⟩
  | str s => cases e; exact ⟨.base (.str _), by decide⟩
  | tup f r =>
    cases e
    refine ⟨?_, by decide⟩
    rcases f with ⟨h | ⟨o, h⟩, _⟩ | ⟨o, its, n, h1, h2, _⟩
    · exact .base (.tup h)
    · exact .fTuple h
    · exact .kTuple h1 h2
  | lst f r => cases e; exact ⟨.base (.lst f.1), by decide⟩
  | ref a =>
    simp only [clsOf] at e
    cases q : S a with
    | none => rw [q] at e; cases e
    | some o =>
      rw [q] at e
      cases o with
      | lst es => cases e; obtain ⟨xs, h, r⟩ := cp.ob a _ q; exact ⟨.base (.lst h), by decide⟩
      | ins c fs => cases e
  | _ => cases e
/-- the function behind a built-in's name -/
def bltVal : Blt → Value
  | .len => .builtin "len" | .abs => .builtin "abs" | .gcd => .builtin "math.gcd" | .int => .type "int" | .str => .type "str" | .tuple => .type "tuple" | .list => .type "list" | .lrange => .none | .isinst => .builtin "isinstance"
theorem dvs1 {S : Store} {H : Hp} {d : D} {vs : List V} (r : DVs X.K cl S H [d] vs) : ∃ v, vs = [v] ∧ DV X.K cl S H d v := by
  cases r with
  | cons h r => cases r; exact ⟨_, rfl, h⟩
theorem dvs2 {S : Store} {H : Hp} {d e : D} {vs : List V} (r : DVs X.K cl S H [d, e] vs) : ∃ v u, vs = [v, u] ∧ DV X.K cl S H d v ∧ DV X.K cl S H e u := by
  cases r with
  | cons h r => obtain ⟨u, rfl, h2⟩ := dvs1 r; exact ⟨_, u, rfl, h, h2⟩
theorem len_cases {x : D} {S : Store} {Q : Post} (h : bltW .len m [x] S Q) : (∃ s, x = .str s ∧ s.length ≤ lim ∧ Q (.int s.length) S) ∨ ∃ xs, itemsOf S x = some xs ∧ Q (.int xs.length) S := by
  obtain ⟨y, e, h⟩ := h
  cases e
  cases x <;> first | exact .inl ⟨_, rfl, h⟩ | exact .inr h
theorem blt_snd (F : Facts T cl k X) {S : Store} {H : Hp} {b : Blt} {m : Bool} {ds : List D} {vs : List V} {Q : Post} (hb : b ≠ .lrange) (c : Cp X.K cl S H) (r : DVs X.K cl S H ds vs) (h : bltW b m ds S Q) : RC X (bltVal b) vs H (Out X.K cl S H Q) := by
  cases b with
  | lrange => exact absurd rfl hb
  | len =>
    obtain ⟨x, e, h'⟩ := id h
    subst e
    obtain ⟨v, rfl, hv⟩ := dvs1 r
    rcases len_cases h with ⟨s, rfl, hz, q⟩ | ⟨xs, hx, q⟩
    · cases hv
      refine cto call_len_str ⟨_, rfl, by rw [toS_len, ← lim_eq]; exact hz, ?_⟩
      rw [toS_len]
      exact .pure c (.int _) q
    · obtain ⟨a, ys, rfl, hq, ry⟩ := itemsOf_seq c hv hx
      refine cto call_len_seq ⟨a, ys, rfl, hq, ?_⟩
      rw [← ry.length]
      exact .pure c (.int _) q
  | abs =>
    obtain ⟨i, e, q⟩ := h
    subst e
    obtain ⟨v, rfl, hv⟩ := dvs1 r
    cases hv
    exact cto call_abs ⟨i, rfl, .pure c (.int _) q⟩
  | gcd =>
    obtain ⟨i, j, e, q⟩ := h
    subst e
    obtain ⟨v, u, rfl, hv, hu⟩ := dvs2 r
    cases hv
    cases hu
    exact cto cr_gcd ⟨i, j, rfl, .pure c (.int _) q⟩
  | int =>
    obtain ⟨x, e, q⟩ := h
    subst e
    obtain ⟨v, rfl, hv⟩ := dvs1 r
    cases hv <;> first | exact q.elim | skip
    · rename_i b
      exact cto call_int1 (.inr ⟨b, rfl, .pure c (.int _) q⟩)
    · rename_i i
      exact cto call_int1 (.inl ⟨i, rfl, .pure c (.int _) q⟩)
    · obtain ⟨i, h1, h2, q⟩ := q
      exact cto call_int_str ⟨_, i, rfl, int_reads h1 h2, by rw [toS_len]; exact h2, .pure c (.int _) q⟩
  | str =>
    obtain ⟨i, e, hi, q⟩ := h
    subst e
    obtain ⟨v, rfl, hv⟩ := dvs1 r
    cases hv
    exact cto (call_strM F.calm F.dig) ⟨i, rfl, hi, .pure c (.str _) q⟩
  | tuple =>
    obtain ⟨x, xs, e, hx, q⟩ := h
    subst e
    obtain ⟨v, rfl, hv⟩ := dvs1 r
    rcases itemsOf_cases c hv hx with ⟨rfl, a, ys, rfl, f, ry⟩ | ⟨a, ys, rfl, hq, ry⟩
    · exact cto call_tuple_of ⟨a, ys, rfl, .inr ⟨f.sq, .pure c (.tup f ry) q⟩⟩
    · exact cto call_tuple_of ⟨a, ys, rfl, .inl ⟨hq, Out.tup c ry q⟩⟩
  | list =>
    obtain ⟨x, xs, e, hx, q⟩ := h
    subst e
    obtain ⟨v, rfl, hv⟩ := dvs1 r
    obtain ⟨a, ys, rfl, hq, ry⟩ := itemsOf_seq c hv hx
    exact cto call_list_of ⟨a, ys, rfl, hq, Out.newL c ry q⟩
  | isinst =>
    obtain ⟨x, t, cc, e, hc, ht, q⟩ := h
    subst e
    obtain ⟨v, u, rfl, hv, hu⟩ := dvs2 r
    obtain ⟨h1, h2⟩ := cls_ty c hv hc
    cases hu with
    | tyB n hn => exact cto call_isi ⟨v, .ty t, _, _, _, rfl, .ty t, h1, kit_all _ h2 t ht, .pure c (.bl _) q⟩
    | tyC hn _ => exact absurd (List.mem_of_elem_eq_true (List.all_eq_true.mp (show (tys.all fun t => btys.elem t) = true by decide) t ht)) hn
/-! ### methods of lists -/
def bmeName : Bme → String
  | .append => "append" | .extend => "extend" | .pop => "pop" | .popAt => "pop"
theorem few_ok {env : PySem.Env} {pos : Pos} {es : List Expr} (h : notStars es = true) (hl : es.length < 30) : ((backTo pos (starEach es env)).all (fun x => !x.1) && (backToKw pos (keywordEach [] env)).all (fun x => x.1.isSome)
      && decide (es.length + ([] : List Keyword).length + (if ([] : List Keyword).isEmpty then 0 else 1) < 30)) = true := by
  have stars : ∀ {es : List Expr}, notStars es = true → (backTo pos (starEach es env)).all (fun x => !x.1) = true := by
    intro es h
    induction es with
    | nil => rfl
    | cons e es ih =>
      have h' : notStar e = true ∧ notStars es = true := by simpa [notStars] using h
      rw [starEach_cons h'.1]
      have := ih h'.2
      unfold backTo at this ⊢
      simp only [List.map_cons, List.all_cons, Bool.not_false, Bool.true_and]
      exact this
  rw [stars h]
  show (true && true && decide (es.length + 0 + 0 < 30)) = true
  simpa using hl
theorem put_out {S : Store} {H : Hp} {Q : Post} {a : Addr} {o : Py.Obj} {ds : List D} {xs : List V} {d : D} {v : V} (c : Cp X.K cl S H) (hS : S a = some o) (r : DVs X.K cl S H ds xs) (rd : DV X.K cl S H d v) (q : Q d (put S a (.lst ds))) : Out X.K cl S H Q v (upd H a (.lst xs)) :=
  ⟨d, put S a (.lst ds), Step.put hS, c.put hS ⟨xs, upd_same, r.step (Step.put hS)⟩, rd.step (Step.put hS), q⟩
end
section
variable {T : Tab} {cl : ClsT} {X : Cx} {S0 : Store} {H0 : Hp} {Xe : Exc → Py.Env → Store → Prop} {k : Nat} {p pos apos : Pos}
theorem ixN_some {n : Nat} {i : Int} {j : Nat} (h : Py.ixN n i = some j) : seqIndex? i n = some j ∧ j < n ∧ -(n : Int) ≤ i ∧ i < n := L2.ixN_seq h
theorem snd_append {o e : Ex} {po pe : Expr} (hb : plainBase po = true) (hn : notStar pe = true) (hp : (apos.endLine == pos.line) = true) (h0 : SndE T cl X S0 H0 Xe o po) (h : SndE T cl X S0 H0 Xe e pe) :
    SndE T cl X S0 H0 Xe (.bme o .append (.cons e .nil)) (.Call (.Attribute po (Str.ofString "append") apos) [pe] [] pos) := by
  intro ρ S σ H Q a w
  have hn' : notStars [pe] = true := by simp [notStars, hn]
  refine eto (pe_bm PySem.F.plainAttrs_list PySem.F.slot_list_append PySem.F.type_list_append mt_append (re X po) (ra X [pe]) (plainBase_ok hb) (few_ok hn' (by simp)) hp (starEach_cons hn) rfl) ?_
  refine (h0 ρ S σ H _ a w).mono fun v H1 ⟨d, S1, st, c, rd, ⟨b, ys, e1, hS⟩, w1⟩ => ?_
  subst e1
  cases rd
  obtain ⟨zs, hz, _⟩ := c.ob b _ hS
  refine ⟨.inl ⟨rfl, zs, .of hz⟩, ?_⟩
  refine RA.mono (snd_cons (T := T) (S0 := S0) (H0 := H0) (Xe := Xe) hn h snd_nil ρ S1 σ H1 _ (a.next st c) w1) fun vs H2 ⟨ds, S2, st2, c2, rs, b', xs, d, e2, e3, hx, hl, q⟩ => ?_
  cases e2
  subst e3
  obtain ⟨u, rfl, hu⟩ := dvs1 rs
  obtain ⟨gs, hg, rg⟩ := c2.ob b _ hx
  exact ⟨b, gs, u, rfl, rfl, hg, by rw [← rg.length, ← lim_eq]; exact hl, (put_out c2 hx (rg.append (.cons hu .nil)) .non q).from (st.trans st2)⟩
theorem snd_extend {o e : Ex} {po pe : Expr} (hb : plainBase po = true) (hn : notStar pe = true) (hp : (apos.endLine == pos.line) = true) (h0 : SndE T cl X S0 H0 Xe o po) (h : SndE T cl X S0 H0 Xe e pe) :
    SndE T cl X S0 H0 Xe (.bme o .extend (.cons e .nil)) (.Call (.Attribute po (Str.ofString "extend") apos) [pe] [] pos) := by
  intro ρ S σ H Q a w
  have hn' : notStars [pe] = true := by simp [notStars, hn]
  refine eto (pe_bm PySem.F.plainAttrs_list PySem.F.slot_list_extend PySem.F.type_list_extend mt_extend (re X po) (ra X [pe]) (plainBase_ok hb) (few_ok hn' (by simp)) hp (starEach_cons hn) rfl) ?_
  refine (h0 ρ S σ H _ a w).mono fun v H1 ⟨d, S1, st, c, rd, ⟨b, ys, e1, hS⟩, w1⟩ => ?_
  subst e1
  cases rd
  obtain ⟨zs, hz, _⟩ := c.ob b _ hS
  refine ⟨.inl ⟨rfl, zs, .of hz⟩, ?_⟩
  refine RA.mono (snd_cons (T := T) (S0 := S0) (H0 := H0) (Xe := Xe) hn h snd_nil ρ S1 σ H1 _ (a.next st c) w1) fun vs H2 ⟨ds, S2, st2, c2, rs, b', xs, y, ks, e2, e3, hx, hk, hl, q⟩ => ?_
  cases e2
  subst e3
  obtain ⟨u, rfl, hu⟩ := dvs1 rs
  obtain ⟨gs, hg, rg⟩ := c2.ob b _ hx
  obtain ⟨p, fs, rfl, hf, rf⟩ := listOf_seq c2 hu hk
  exact ⟨b, p, gs, fs, rfl, rfl, hg, hf, by rw [← rg.length, ← rf.length, ← lim_eq]; exact hl, (put_out c2 hx (rg.append rf) .non q).from (st.trans st2)⟩
theorem snd_pop {o : Ex} {po : Expr} (hb : plainBase po = true) (hp : (apos.endLine == pos.line) = true) (h0 : SndE T cl X S0 H0 Xe o po) :
    SndE T cl X S0 H0 Xe (.bme o .pop .nil) (.Call (.Attribute po (Str.ofString "pop") apos) [] [] pos) := by
  intro ρ S σ H Q a w
  refine eto (pe_bm0 PySem.F.plainAttrs_list PySem.F.slot_list_pop PySem.F.type_list_pop mt_pop (re X po) (plainBase_ok hb) hp) ?_
  refine (h0 ρ S σ H _ a w).mono fun v H1 ⟨d, S1, st, c, rd, ⟨b, ys, e1, hS⟩, b', xs, d2, e2, _, hx, hd, q⟩ => ?_
  subst e1
  cases e2
  cases rd
  obtain ⟨gs, hg, rg⟩ := c.ob b _ hx
  refine ⟨.inl ⟨rfl, gs, .of hg⟩, ?_⟩
  rw [rg.length] at hd
  obtain ⟨u, hu, ru⟩ := rg.get hd
  exact ⟨b, gs, u, rfl, rfl, hg, hu, (put_out c hx rg.dropLast ru q).from st⟩
theorem snd_popAt {o e : Ex} {po pe : Expr} (hb : plainBase po = true) (hn : notStar pe = true) (hp : (apos.endLine == pos.line) = true) (h0 : SndE T cl X S0 H0 Xe o po) (h : SndE T cl X S0 H0 Xe e pe) :
    SndE T cl X S0 H0 Xe (.bme o .popAt (.cons e .nil)) (.Call (.Attribute po (Str.ofString "pop") apos) [pe] [] pos) := by
  intro ρ S σ H Q a w
  have hn' : notStars [pe] = true := by simp [notStars, hn]
  refine eto (pe_bm PySem.F.plainAttrs_list PySem.F.slot_list_pop PySem.F.type_list_pop mt_popAt (re X po) (ra X [pe]) (plainBase_ok hb) (few_ok hn' (by simp)) hp (starEach_cons hn) rfl) ?_
  refine (h0 ρ S σ H _ a w).mono fun v H1 ⟨d, S1, st, c, rd, ⟨b, ys, e1, hS⟩, w1⟩ => ?_
  subst e1
  cases rd
  obtain ⟨zs, hz, _⟩ := c.ob b _ hS
  refine ⟨.inl ⟨rfl, zs, .of hz⟩, ?_⟩
  intro ps pins s I
  refine wpAny_mono (snd_cons (T := T) (S0 := S0) (H0 := H0) (Xe := Xe) hn h snd_nil ρ S1 σ H1 _ (a.next st c) w1 ps pins s I) (fun us s2 ⟨vs, H2, I2, rus, ds, S2, st2, c2, rs, b', xs, i, k, d, e2, e, hx, hi, hd, q⟩ => ⟨vs, H2, I2, rus, ?_⟩) fun _ _ x => x
  cases e2
  obtain ⟨gs, hg, rg⟩ := c2.ob b _ hx
  subst e
  obtain ⟨u, rfl, hu⟩ := dvs1 rs
  cases hu
  obtain ⟨h1, h2, h3, h4⟩ := ixN_some hi
  obtain ⟨u, hu, ru⟩ := rg.get hd
  have hz := (I2.hok b _ hg).1
  have e63 : (sizeLine : Nat) < 2 ^ 63 := line63
  rw [rg.length] at h1 h3 h4
  exact ⟨b, gs, i, k, u, rfl, rfl, hg, by omega, by omega, h1, hu, (put_out c2 hx (rg.eraseIdx k) ru q).from (st.trans st2)⟩
end
end Py

set_option Elab.async false
set_option linter.all false
set_option maxRecDepth 100000
/-! Snd7: what is walked; targets; comprehensions. -/
namespace Py
open PySem PySem.Spec PyProof.Rows L2

section
variable {X : Cx} {tg : Expr}
def RI (X : Cx) (tg iter : Expr) : TI := fun σ H R => ∀ (pins : List (Addr × PySem.Obj)) (s : Shared), Inv X pins σ H s →
  wpAny (model X.prog X.w) X.A (eval iter X.env) (fun v s1 => wpAny (model X.prog X.w) X.A (pyIter v) (PIE X pins σ tg R) X.xe s1) X.xe s
theorem ri (X : Cx) (tg iter : Expr) : PI X tg iter (RI X tg iter) := ⟨fun pins s _ _ _ I h => h pins s I⟩
theorem ito {iter : Expr} {t : TI} (h : PI X tg iter t) {σ : L2.St} {H : Hp} {R : L2.It → Hp → Prop} (q : t σ H R) : RI X tg iter σ H R := fun pins s I => h.run pins s σ H R I q
def iAny (K : PySem.W.Frag) (tl : TE) : TI := fun σ H R => tl σ H fun x H1 => (∃ a, x = .ref a ∧ (∃ xs, SqL K H1 a xs) ∧ R (Itl K a) H1) ∨ (∃ a, x = .ref a ∧ (∃ xs, SqT K H1 a xs) ∧ R (Itt K a) H1) ∨ ∃ z, x = .str z ∧ R (Its z) H1
theorem pi_any {l : Expr} {tl : TE} (hl : PE X l tl) : PI X tg l (iAny X.K tl) := by
  refine ⟨fun pins s σ H R I h => ?_⟩
  refine thn (hl.run pins s σ H _ I h) fun v s1 ⟨x, H1, I1, r1, q1⟩ => ?_
  rcases q1 with ⟨a, e, ⟨xs, hq⟩, q⟩ | ⟨a, e, ⟨xs, hq⟩, q⟩ | ⟨x, ex, q⟩
  · subst e
    cases r1
    obtain ⟨its, rv, p, hz⟩ := I1.list hq
    refine wpAny_pyIter_list p.isList ?_
    refine ⟨s1.heap.objs.size, [s1.heap.objs.size], _, _, H1, rfl, I1.kept (t' := s1.toks) fun b o e => Heap.get?_push_of_some _ e, turn_list a _, ⟨_, Heap.get?_push_size _ rfl, rfl, rfl⟩, fun b hb => ?_, q⟩
    have e : b = s1.heap.objs.size := by simpa using hb
    subst e
    exact I1.fpOk (Nat.le_refl _) (I1.hok.fresh (Nat.le_refl _))
  · subst e
    cases r1
    obtain ⟨its, rv, p, hz⟩ := I1.tuple hq
    refine wpAny_pyIter_tuple (show s1.heap.IsTuple a its.toArray from p) ?_
    refine ⟨s1.heap.objs.size, [s1.heap.objs.size], _, _, H1, rfl, I1.kept (t' := s1.toks) fun b o e => Heap.get?_push_of_some _ e, turn_tuple a _, ⟨_, Heap.get?_push_size _ rfl, rfl, rfl⟩, fun b hb => ?_, q⟩
    have e : b = s1.heap.objs.size := by simpa using hb
    subst e
    exact I1.fpOk (Nat.le_refl _) (I1.hok.fresh (Nat.le_refl _))
  · subst ex
    obtain ⟨t, rfl⟩ := r1
    cases ha : x.cps.all (· < 128)
    · exact wpAny_pyIter_wide ha (pi_one (tk := s1.toks) I1 _ (turn_str _ x t "str_iterator" (.inr rfl)) ⟨_, Heap.get?_push_size _ rfl, rfl, rfl⟩ q)
    · exact wpAny_pyIter_ascii ha (pi_one (tk := s1.toks) I1 _ (turn_str _ x t "str_ascii_iterator" (.inl rfl)) ⟨_, Heap.get?_push_size _ rfl, rfl, rfl⟩ q)
end

/-- J walks the items ds, from the state (S1, H1) on, while st holds of the store -/
structure Enum (K : PySem.W.Frag) (cl : ClsT) (J : L2.It) (ds : List D) (st : Store → Prop) (S1 : Store) (H1 : Hp) : Prop where
  go : ∀ i z S H, i < ds.length → Step S1 H1 S H → Cp K (cl.at z) S H → (∀ a, ¬ z a → ¬ cl.z a) → st S → J.go i H
  stop : ∀ z S H, Step S1 H1 S H → Cp K (cl.at z) S H → (∀ a, ¬ z a → ¬ cl.z a) → st S → J.stop ds.length H
  yld : ∀ i z S H x H', i < ds.length → Step S1 H1 S H → Cp K (cl.at z) S H → (∀ a, ¬ z a → ¬ cl.z a) → (∀ a u, H1 a = some u → S1 a = none → ¬ cl.z a → ¬ z a) → st S → J.yld i H x H' → ∃ d, ds[i]? = some d ∧ Step S H S H' ∧ Cp K (cl.at z) S H' ∧ DV K (cl.at z) S H' d x
section
variable {K : PySem.W.Frag} {cl : ClsT} {S1 : Store} {H1 : Hp}
theorem get_lt {α : Type} {l : List α} {i : Nat} (h : i < l.length) : ∃ a, l[i]? = some a := ⟨l[i], by simp [h]⟩
/-- later on -/
theorem Like.later {z z' : Addr → Prop} {S S' : Store} {H H' : Hp} (st : Step S H S' H') (h : ∀ a u, H a = some u → S a = none → ¬ z a → ¬ z' a) : Like K z z' S H S' H' :=
  ⟨fun _ _ h => h.step st, fun a xs ⟨h1, h2, h3⟩ => ⟨(st a _ h1 h2).1, (st a _ h1 h2).2, h a _ h1 h2 h3⟩, fun _ _ h => h.step st⟩
theorem enum_tup {a : Addr} {xs : List V} {ds : List D} (f : FzT K S1 H1 a xs) (r : DVs K cl S1 H1 ds xs) : Enum K cl (Itt K a) ds (fun _ => True) S1 H1 where
  go := fun i z S H hi st c _ _ => by
    obtain ⟨d, hd⟩ := get_lt hi
    obtain ⟨v, hv, _⟩ := r.get hd
    exact ⟨xs, v, (f.step st).sq, hv⟩
  stop := fun z S H st c _ _ => ⟨xs, (f.step st).sq, by rw [r.length]; exact Nat.le_refl _⟩
  yld := fun i z S H x H' hi st c _ hz _ ⟨e, y⟩ => by
    subst e
    obtain ⟨d, hd⟩ := get_lt hi
    obtain ⟨v, hv, rv⟩ := r.get hd
    have := y xs (f.step st).sq
    rw [hv] at this
    cases this
    exact ⟨d, hd, .refl, c, rv.like (z := z) (Like.later st hz)⟩
theorem enum_lst {a : Addr} {xs : List V} {ds : List D} (f : FzL cl.z S1 H1 a xs) (r : DVs K cl S1 H1 ds xs) : Enum K cl (Itl K a) ds (fun _ => True) S1 H1 where
  go := fun i z S H hi st c _ _ => by
    obtain ⟨d, hd⟩ := get_lt hi
    obtain ⟨v, hv, _⟩ := r.get hd
    exact ⟨xs, v, (f.step st).sq, hv⟩
  stop := fun z S H st c _ _ => ⟨xs, (f.step st).sq, by rw [r.length]; exact Nat.le_refl _⟩
  yld := fun i z S H x H' hi st c _ hz _ ⟨e, y⟩ => by
    subst e
    obtain ⟨d, hd⟩ := get_lt hi
    obtain ⟨v, hv, rv⟩ := r.get hd
    have := y xs (f.step st).sq
    rw [hv] at this
    cases this
    exact ⟨d, hd, .refl, c, rv.like (z := z) (Like.later st hz)⟩
theorem enum_ref {a : Addr} {ds : List D} : Enum K cl (Itl K a) ds (fun S' => S' a = some (.lst ds)) S1 H1 where
  go := fun i z S H hi st c _ hs => by
    obtain ⟨xs, hx, r⟩ := c.ob a _ hs
    obtain ⟨d, hd⟩ := get_lt hi
    obtain ⟨v, hv, _⟩ := r.get hd
    exact ⟨xs, v, .of hx, hv⟩
  stop := fun z S H st c _ hs => by
    obtain ⟨xs, hx, r⟩ := c.ob a _ hs
    exact ⟨xs, .of hx, by rw [r.length]; exact Nat.le_refl _⟩
  yld := fun i z S H x H' hi st c _ hz hs ⟨e, y⟩ => by
    subst e
    obtain ⟨xs, hx, r⟩ := c.ob a _ hs
    obtain ⟨d, hd⟩ := get_lt hi
    obtain ⟨v, hv, rv⟩ := r.get hd
    have := y xs (.of hx)
    rw [hv] at this
    cases this
    exact ⟨d, hd, .refl, c, rv⟩
theorem enum_str {s : List Nat} : Enum K cl (Its (toS s)) (s.map fun c => .str [c]) (fun _ => True) S1 H1 where
  go := fun i z S H hi st c _ _ => by
    have : i < s.length := by simpa using hi
    show i < (toS s).cps.size
    simpa [toS] using this
  stop := fun z S H st c _ _ => by
    show (toS s).cps.size ≤ _
    simp [toS]
  yld := fun i z S H x H' hi st c _ hz _ ⟨e, k, hk, ex⟩ => by
    subst e
    subst ex
    have hk' : s[i]? = some k := by simpa [toS] using hk
    refine ⟨.str [k], by simp [hk'], .refl, c, ?_⟩
    exact DV.str [k]
theorem enum_rng {lo : Int} {n : Nat} : Enum K cl (Itr lo n) (rangeL lo n) (fun _ => True) S1 H1 where
  go := fun i z S H hi st c _ _ => by
    have : i < n := by simpa [rangeL] using hi
    exact this
  stop := fun z S H st c _ _ => by
    show n ≤ _
    simp [rangeL]
  yld := fun i z S H x H' hi st c _ hz _ ⟨e, ex⟩ => by
    subst e
    subst ex
    have hn : i < n := by simpa [rangeL] using hi
    refine ⟨.int (lo + (i : Nat)), ?_, .refl, c, .int _⟩
    unfold rangeL
    simp [hn]
theorem walk_cases {S : Store} {x : D} {Kk : List D → (Store → Prop) → Prop} (h : walkOf S x Kk) : (∃ ds, x = .tup ds ∧ Kk ds fun _ => True) ∨ (∃ ds, x = .lst ds ∧ Kk ds fun _ => True) ∨ (∃ s, x = .str s ∧ Kk (s.map fun c => .str [c]) fun _ => True) ∨
    ∃ a ds, x = .ref a ∧ S a = some (.lst ds) ∧ Kk ds fun S' => S' a = some (.lst ds) := by
  cases x <;> first | exact .inl ⟨_, rfl, h⟩ | exact .inr (.inl ⟨_, rfl, h⟩) | exact .inr (.inr (.inl ⟨_, rfl, h⟩)) | exact (let ⟨ds, h⟩ := h; .inr (.inr (.inr ⟨_, ds, rfl, h⟩))) | exact h.elim
end

section
variable {T : Tab} {cl : ClsT} {X : Cx} {S0 : Store} {H0 : Hp} {Xe : Exc → Py.Env → Store → Prop} {k : Nat} {p pos apos : Pos} {tg : Expr}
def OutI (K : PySem.W.Frag) (cl : ClsT) (S : Store) (H : Hp) (Kk : List D → (Store → Prop) → Store → Prop) : L2.It → Hp → Prop := fun J H1 => ∃ ds st S1, Step S H S1 H1 ∧ Cp K cl S1 H1 ∧ Enum K cl J ds st S1 H1 ∧ st S1 ∧ Kk ds st S1
def SndI (T : Tab) (cl : ClsT) (X : Cx) (S0 : Store) (H0 : Hp) (Xe : Exc → Py.Env → Store → Prop) (tg : Expr) (it : Py.It) (pe : Expr) : Prop :=
  ∀ ρ S σ H Kk, At X.K cl S0 H0 ρ S σ H → wpI T.C Xe it ρ S Kk → RI X tg pe σ H (OutI X.K cl S H Kk)
theorem snd_of {e : Ex} {pe : Expr} (h : SndE T cl X S0 H0 Xe e pe) : SndI T cl X S0 H0 Xe tg (.of e) pe := by
  intro ρ S σ H Kk a w
  refine ito (pi_any (re X pe)) ((h ρ S σ H _ a w).mono fun v H1 ⟨d, S1, st, c, r, w1⟩ => ?_)
  rcases walk_cases w1 with ⟨ds, rfl, q⟩ | ⟨ds, rfl, q⟩ | ⟨s, rfl, q⟩ | ⟨b, ds, rfl, hS, q⟩
  · cases r with
    | tup f r => exact .inr (.inl ⟨_, rfl, ⟨_, f.sq⟩, ds, _, S1, st, c, enum_tup f r, trivial, q⟩)
  · cases r with
    | lst f r => exact .inl ⟨_, rfl, ⟨_, f.sq⟩, ds, _, S1, st, c, enum_lst f r, trivial, q⟩
  · cases r
    exact .inr (.inr ⟨_, rfl, _, _, S1, st, c, enum_str, trivial, q⟩)
  · cases r
    obtain ⟨xs, hx, _⟩ := c.ob b _ hS
    exact .inl ⟨b, rfl, ⟨_, .of hx⟩, ds, _, S1, st, c, enum_ref, hS, q⟩
theorem snd_rng1 (C : Ctx T cl k X S0 H0 Xe) {e : Ex} {pe : Expr} (hg : glB X.env.scope "range" = true) (hn : notStar pe = true) (h : SndE T cl X S0 H0 Xe e pe) : SndI T cl X S0 H0 Xe tg (.rng1 e) (.Call (.Name "range" p) [pe] [] pos) := by
  intro ρ S σ H Kk a w
  obtain ⟨g1, g2⟩ := glB_ok hg
  refine ito (pi_range1 g1 (C.F.blt "range" (by decide)) (pa_cons (re X pe) pa_nil (starEach_cons hn)) (starEach_cons hn)) ?_
  refine (h ρ S σ H _ a w).mono fun v H1 ⟨d, S1, st, c, r, j, e, h1, h2, q⟩ => ?_
  subst e
  cases r
  exact ⟨j, rfl, h1, h2, _, _, S1, st, c, enum_rng, trivial, q⟩
theorem snd_rng2 (C : Ctx T cl k X S0 H0 Xe) {e f : Ex} {pe pf : Expr} (hg : glB X.env.scope "range" = true) (hn : notStar pe = true) (hn2 : notStar pf = true) (h : SndE T cl X S0 H0 Xe e pe) (h2 : SndE T cl X S0 H0 Xe f pf) :
    SndI T cl X S0 H0 Xe tg (.rng2 e f) (.Call (.Name "range" p) [pe, pf] [] pos) := by
  intro ρ S σ H Kk a w
  obtain ⟨g1, g2⟩ := glB_ok hg
  refine ito (pi_range2 g1 (C.F.blt "range" (by decide)) (pa_cons (re X pe) (pa_cons (re X pf) pa_nil (starEach_cons hn2)) (starEach_cons hn)) (by rw [starEach_cons hn, starEach_cons hn2]; rfl) (starEach_cons hn2)) ?_
  refine (h ρ S σ H _ a w).mono fun v H1 ⟨d, S1, st, c, r, w1⟩ => ?_
  refine (h2 ρ S1 σ H1 _ (a.next st c) w1).mono fun u H2 ⟨d2, S2, st2, c2, r2, i, j, e, e2, hb, q⟩ => ?_
  subst e
  subst e2
  cases r
  cases r2
  exact ⟨i, j, rfl, hb, _, _, S2, st.trans st2, c2, enum_rng, trivial, q⟩
end

/-! ### targets -/
def RG (X : Cx) (target : Expr) : TG := fun v σ H Q => ∀ (pins : List (Addr × PySem.Obj)) (s : Shared) (u : Value), Inv X pins σ H s → RelV v u → wpAny (model X.prog X.w) X.A (assign target X.env u) (fun _ s' => ∃ σ' H', Inv X pins σ' H' s' ∧ Q σ' H') X.xe s
theorem rg (X : Cx) (target : Expr) : PG X target (RG X target) := ⟨fun pins s σ H v u Q I r h => h pins s u I r⟩
/-- names one after another -/
def gNames (is : List Nat) : TGs := fun vs σ H Q => vs.length = is.length ∧ Q ((is.zip vs).foldl (fun r p => r.set p.1 (some p.2)) σ) H
def gTg (K : PySem.W.Frag) : Tg → TG
  | .nm i => gName i
  | .tp is => gTup K is.length (gNames is)
def namB (N : List Str) (ok : Str → Bool) : List Nat → List Expr → Bool
  | [], [] => true
  | i :: is, .Name x _ :: es => (N[i]? == some x) && ok x && namB N ok is es
  | _, _ => false
def tgB (N : List Str) (ok : Str → Bool) : Tg → Expr → Bool
  | .nm i, .Name x _ => (N[i]? == some x) && ok x
  | .tp is, .Tuple es _ _ => namB N ok is es
  | _, _ => false
section
variable {X : Cx} {ok : Str → Bool}
theorem assignEach_len {env : PySem.Env} : ∀ {is : List Nat} {es : List Expr}, namB N ok is es = true → (assignEach es env).length = is.length ∧ (assignEach es env).findIdx? (·.1) = none
  | [], [], _ => ⟨rfl, rfl⟩
  | [], e :: es, h => by cases e <;> cases h
  | i :: is, [], h => by cases h
  | i :: is, e :: es, h => by
    cases e <;> first | cases h | skip
    rename_i x p
    have h' : ((N[i]? == some x) && ok x) = true ∧ namB N ok is es = true := by simpa [namB] using h
    obtain ⟨h1, h2⟩ := assignEach_len (env := env) h'.2
    have e : assignEach (.Name x p :: es) env = (false, assign (.Name x p) env) :: assignEach es env := rfl
    rw [e]
    exact ⟨by simp [h1], by simp [List.findIdx?_cons, h2]⟩
theorem pgs_names (hN : X.N.Nodup) (hok : ∀ x, ok x = true → Loc X.env.scope x ∧ (X.fn x = true ∨ X.env.scope.names.lookup x = some .local)) : ∀ {is : List Nat} {es : List Expr}, namB X.N ok is es = true → PGs X es (gNames is)
  | [], [], _ => ⟨fun pins s σ H vs us Q I r ⟨h1, h2⟩ => by
      have : vs = [] := List.length_eq_zero_iff.mp h1
      subst this
      exact pgs_nil.run pins s σ H [] us Q I r ⟨rfl, h2⟩⟩
  | [], e :: es, h => by cases e <;> cases h
  | i :: is, [], h => by cases h
  | i :: is, e :: es, h => by
    cases e <;> first | cases h | skip
    rename_i x p
    have h' : ((X.N[i]? == some x) && ok x) = true ∧ namB X.N ok is es = true := by simpa [namB] using h
    have h1 : X.N[i]? = some x ∧ ok x = true := by simpa using h'.1
    have ih := pgs_names hN hok h'.2
    obtain ⟨l1, l2⟩ := hok x h1.2
    have hc := pgs_cons (pg_name (pos := p) hN h1.1 l1 l2) ih
    refine ⟨fun pins s σ H vs us Q I r ⟨g1, g2⟩ => ?_⟩
    cases vs with
    | nil => cases g1
    | cons v vs => exact hc.run pins s σ H (v :: vs) us Q I r ⟨v, vs, rfl, by simpa using g1, g2⟩
theorem pg_tg (hc : X.calm = true) (hN : X.N.Nodup) (hok : ∀ x, ok x = true → Loc X.env.scope x ∧ (X.fn x = true ∨ X.env.scope.names.lookup x = some .local)) {t : Tg} {e : Expr} (h : tgB X.N ok t e = true) : PG X e (gTg X.K t) := by
  cases t with
  | nm i =>
    cases e <;> first | cases h | skip
    rename_i x p
    have h1 : X.N[i]? = some x ∧ ok x = true := by simpa [tgB] using h
    obtain ⟨l1, l2⟩ := hok x h1.2
    exact pg_name hN h1.1 l1 l2
  | tp is =>
    cases e <;> first | cases h | skip
    rename_i es j p
    have h' : namB X.N ok is es = true := h
    obtain ⟨a1, a2⟩ := assignEach_len (env := X.env) h'
    exact pg_tup hc (pgs_names hN hok h') a1 a2
theorem wipe_get (σ : L2.St) (j : Nat) : ∀ vs : List Nat, (wipe σ vs)[j]? = if j ∈ vs then (if j < σ.length then some none else none) else σ[j]?
  | [] => by simp [wipe]
  | v :: vs => by
    unfold wipe
    by_cases hj : v = j
    · subst hj
      rw [if_pos List.mem_cons_self]
      by_cases hl : v < σ.length
      · rw [if_pos hl, List.getElem?_set_self (by rw [wipe_length]; exact hl)]
      · rw [if_neg hl, List.getElem?_eq_none (by rw [List.length_set, wipe_length]; omega)]
    · rw [List.getElem?_set_ne hj, wipe_get σ j vs]
      by_cases hm : j ∈ vs
      · rw [if_pos hm, if_pos (List.mem_cons_of_mem _ hm)]
      · rw [if_neg hm, if_neg fun z => (List.mem_cons.mp z).elim (fun e => hj e.symm) hm]
theorem wipe_eq {σ σ' : L2.St} {vs : List Nat} (hl : σ'.length = σ.length) (h : ∀ j, j ∉ vs → σ'[j]? = σ[j]?) : wipe σ' vs = wipe σ vs := by
  apply List.ext_getElem?
  intro j
  rw [wipe_get, wipe_get, hl]
  by_cases hm : j ∈ vs
  · rw [if_pos hm, if_pos hm]
  · rw [if_neg hm, if_neg hm, h j hm]
theorem wipe_wipe (σ : L2.St) (vs : List Nat) : wipe (wipe σ vs) vs = wipe σ vs := wipe_eq (wipe_length σ vs) fun j hj => by rw [wipe_get, if_neg hj]
theorem foldl_set_len (is : List Nat) : ∀ (vs : List V) (σ : L2.St), ((is.zip vs).foldl (fun r p => r.set p.1 (some p.2)) σ).length = σ.length := by
  induction is with
  | nil => intro vs σ; rfl
  | cons i is ih =>
    intro vs σ
    cases vs with
    | nil => rfl
    | cons v vs => rw [List.zip_cons_cons, List.foldl_cons, ih]; simp
theorem foldl_set_get (is : List Nat) {j : Nat} : ∀ (vs : List V) (σ : L2.St), j ∉ is → ((is.zip vs).foldl (fun r p => r.set p.1 (some p.2)) σ)[j]? = σ[j]? := by
  induction is with
  | nil => intro vs σ _; rfl
  | cons i is ih =>
    intro vs σ h
    cases vs with
    | nil => rfl
    | cons v vs =>
      rw [List.zip_cons_cons, List.foldl_cons, ih _ _ fun z => h (List.mem_cons_of_mem _ z), List.getElem?_set_ne fun e => h (by have e' : i = j := e; subst e'; exact List.mem_cons_self)]
theorem env_foldl {K : PySem.W.Frag} {cl : ClsT} {S : Store} {H : Hp} (is : List Nat) : ∀ {ds : List D} {vs : List V} {ρ : Py.Env} {σ : L2.St}, EnvR K cl S H ρ σ → DVs K cl S H ds vs → EnvR K cl S H ((is.zip ds).foldl (fun r p => r.set p.1 (some p.2)) ρ) ((is.zip vs).foldl (fun r p => r.set p.1 (some p.2)) σ) := by
  induction is with
  | nil => intro ds vs ρ σ r _; exact r
  | cons i is ih =>
    intro ds vs ρ σ r h
    cases h with
    | nil => exact r
    | cons h t => rw [List.zip_cons_cons, List.zip_cons_cons, List.foldl_cons, List.foldl_cons]; exact ih (r.set h) t
/-- a target gets an item -/
theorem tg_snd {K : PySem.W.Frag} {cl : ClsT} {S : Store} {H : Hp} {t : Tg} {d : D} {x : V} {ρ : Py.Env} {σ : L2.St} {Kk : Py.Env → Prop} {Q : L2.St → Hp → Prop} (r : EnvR K cl S H ρ σ) (h : DV K cl S H d x) (w : bindW t d ρ Kk)
    (q : ∀ ρ' σ', EnvR K cl S H ρ' σ' → Kk ρ' → (∀ vs, (∀ i ∈ tgs t, i ∈ vs) → wipe σ' vs = wipe σ vs) → Q σ' H) : gTg K t x σ H Q := by
  cases t with
  | nm i =>
    refine q (ρ.set i (some d)) (σ.set i (some x)) (r.set h) w fun vs hv => wipe_eq (by simp) fun j hj => ?_
    have hi : i ∈ vs := hv i (by simp [tgs])
    rw [List.getElem?_set_ne fun e => hj (by subst e; exact hi)]
  | tp is =>
    obtain ⟨xs, e, hl, w⟩ := w
    subst e
    cases h with
    | @tup a vs _ f rv =>
      refine ⟨a, vs, rfl, f.sq, by rw [← rv.length]; exact hl, by rw [← rv.length]; exact hl, ?_⟩
      exact q _ _ (env_foldl is r rv) w fun us hu => wipe_eq (foldl_set_len _ _ _) fun j hj => foldl_set_get _ _ _ fun z => hj (hu j (by simpa [tgs] using z))
end
end Py

set_option Elab.async false
set_option linter.all false
set_option maxRecDepth 100000
/-! Snd8: comprehensions. -/
namespace Py
open PySem PySem.Spec PyProof.Rows L2

def notSet : Expr → Bool
  | .Set _ _ _ => false
  | _ => true
theorem notSet_ok {e : Expr} {env : PySem.Env} (h : notSet e = true) : ∀ x, foldedSetIterable e env x = pure x := fun x => by cases e <;> first | rfl | cases h
/-- a name of the block's own -/
def ownB (scope : Scope) (x : Str) : Bool := match scope.names.lookup x with | some .local => true | some .cell => true | _ => false
theorem ownB_ok {scope sc : Scope} {x : Str} (h : ownB scope x = true) : Loc (relS scope sc) x ∧ ((scope.names.lookup x == some .cell) = true ∨ (relS scope sc).names.lookup x = some .local) := by
  unfold ownB at h
  split at h
  · rename_i e
    have e2 : (relS scope sc).names.lookup x = some .local := lookup_relS_keep (sc := sc) (by decide) e
    exact ⟨.inl e2, .inr e2⟩
  · rename_i e
    exact ⟨.inr (lookup_relS_keep (sc := sc) (by decide) e), .inl (by rw [e]; rfl)⟩
  · cases h

section
variable {K : PySem.W.Frag} {cl : ClsT} {S S' : Store} {H H' : Hp} {D' : Addr}
/-- a list is begun at D' -/
def zin (cl : ClsT) (D' : Addr) : Addr → Prop := fun a => cl.z a ∨ a = D'
theorem like_in {o : HO} (h : H D' = Option.none) : Like K cl.z (zin cl D') S H S (upd H D' o) where
  t := fun a xs f => f.step (Step.new h)
  l := fun a xs ⟨h1, h2, h3⟩ => by
    have n := L2.ne_of_none h1 h
    exact ⟨by rw [upd_ne n]; exact h1, h2, fun z => z.elim h3 n⟩
  r := fun a xs f => f.step (Step.new h)
/-- it grows -/
theorem like_grow {u : List V} {o : HO} (h : H D' = some (.lst u)) : Like K (zin cl D') (zin cl D') S H S (upd H D' o) where
  t := fun a xs f => by
    rcases f with ⟨f, s⟩ | f
    · have n : a ≠ D' := fun e => by
        subst e
        rcases f with f | ⟨_, f⟩ <;> (rw [h] at f; cases f)
      refine .inl ⟨?_, s⟩
      rcases f with f | ⟨o', f⟩
      · exact .inl (by rw [upd_ne n]; exact f)
      · exact .inr ⟨o', by rw [upd_ne n]; exact f⟩
    · exact .inr f
  l := fun a xs ⟨h1, h2, h3⟩ => by
    have n : a ≠ D' := fun e => h3 (.inr e)
    exact ⟨by rw [upd_ne n]; exact h1, h2, h3⟩
  r := fun a xs f => by
    rcases f with ⟨⟨o', f⟩, s⟩ | f
    · have n : a ≠ D' := fun e => by subst e; rw [h] at f; cases f
      exact .inl ⟨⟨o', by rw [upd_ne n]; exact f⟩, s⟩
    · exact .inr f
/-- it is done -/
theorem like_out : Like K (zin cl D') cl.z S H S H := ⟨fun _ _ f => f, fun a xs ⟨h1, h2, h3⟩ => ⟨h1, h2, fun z => h3 (.inl z)⟩, fun _ _ f => f⟩
/-- it becomes an object of the store -/
theorem like_own {u : List V} {o : Py.Obj} (h : H D' = some (.lst u)) : Like K (zin cl D') cl.z S H (put S D' o) H where
  t := fun a xs f => by
    rcases f with ⟨f, s⟩ | f
    · have n : a ≠ D' := fun e => by
        subst e
        rcases f with f | ⟨_, f⟩ <;> (rw [h] at f; cases f)
      exact .inl ⟨f, by rw [put_ne n]; exact s⟩
    · exact .inr f
  l := fun a xs ⟨h1, h2, h3⟩ => by
    have n : a ≠ D' := fun e => h3 (.inr e)
    exact ⟨h1, by rw [put_ne n]; exact h2, fun z => h3 (.inl z)⟩
  r := fun a xs f => by
    rcases f with ⟨⟨o', f⟩, s⟩ | f
    · have n : a ≠ D' := fun e => by subst e; rw [h] at f; cases f
      exact .inl ⟨⟨o', f⟩, by rw [put_ne n]; exact s⟩
    · exact .inr f
theorem Cp.like {z : Addr → Prop} (c : Cp K cl S H) (k : Like K cl.z z S H S H') (e : ∀ a o, S a = some o → H' a = H a) (hz : ∀ a, z a → S a = Option.none ∧ ∃ u, H' a = some u) : Cp K (cl.at z) S H' :=
  ⟨fun a o h => (c.ob a o h).like k (e a o h), hz⟩
end

section
variable {T : Tab} {cl : ClsT} {X : Cx} {S0 : Store} {H0 : Hp} {Xe : Exc → Py.Env → Store → Prop} {k : Nat} {p pos apos : Pos} {tg : Expr}
/-- the element's reading, whatever the block's frame -/
def RB (X : Cx) (scope : Scope) (e : Expr) : TE := fun σ H Q => ∀ (s : Shared) (H1 : Hp) (C : Addr) (cl : List (Str × Addr)) (fp : List Addr), RE (X.blk s H1 scope (compEnvC scope cl C X.env) fp) e σ H Q
theorem rb (X : Cx) (scope : Scope) (e : Expr) (s : Shared) (H1 : Hp) (C : Addr) (cl : List (Str × Addr)) (fp : List Addr) : PE (X.blk s H1 scope (compEnvC scope cl C X.env) fp) e (RB X scope e) :=
  ⟨fun pins s' σ H Q I h => h s H1 C cl fp pins s' I⟩
def RBT (X : Cx) (scope : Scope) (e : Expr) : TT := fun σ H Q => ∀ (s : Shared) (H1 : Hp) (C : Addr) (cl : List (Str × Addr)) (fp : List Addr), RT (X.blk s H1 scope (compEnvC scope cl C X.env) fp) e σ H Q
theorem rbt (X : Cx) (scope : Scope) (e : Expr) (s : Shared) (H1 : Hp) (C : Addr) (cl : List (Str × Addr)) (fp : List Addr) : PT (X.blk s H1 scope (compEnvC scope cl C X.env) fp) e (RBT X scope e) :=
  ⟨fun pins s' σ H Q I h => h s H1 C cl fp pins s' I⟩
/-- a test or none -/
def SndC (T : Tab) (cl : ClsT) (X : Cx) (S0 : Store) (H0 : Hp) (scope : Scope) (c : Opt) (ifs : List Expr) (tt : TT) : Prop :=
  (∀ (s : Shared) (H1 : Hp) (C : Addr) (cs : List (Str × Addr)) (fp : List Addr), PTs (X.blk s H1 scope (compEnvC scope cs C X.env) fp) ifs tt) ∧
  (∀ z ρ S σ H Q, At X.K (cl.at z) S0 H0 ρ S σ H → wpC T.C c ρ S Q → tt σ H (OutB X.K (cl.at z) S H Q)) ∧
  ∀ σ H (Q Q' : Bool → Hp → Prop), tt σ H Q → (∀ b H', Q b H' → Q' b H') → tt σ H Q'
theorem snd_c0 {scope : Scope} : SndC T cl X S0 H0 scope .no [] tYes := ⟨fun _ _ _ _ _ => pts_nil, fun z ρ S σ H Q a w => ⟨S, .refl, a.cp, w⟩, fun _ _ _ _ h k => k _ _ h⟩
abbrev NoX : Exc → Py.Env → Store → Prop := fun _ _ _ => False
theorem snd_c1 {scope : Scope} {e : Ex} {pe : Expr} (h : ∀ z (s : Shared) (H1 : Hp) (C : Addr) (cs : List (Str × Addr)) (fp : List Addr), SndT T (cl.at z) (X.blk s H1 scope (compEnvC scope cs C X.env) fp) S0 H0 NoX e pe) :
    SndC T cl X S0 H0 scope (.yes e) [pe] (RBT X scope pe) :=
  ⟨fun s H1 C cs fp => pts_one (rbt X scope pe s H1 C cs fp), fun z ρ S σ H Q a w s H1 C cs fp => h z s H1 C cs fp ρ S σ H Q a w, fun σ H Q Q' h k s H1 C cs fp => RT.mono (h s H1 C cs fp) k⟩
theorem snd_comp {m : Bool} {elt : Ex} {t : Tg} {it : Py.It} {c : Opt} {pelt ptg piter : Expr} {ifs : List Expr} {scope : Scope} {own : List (Str × Nat)} {tt : TT} (F : Facts T cl k X) (hit : SndI T cl X S0 H0 Xe ptg it piter)
    (ok : BlkOk X.N X.env.scope scope own) (hown : own.map (·.2) = tgs t) (htg : tgB X.N (ownB scope) t ptg = true) (hc : SndC T cl X S0 H0 scope c ifs tt)
    (he : ∀ z (s : Shared) (H1 : Hp) (C : Addr) (cs : List (Str × Addr)) (fp : List Addr), SndE T (cl.at z) (X.blk s H1 scope (compEnvC scope cs C X.env) fp) S0 H0 NoX elt pelt) (hs : notSet piter = true) :
    ∀ ρ S σ H Q, At X.K cl S0 H0 ρ S σ H → wpE T.C Xe (.comp m elt t it c) ρ S Q → tLc (RI X ptg piter) (gTg X.K t) tt (RB X scope pelt) (own.map (·.2)) σ H (Out X.K cl S H Q) := by
  intro ρ S σ H Q a w
  intro pins s I
  refine wpAny_mono (hit ρ S σ H _ a w pins s I) (fun v s1 h1 => wpAny_mono h1 (fun itv s2 ⟨i0, fp, tn, J, H1, e, I2, T2, st2, f2, q⟩ => ⟨i0, fp, tn, J, H1, e, I2, T2, st2, f2, ?_⟩) fun _ _ x => x) fun _ _ x => x
  obtain ⟨ds, st, S1, sp, c1, en, s0, P, p0, pst, pturn, pend⟩ := q
  intro L hL
  rw [hown]
  have nz : ¬ cl.z L := fun z => by obtain ⟨_, u, e⟩ := c1.zz L z; rw [hL] at e; cases e
  have a1 : At X.K cl S0 H0 ρ S1 σ H1 := a.next sp c1
  have key : ∀ {H2 : Hp} {S2 : Store} {u : List V}, Cp X.K (cl.at (zin cl L)) S2 H2 → S2 L = none ∧ ∃ u, H2 L = some u := fun c => c.zz L (.inr rfl)
  refine ⟨fun i mm H2 => mm = ds.length - i ∧ i ≤ ds.length ∧ ∃ acc u S2, P i acc S2 ∧ H2 L = some (.lst u) ∧ Cp X.K (cl.at (zin cl L)) S2 H2 ∧ DVs X.K (cl.at (zin cl L)) S2 H2 acc u ∧
    Step S1 H1 S2 H2 ∧ EnvR X.K (cl.at (zin cl L)) S2 H2 ρ σ, ⟨ds.length, by simp, Nat.zero_le _, [], [], S1, p0, upd_same, ?_, .nil, Step.new hL, a1.env.like (like_in hL)⟩, ?_⟩
  · refine Cp.like c1 (like_in hL) (fun a o e => upd_ne fun z => by subst z; rw [c1.free hL] at e; cases e) fun a hz => ?_
    rcases hz with hz | hz
    · obtain ⟨h1, u, h2⟩ := c1.zz a hz
      exact ⟨h1, u, by rw [upd_ne (L2.ne_of_none h2 hL)]; exact h2⟩
    · subst hz; exact ⟨c1.free hL, _, upd_same⟩
  · rintro i mm H2 ⟨rfl, hi, acc, u, S2, pP, hu, c2, r2, st12, e2⟩
    have hzz : ∀ a, ¬ zin cl L a → ¬ cl.z a := fun a h z => h (.inl z)
    have hst := pst i acc S2 hi pP
    by_cases hlt : i < ds.length
    · refine .inr ⟨en.go i _ S2 H2 hlt st12 c2 hzz hst, fun H3 => ∃ acc u S2, P (i + 1) acc S2 ∧ H3 L = some (.lst u) ∧ Cp X.K (cl.at (zin cl L)) S2 H3 ∧ DVs X.K (cl.at (zin cl L)) S2 H3 acc u ∧
        Step S1 H1 S2 H3 ∧ EnvR X.K (cl.at (zin cl L)) S2 H3 ρ σ, fun H3 n3 => ⟨ds.length - (i + 1), by omega, rfl, hlt, n3⟩, fun x H3 y3 => ?_⟩
      obtain ⟨d, hd, st23, c3, rd⟩ := en.yld i _ S2 H2 x H3 hlt st12 c2 hzz (fun a u h1 h2 h3 h4 => h4.elim h3 fun e => by subst e; rw [hL] at h1; cases h1) hst y3
      obtain ⟨hal, bw⟩ := pturn i d acc S2 hd pP
      have e3 := e2.step st23
      refine tg_snd (e3.wipe (tgs t)) rd bw fun ρ' σ' er' kk' hw => ⟨?_, ?_⟩
      · rw [hw (tgs t) (fun _ h => h), wipe_wipe]
      · have a3 : At X.K (cl.at (zin cl L)) S0 H0 ρ' S2 σ' H3 := ⟨(a1.st.trans st12).trans st23, c3, er'⟩
        have hu3 : H3 L = some (.lst u) := (st23 L _ hu (key c2 (u := u)).1).1
        have r3 := r2.step st23
        refine hc.2.2 σ' H3 _ _ (hc.2.1 _ ρ' S2 σ' H3 _ a3 kk') fun b H4 ⟨S4, st34, c4, q4⟩ => ?_
        have l4 := st34 L _ hu3 (key c3 (u := u)).1
        have e4 := e3.step st34
        have st14 := (st12.trans st23).trans st34
        cases b with
        | false => exact ⟨acc, u, S4, q4, l4.1, c4, r3.step st34, st14, e4⟩
        | true =>
          intro s' Hs C' cs fp'
          refine RE.mono (he _ s' Hs C' cs fp' ρ' S4 σ' H4 _ (a3.next st34 c4) q4) fun y H5 ⟨dx, S5, st45, c5, rx, q5⟩ => ?_
          have l5 := st45 L _ l4.1 l4.2
          have g := like_grow (K := X.K) (cl := cl) (S := S5) (o := .lst (u ++ [y])) l5.1
          refine ⟨u, l5.1, by rw [← r3.length, ← lim_eq]; exact hal, acc ++ [dx], u ++ [y], S5, q5, upd_same, ?_, ?_, ?_, ?_⟩
          · refine Cp.like (cl := cl.at (zin cl L)) (z := zin cl L) c5 g (fun a o e => upd_ne fun z => by subst z; rw [l5.2] at e; cases e) fun a hz => ?_
            obtain ⟨z1, u1, z2⟩ := c5.zz a hz
            by_cases ha : a = L
            · subst ha; exact ⟨z1, _, upd_same⟩
            · exact ⟨z1, u1, by rw [upd_ne ha]; exact z2⟩
          · exact (DVs.like (cl := cl.at (zin cl L)) (z := zin cl L) g ((r3.step st34).step st45)).append (.cons (DV.like (cl := cl.at (zin cl L)) (z := zin cl L) g rx) .nil)
          · intro a u' h1 h2
            obtain ⟨h3, h4⟩ := (st14.trans st45) a u' h1 h2
            exact ⟨by rw [upd_ne (L2.ne_of_none h1 hL)]; exact h3, h4⟩
          · exact EnvR.like (cl := cl.at (zin cl L)) (z := zin cl L) (e4.step st45) g
    · have e : i = ds.length := by omega
      subst e
      refine .inl ⟨en.stop _ S2 H2 st12 c2 hzz hst, ?_⟩
      have hn : S2 L = none := (c2.zz L (.inr rfl)).1
      obtain ⟨_, q⟩ := pend acc S2 pP
      cases m with
      | false =>
        have c3 : Cp X.K cl S2 H2 := Cp.like (cl := cl.at (zin cl L)) (z := cl.z) c2 like_out (fun _ _ _ => rfl) fun a hz => c2.zz a (.inl hz)
        exact ⟨.lst acc, S2, sp.trans st12, c3, .lst ⟨hu, hn, nz⟩ (DVs.like (cl := cl.at (zin cl L)) (z := cl.z) like_out r2), q⟩
      | true =>
        have st' : Step S1 H1 (put S2 L (.lst acc)) H2 := fun a u' h1 h2 => by
          obtain ⟨h3, h4⟩ := st12 a u' h1 h2
          exact ⟨h3, by rw [put_ne (L2.ne_of_none h1 hL)]; exact h4⟩
        have g := like_own (K := X.K) (cl := cl) (S := S2) (o := .lst acc) hu
        have c3 : Cp X.K cl (put S2 L (.lst acc)) H2 := by
          refine ⟨fun a o e => ?_, fun a hz => ?_⟩
          · by_cases ha : a = L
            · subst ha
              rw [put_same] at e
              cases e
              exact ⟨u, hu, DVs.like (cl := cl.at (zin cl a)) (z := cl.z) g r2⟩
            · rw [put_ne ha] at e
              exact OV.like (cl := cl.at (zin cl L)) (z := cl.z) (c2.ob a o e) g rfl
          · obtain ⟨h1, u', h2⟩ := c2.zz a (.inl hz)
            have n : a ≠ L := fun z => nz (z ▸ hz)
            exact ⟨by rw [put_ne n]; exact h1, u', h2⟩
        exact ⟨.ref L, put S2 L (.lst acc), sp.trans st', c3, .ref L, q L hn⟩
theorem snd_compE {m : Bool} {elt : Ex} {t : Tg} {it : Py.It} {c : Opt} {pelt ptg piter : Expr} {ifs : List Expr} {scope : Scope} {own : List (Str × Nat)} {tt : TT} (F : Facts T cl k X) (hit : SndI T cl X S0 H0 Xe ptg it piter)
    (ok : BlkOk X.N X.env.scope scope own) (hown : own.map (·.2) = tgs t) (htg : tgB X.N (ownB scope) t ptg = true) (hc : SndC T cl X S0 H0 scope c ifs tt)
    (he : ∀ z (s : Shared) (H1 : Hp) (C : Addr) (cs : List (Str × Addr)) (fp : List Addr), SndE T (cl.at z) (X.blk s H1 scope (compEnvC scope cs C X.env) fp) S0 H0 NoX elt pelt) (hs : notSet piter = true) :
    SndE T cl X S0 H0 Xe (.comp m elt t it c) (.ListComp pelt [⟨ptg, piter, ifs, 0⟩] scope pos) := by
  intro ρ S σ H Q a w
  refine eto (pe_lc F.calm F.nd (ri X ptg piter) ok (fun s H1 C cs fp => ?_) hc.1 (fun s H1 C cs fp => rb X scope pelt s H1 C cs fp) (notSet_ok hs)) (snd_comp F hit ok hown htg hc he hs ρ S σ H Q a w)
  exact pg_tg (X := X.blk s H1 scope (compEnvC scope cs C X.env) fp) F.calm F.nd (fun x hx => ownB_ok hx) htg
end
end Py

set_option Elab.async false
set_option linter.all false
set_option maxRecDepth 100000
/-! Snd9: statements. -/
namespace Py
open PySem PySem.Spec PyProof.Rows L2

def RSt (X : Cx) (st : Stmt) : TS := fun D σ H => ∀ (pins : List (Addr × PySem.Obj)) (s : Shared), Inv X pins σ H s → wpAny (model X.prog X.w) X.A (exec st X.env) (SP X pins D) X.xe s
def RSts (X : Cx) (st : List Stmt) : TS := fun D σ H => ∀ (pins : List (Addr × PySem.Obj)) (s : Shared), Inv X pins σ H s → wpAny (model X.prog X.w) X.A (execs st X.env) (SP X pins D) X.xe s
theorem rst (X : Cx) (st : Stmt) : PS X st (RSt X st) := ⟨fun pins s _ _ _ I h => h pins s I⟩
theorem rsts (X : Cx) (st : List Stmt) : PSs X st (RSts X st) := ⟨fun pins s _ _ _ I h => h pins s I⟩
theorem sto {X : Cx} {st : Stmt} {t : TS} (h : PS X st t) {D : L2.Ends} {σ : L2.St} {H : Hp} (q : t D σ H) : RSt X st D σ H := fun pins s I => h.run pins s σ H D I q
theorem ssto {X : Cx} {st : List Stmt} {t : TS} (h : PSs X st t) {D : L2.Ends} {σ : L2.St} {H : Hp} (q : t D σ H) : RSts X st D σ H := fun pins s I => h.run pins s σ H D I q

/-- what is wanted behind a statement, over the abstract heap -/
def DH (K : PySem.W.Frag) (cl : ClsT) (S0 : Store) (H0 : Hp) (S1 : Store) (H1 : Hp) (N : Py.Ends) : L2.Ends where
  nx := fun σ H => ∃ ρ S, At K cl S0 H0 ρ S σ H ∧ Step S1 H1 S H ∧ N.nx ρ S
  rt := fun v H => ∃ d S, Step S0 H0 S H ∧ Cp K cl S H ∧ DV K cl S H d v ∧ N.rt d S
  bk := fun σ H => ∃ ρ S, At K cl S0 H0 ρ S σ H ∧ Step S1 H1 S H ∧ N.bk ρ S
  ct := fun _ _ => False
theorem sp_imp {X : Cx} {pins : List (Addr × PySem.Obj)} {D D' : L2.Ends} {f : Flow} {s : Shared} (h : SP X pins D f s) (n : ∀ σ H, D.nx σ H → D'.nx σ H) (r : ∀ v H, D.rt v H → D'.rt v H) (b : ∀ σ H, D.bk σ H → D'.bk σ H) (c : ∀ σ H, D.ct σ H → D'.ct σ H) : SP X pins D' f s := by
  cases f with
  | next => obtain ⟨σ, H, I, q⟩ := h; exact ⟨σ, H, I, n _ _ q⟩
  | ret v => obtain ⟨u, σ, H, I, ru, q⟩ := h; exact ⟨u, σ, H, I, ru, r _ _ q⟩
  | brk => obtain ⟨σ, H, I, q⟩ := h; exact ⟨σ, H, I, b _ _ q⟩
  | cont => obtain ⟨σ, H, I, q⟩ := h; exact ⟨σ, H, I, c _ _ q⟩
theorem RSts.imp {X : Cx} {st : List Stmt} {D D' : L2.Ends} {σ : L2.St} {H : Hp} (h : RSts X st D σ H) (n : ∀ σ H, D.nx σ H → D'.nx σ H) (r : ∀ v H, D.rt v H → D'.rt v H) (b : ∀ σ H, D.bk σ H → D'.bk σ H) (c : ∀ σ H, D.ct σ H → D'.ct σ H) : RSts X st D' σ H :=
  fun pins s I => wpAny_mono (h pins s I) (fun _ _ q => sp_imp q n r b c) fun _ _ x => x
/-- a statement's place: in a def's own frame -/
structure SCtx (T : Tab) (cl : ClsT) (k : Nat) (X : Cx) (S0 : Store) (H0 : Hp) (Xe : Exc → Py.Env → Store → Prop) : Prop extends Ctx T cl k X S0 H0 Xe where
  po : PassesOwn (model X.prog X.w) X.A X.env X.xe
  fn : ∀ x, X.fn x = true
  stk : X.stack = X.env :: X.outer
  frm : X.env.frame = some X.env.locals
def SndS (T : Tab) (cl : ClsT) (X : Cx) (S0 : Store) (H0 : Hp) (Xe : Exc → Py.Env → Store → Prop) (st : Py.St) (ps : Stmt) : Prop :=
  ∀ ρ S σ H N, N.ex = Xe → At X.K cl S0 H0 ρ S σ H → wpS T.C st N ρ S → RSt X ps (DH X.K cl S0 H0 S H N) σ H
def SndSs (T : Tab) (cl : ClsT) (X : Cx) (S0 : Store) (H0 : Hp) (Xe : Exc → Py.Env → Store → Prop) (st : Sts) (ps : List Stmt) : Prop :=
  ∀ ρ S σ H N, N.ex = Xe → At X.K cl S0 H0 ρ S σ H → wpSs T.C st N ρ S → RSts X ps (DH X.K cl S0 H0 S H N) σ H

def notComp : Expr → Bool
  | .ListComp _ _ _ _ => false
  | .SetComp _ _ _ _ => false
  | .DictComp _ _ _ _ _ => false
  | _ => true
theorem sw_plain {e : Expr} {t : Option Expr} {l : Nat} {env : PySem.Env} (h : notComp e = true) : swapsWith e t l env = pure false := by cases e <;> first | rfl | cases h
def notName : Expr → Bool
  | .Name _ _ => false
  | _ => true
theorem sw_other {e t : Expr} {l : Nat} {env : PySem.Env} (h : notName t = true) : swapsWith e (some t) l env = pure false := by
  cases e <;> first | rfl | (cases t <;> first | rfl | cases h)
def notTuple : Expr → Bool
  | .Tuple _ _ _ => false
  | _ => true
theorem sws_name {e : Expr} {x : Str} {p : Pos} {env : PySem.Env} : swappedStores [.Name x p] e env = pure none := by cases e <;> rfl
theorem sws_sub {e o i : Expr} {p : Pos} {env : PySem.Env} : swappedStores [.Subscript o i p] e env = pure none := by cases e <;> rfl
theorem sws_tup {e : Expr} {es : List Expr} {j : Nat} {p : Pos} {env : PySem.Env} (h : notTuple e = true) : swappedStores [.Tuple es j p] e env = pure none := by cases e <;> first | rfl | cases h
/-- does the comprehension change places with its name -/
def swB (sc : Scope) (x : Str) (l : Nat) : Expr → Bool
  | .ListComp _ _ s p => (sc.names.lookup x == some .local) && (l == p.line) && !(s.names.any fun (n, k) => n == x && (k == .local || k == .cell))
  | _ => false
theorem sw_lc {elt : Expr} {gs : List Comprehension} {s : Scope} {p np : Pos} {x : Str} {l : Nat} {env : PySem.Env} (hk : env.scope.kind = .function) :
    swapsWith (.ListComp elt gs s p) (some (.Name x np)) l env = pure (swB env.scope x np.line (.ListComp elt gs s p)) := by
  have hb : env.blockKind = .function := by unfold Env.blockKind; rw [hk]; rfl
  unfold swapsWith swB
  simp only [hb, Expr.pos]
  rfl

section
variable {T : Tab} {cl : ClsT} {X : Cx} {S0 : Store} {H0 : Hp} {Xe : Exc → Py.Env → Store → Prop} {k : Nat} {p pos np apos : Pos}
theorem At.set {K : PySem.W.Frag} {ρ : Py.Env} {S : Store} {σ : L2.St} {H : Hp} {i : Nat} {d : D} {v : V} (a : At K cl S0 H0 ρ S σ H) (r : DV K cl S H d v) : At K cl S0 H0 (ρ.set i (some d)) S (σ.set i (some v)) H := ⟨a.st, a.cp, a.env.set r⟩
/-- x = e -/
theorem snd_asg (C : SCtx T cl k X S0 H0 Xe) {i : Nat} {x : Str} {e : Ex} {pe : Expr} (hx : X.N[i]? = some x) (hl : locB X.env.scope x = true) (hp : notComp pe = true) (h : SndE T cl X S0 H0 Xe e pe) : SndS T cl X S0 H0 Xe (.asg i e) (.Assign [.Name x np] pe pos) := by
  intro ρ S σ H N hN a w
  have w' : wpE T.C N.ex e ρ S fun d S1 => N.nx (ρ.set i (some d)) S1 := w
  rw [hN] at w'
  refine sto (ps_set C.F.nd hx (locB_ok hl) (re X pe) (sw_plain hp) (.inl (C.fn x))) ?_
  refine (h ρ S σ H _ a w').mono fun v H1 ⟨d, S1, st, c, r, q⟩ => ?_
  exact ⟨ρ.set i (some d), S1, (a.next st c).set r, st, q⟩
/-- x = [..] -/
theorem snd_asgC (C : SCtx T cl k X S0 H0 Xe) {i : Nat} {x : Str} {m : Bool} {elt : Ex} {t : Tg} {it : Py.It} {c : Opt} {pelt ptg piter : Expr} {ifs : List Expr} {scope : Scope} {own : List (Str × Nat)} {tt : TT} (hx : X.N[i]? = some x) (hl : locB X.env.scope x = true)
    (hit : SndI T cl X S0 H0 Xe ptg it piter) (ok : BlkOk X.N X.env.scope scope own) (hown : own.map (·.2) = tgs t) (htg : tgB X.N (ownB scope) t ptg = true) (hc : SndC T cl X S0 H0 scope c ifs tt)
    (he : ∀ z (s : Shared) (H1 : Hp) (C : Addr) (cs : List (Str × Addr)) (fp : List Addr), SndE T (cl.at z) (X.blk s H1 scope (compEnvC scope cs C X.env) fp) S0 H0 NoX elt pelt) (hs : notSet piter = true) :
    SndS T cl X S0 H0 Xe (.asg i (.comp m elt t it c)) (.Assign [.Name x np] (.ListComp pelt [⟨ptg, piter, ifs, 0⟩] scope p) pos) := by
  intro ρ S σ H N hN a w pins s I
  have w' : wpE T.C N.ex (.comp m elt t it c) ρ S fun d S1 => N.nx (ρ.set i (some d)) S1 := w
  rw [hN] at w'
  have sw := sw_lc (elt := pelt) (gs := [⟨ptg, piter, ifs, 0⟩]) (s := scope) (p := p) (np := np) (x := x) (l := pos.line) I.ok.kind
  have fin : ∀ {v : V} {H1 : Hp}, Out X.K cl S H (fun d S1 => N.nx (ρ.set i (some d)) S1) v H1 → (DH X.K cl S0 H0 S H N).nx (σ.set i (some v)) H1 := fun {v H1} ⟨d, S1, st, c, r, q⟩ => ⟨ρ.set i (some d), S1, (a.next st c).set r, st, q⟩
  cases hb : swB X.env.scope x np.line (.ListComp pelt [⟨ptg, piter, ifs, 0⟩] scope p) with
  | false =>
    rw [hb] at sw
    refine (ps_set C.F.nd hx (locB_ok hl) (re X _) sw (.inl (C.fn x))).run pins s σ H _ I ?_
    exact (snd_compE (pos := p) C.F hit ok hown htg hc he hs ρ S σ H _ a w').mono fun v H1 o => fin o
  | true =>
    rw [hb] at sw
    have hyl : X.env.scope.names.lookup x = some .local := by
      unfold swB at hb
      simp only [Bool.and_eq_true, beq_iff_eq] at hb
      exact hb.1.1
    refine (ps_setLc (i := i) C.F.calm C.F.nd hx hyl sw (ri X ptg piter) ok (g := gTg X.K t) (fun s H1 C' cs fp => pg_tg (X := X.blk s H1 scope (compEnvC scope cs C' X.env) fp) C.F.calm C.F.nd (fun x hx => ownB_ok hx) htg) hc.1
      (fun s H1 C cs fp => rb X scope pelt s H1 C cs fp) (notSet_ok hs)).run pins s σ H _ I ?_
    have key := snd_comp (pelt := pelt) C.F hit ok hown htg hc he hs ρ S σ H _ a w'
    show tLc (RI X ptg piter) (gTg X.K t) tt (RB X scope pelt) (own.map (·.2)) σ H fun v H1 => (DH X.K cl S0 H0 S H N).nx (σ.set i (some v)) H1
    intro pins2 s2 I2
    refine wpAny_mono (key pins2 s2 I2) (fun v s1 h1 => wpAny_mono h1 (fun itv s2 ⟨i0, fp, tn, J, H1, e, I2, T2, st2, f2, q⟩ => ⟨i0, fp, tn, J, H1, e, I2, T2, st2, f2, ?_⟩) fun _ _ x => x) fun _ _ x => x
    intro L hL
    obtain ⟨W, w0, wn⟩ := q L hL
    exact ⟨W, w0, fun i m H w => (wn i m H w).imp (fun ⟨a, b⟩ => ⟨a, fin b⟩) id⟩
/-- a, b = e -/
theorem snd_unp (C : SCtx T cl k X S0 H0 Xe) {is : List Nat} {es : List Expr} {j : Nat} {e : Ex} {pe : Expr} (hn : namB X.N (locB X.env.scope) is es = true) (hp : notTuple pe = true) (h : SndE T cl X S0 H0 Xe e pe) : SndS T cl X S0 H0 Xe (.unp is e) (.Assign [.Tuple es j np] pe pos) := by
  intro ρ S σ H N hN a w
  have w' : wpE T.C N.ex e ρ S fun d S1 => ∃ xs, itemsOf S1 d = some xs ∧ xs.length = is.length ∧ N.nx ((is.zip xs).foldl (fun r p => r.set p.1 (some p.2)) ρ) S1 := w
  rw [hN] at w'
  obtain ⟨a1, a2⟩ := assignEach_len (env := X.env) hn
  have hpg := pgs_names (X := X) C.F.nd (fun x hx => ⟨locB_ok hx, .inl (C.fn x)⟩) hn
  have g : PG X (.Tuple es j np) (fun v σ H Q => gTup X.K is.length (gNames is) v σ H Q ∨ gLst X.K is.length (gNames is) v σ H Q) :=
    ⟨fun pins s σ H v u Q I r h => h.elim ((pg_tup C.F.calm hpg a1 a2).run pins s σ H v u Q I r) ((pg_lst C.F.calm hpg a1 a2).run pins s σ H v u Q I r)⟩
  refine sto (ps_asg (re X pe) g (show swapsWith pe (some (.Tuple es j np)) pos.line X.env = pure false from sw_other rfl) (sws_tup hp) rfl) ?_
  refine (h ρ S σ H _ a w').mono fun v H1 ⟨d, S1, st, c, r, xs, hx, hl, q⟩ => ?_
  have a1 := a.next st c
  rcases itemsOf_seq c r hx with ⟨b, vs, rfl, hq, rv⟩
  have fin : (DH X.K cl S0 H0 S H N).nx ((is.zip vs).foldl (fun r p => r.set p.1 (some p.2)) σ) H1 := ⟨_, S1, ⟨a1.st, a1.cp, env_foldl is a1.env rv⟩, st, q⟩
  have hl' : vs.length = is.length := by rw [← rv.length]; exact hl
  rcases hq with hq | hq
  · exact .inr ⟨b, vs, rfl, hq, hl', hl', fin⟩
  · exact .inl ⟨b, vs, rfl, hq, hl', hl', fin⟩
/-- o.f = e -/
theorem snd_fset (C : SCtx T cl k X S0 H0 Xe) {o e : Ex} {po pe : Expr} {f : String} {g : Str} (hg : g = Str.ofString f) (h0 : SndE T cl X S0 H0 Xe o po) (h : SndE T cl X S0 H0 Xe e pe) : SndS T cl X S0 H0 Xe (.fset o f e) (.Assign [.Attribute po g np] pe pos) := by
  intro ρ S σ H N hN a w
  subst hg
  have w' : wpE T.C N.ex e ρ S fun d S1 => wpE T.C N.ex o ρ S1 fun x S2 => ∃ a c fs, x = .ref a ∧ S2 a = some (.ins c fs) ∧ T.C.fld c f = true ∧ fs.length < 900 ∧ N.nx ρ (put S2 a (.ins c (fput f d fs))) := w
  rw [hN] at w'
  refine sto (ps_fld (re X po) (re X pe) (sw_other rfl)) ?_
  refine (h ρ S σ H _ a w').mono fun v H1 ⟨d, S1, st, c, r, w1⟩ => ?_
  refine (h0 ρ S1 σ H1 _ (a.next st c) w1).mono fun u H2 ⟨x, S2, st2, c2, r2, b, cc, fs, e1, hS, hf, hl, q⟩ => ?_
  subst e1
  cases r2
  obtain ⟨C', dx, gs, k1, k2, k3⟩ := c2.ob b _ hS
  have na := C.F.attr _ _ _ k1 hf
  have sp := Step.put (S := S2) (H := H2) (u := .ins C' dx (putF (Str.ofString f) v gs)) (o := .ins cc (fput f d fs)) hS
  refine ⟨b, C', dx, gs, rfl, k2, C.F.cls _ _ k1, na, by rw [← k3.length]; omega, ρ, _, (a.next (st.trans st2) c2).next sp (c2.put hS ⟨C', dx, _, k1, upd_same, FV.step sp (k3.put (r.step st2) na)⟩), (st.trans st2).trans sp, q⟩
/-- o[i] = e, a list -/
theorem assign_sub {o i : Expr} {p : Pos} {env : PySem.Env} (h : notSlice i = true) : ∀ v, assign (.Subscript o i p) env v = (do
      let ov ← holding [v] (eval o env)
      let iv ← holding [v, ov] (eval i env)
      standAt p
      holding [v, ov, iv] (setItem ov iv v)
      release [v, ov, iv] []) := fun v => by cases i <;> first | rfl | cases h
theorem snd_iset (C : SCtx T cl k X S0 H0 Xe) {o i e : Ex} {po pi pe : Expr} (hi : notSlice pi = true) (h0 : SndE T cl X S0 H0 Xe o po) (h1 : SndE T cl X S0 H0 Xe i pi) (h : SndE T cl X S0 H0 Xe e pe) : SndS T cl X S0 H0 Xe (.iset o i e) (.Assign [.Subscript po pi np] pe pos) := by
  intro ρ S σ H N hN a w
  have w' : wpE T.C N.ex e ρ S fun d S1 => wpE T.C N.ex o ρ S1 fun x S2 => wpE T.C N.ex i ρ S2 fun y S3 =>
      ∃ a xs k j, x = .ref a ∧ S3 a = some (.lst xs) ∧ y = .int k ∧ Py.ixN xs.length k = some j ∧ N.nx ρ (put S3 a (.lst (xs.set j d))) := w
  rw [hN] at w'
  refine sto (ps_asg (re X pe) (pg_sub (re X po) (re X pi) set_list (assign_sub hi)) (show swapsWith pe (some (.Subscript po pi np)) pos.line X.env = pure false from sw_other rfl) sws_sub rfl) ?_
  refine (h ρ S σ H _ a w').mono fun v H1 ⟨d, S1, st, c, r, w1⟩ => ?_
  refine (h0 ρ S1 σ H1 _ (a.next st c) w1).mono fun u H2 ⟨x, S2, st2, c2, r2, w2⟩ => ?_
  refine (h1 ρ S2 σ H2 _ (a.next (st.trans st2) c2) w2).mono fun u3 H3 ⟨y, S3, st3, c3, r3, b, xs, kk, j, e1, hS, e2, hj, q⟩ => ?_
  subst e1
  subst e2
  cases r2
  cases r3
  obtain ⟨ys, hy, ry⟩ := c3.ob b _ hS
  have sp := Step.put (S := S3) (H := H3) (u := .lst (ys.set j v)) (o := .lst (xs.set j d)) hS
  refine ⟨b, ys, kk, j, rfl, rfl, hy, by rw [← ry.length]; exact hj, ρ, _, (a.next ((st.trans st2).trans st3) c3).next sp (c3.put hS ⟨_, upd_same, (ry.set ((r.step st2).step st3) j).step sp⟩), ((st.trans st2).trans st3).trans sp, q⟩
/-- x op= e -/
theorem aug_cases {o : Bop} {x y : D} {S : Store} {Q : Post} (h : augW o x y S Q) : (∃ i j, x = .int i ∧ y = .int j ∧ (o = .add ∧ Q (.int (i + j)) S ∨ o = .sub ∧ Q (.int (i - j)) S ∨ o = .mul ∧ mulOk i j ∧ Q (.int (i * j)) S)) ∨
    ∃ s t, o = .add ∧ x = .str s ∧ y = .str t ∧ s.length + t.length ≤ lim ∧ Q (.str (s ++ t)) S := by
  cases o <;> cases x <;> cases y <;> first
    | exact h.elim
    | exact .inl ⟨_, _, rfl, rfl, .inl ⟨rfl, h⟩⟩
    | exact .inl ⟨_, _, rfl, rfl, .inr (.inl ⟨rfl, h⟩)⟩
    | exact .inl ⟨_, _, rfl, rfl, .inr (.inr ⟨rfl, h⟩)⟩
    | exact .inr ⟨_, _, rfl, rfl, rfl, h⟩
theorem aug_snd {S : Store} {H : Hp} {o : Bop} {d e : D} {x y : V} {Q : Post} (c : Cp X.K cl S H) (hx : DV X.K cl S H d x) (hy : DV X.K cl S H e y) (h : augW o d e S Q) : RO X (inplaceOp (popOf o)) x y H (Out X.K cl S H Q) := by
  rcases aug_cases h with ⟨i, j, rfl, rfl, ⟨rfl, q⟩ | ⟨rfl, q⟩ | ⟨rfl, hm, q⟩⟩ | ⟨s, t, rfl, rfl, rfl, hz, q⟩
  · cases hx; cases hy; exact oto iop_add ⟨i, j, rfl, rfl, .pure c (.int _) q⟩
  · cases hx; cases hy; exact oto iop_sub ⟨i, j, rfl, rfl, .pure c (.int _) q⟩
  · cases hx; cases hy; exact oto iop_mulM ⟨i, j, rfl, rfl, hm, .pure c (.int _) q⟩
  · cases hx; cases hy
    refine oto iop_add_str ⟨_, _, rfl, rfl, by rw [toS_len, toS_len, ← lim_eq]; exact hz, ?_⟩
    rw [toS_append]
    exact .pure c (.str _) q
theorem snd_aug (C : SCtx T cl k X S0 H0 Xe) {i : Nat} {x : Str} {o : Bop} {op : Operator} {e : Ex} {pe : Expr} (ho : op = popOf o) (hx : X.N[i]? = some x) (hl : locB X.env.scope x = true) (h : SndE T cl X S0 H0 Xe e pe) : SndS T cl X S0 H0 Xe (.aug i o e) (.AugAssign (.Name x np) op pe pos) := by
  intro ρ S σ H N hN a w
  subst ho
  obtain ⟨d, hd, w'⟩ := w
  rw [hN] at w'
  obtain ⟨v, hv, rv⟩ := a.env.get i d hd
  refine sto (ps_aug C.F.nd hx (locB_ok hl) (re X pe) (ro X _) (.inl (C.fn x))) ⟨v, hv, ?_⟩
  refine (h ρ S σ H _ a w').mono fun u H1 ⟨y, S1, st, c, r, w1⟩ => ?_
  exact RO.mono (aug_snd c (rv.step st) r w1) fun z H2 ⟨zd, S2, st2, c2, r2, q⟩ => ⟨_, S2, (a.next (st.trans st2) c2).set r2, st.trans st2, q⟩
theorem snd_augF (C : SCtx T cl k X S0 H0 Xe) {o e : Ex} {po pe : Expr} {f : String} {g : Str} (hg : g = Str.ofString f) (h0 : SndE T cl X S0 H0 Xe o po) (h : SndE T cl X S0 H0 Xe e pe) : SndS T cl X S0 H0 Xe (.augF o f .add e) (.AugAssign (.Attribute po g np) .Add pe pos) := by
  intro ρ S σ H N hN a w
  subst hg
  obtain ⟨_, w'⟩ := w
  rw [hN] at w'
  refine sto (ps_fldaug (re X po) (re X pe) in_add) ?_
  refine (h0 ρ S σ H _ a w').mono fun v H1 ⟨d, S1, st, c, r, b, cc, fs, y, e1, hS, hf, w1⟩ => ?_
  subst e1
  cases r
  obtain ⟨C', dx, gs, k1, k2, k3⟩ := c.ob b _ hS
  obtain ⟨v, h4, h5, h6⟩ := k3.lookup.1 _ hf
  cases h5
  refine ⟨b, C', dx, gs, _, rfl, k2, C.F.cls _ _ k1, h6, h4, ?_⟩
  refine (h ρ S1 σ H1 _ (a.next st c) w1).mono fun u H2 ⟨z, S2, st2, c2, r2, j, e2, fs', hS2, hfl, hl, q⟩ => ?_
  subst e2
  cases r2
  obtain ⟨C2, dx2, gs2, m1, m2, m3⟩ := c2.ob b _ hS2
  rw [k1] at m1
  cases m1
  have sp := Step.put (S := S2) (H := H2) (u := .ins C' dx2 (putF (Str.ofString f) (.int (y + j)) gs2)) (o := .ins cc (fput f (.int (y + j)) fs')) hS2
  exact ⟨y, j, rfl, rfl, dx2, gs2, m2, by rw [← m3.length]; omega, ρ, _, (a.next (st.trans st2) c2).next sp (c2.put hS2 ⟨C', dx2, _, k1, upd_same, FV.step sp (m3.put (.int _) h6)⟩), (st.trans st2).trans sp, q⟩
theorem snd_exp {e : Ex} {pe : Expr} (hp : notComp pe = true) (h : SndE T cl X S0 H0 Xe e pe) : SndS T cl X S0 H0 Xe (.exp e) (.Expr pe pos) := by
  intro ρ S σ H N hN a w
  have w' : wpE T.C N.ex e ρ S fun _ S1 => N.nx ρ S1 := w
  rw [hN] at w'
  refine sto (ps_expr (re X pe) (sw_plain hp)) ?_
  exact (h ρ S σ H _ a w').mono fun v H1 ⟨d, S1, st, c, r, q⟩ => ⟨ρ, S1, a.next st c, st, q⟩
theorem snd_ret {e : Ex} {pe : Expr} (h : SndE T cl X S0 H0 Xe e pe) : SndS T cl X S0 H0 Xe (.ret e) (.Return (some pe) pos) := by
  intro ρ S σ H N hN a w
  have w' : wpE T.C N.ex e ρ S N.rt := w
  rw [hN] at w'
  exact sto (ps_ret (re X pe)) ((h ρ S σ H _ a w').mono fun v H1 ⟨d, S1, st, c, r, q⟩ => ⟨d, S1, a.st.trans st, c, r, q⟩)
theorem snd_retN : SndS T cl X S0 H0 Xe .retN (.Return none pos) := by
  intro ρ S σ H N hN a w
  exact sto ps_retN ⟨.non, S, a.st, a.cp, .non, w⟩
theorem snd_pass : SndS T cl X S0 H0 Xe .pass (.Pass pos) := fun ρ S σ H N hN a w => sto ps_pass ⟨ρ, S, a, .refl, w⟩
theorem snd_brk : SndS T cl X S0 H0 Xe .brk (.Break pos) := fun ρ S σ H N hN a w => sto ps_break ⟨ρ, S, a, .refl, w⟩
theorem snd_snil : SndSs T cl X S0 H0 Xe .nil [] := fun ρ S σ H N hN a w => ssto pss_nil ⟨ρ, S, a, .refl, w⟩
theorem snd_scons {st : Py.St} {r : Sts} {ps : Stmt} {pr : List Stmt} (h : SndS T cl X S0 H0 Xe st ps) (hr : SndSs T cl X S0 H0 Xe r pr) : SndSs T cl X S0 H0 Xe (.cons st r) (ps :: pr) := by
  intro ρ S σ H N hN a w
  refine ssto (pss_cons (rst X ps) (rsts X pr)) ?_
  have w' : wpS T.C st { N with nx := fun ρ' S' => wpSs T.C r N ρ' S' } ρ S := w
  have key := h ρ S σ H { N with nx := fun ρ' S' => wpSs T.C r N ρ' S' } hN a w'
  intro pins s I
  refine wpAny_mono (key pins s I) (fun f s1 q => ?_) fun _ _ x => x
  cases f with
  | next =>
    obtain ⟨σ', H', I', ρ', S', a', st', q⟩ := q
    exact ⟨σ', H', I', (hr ρ' S' σ' H' N hN a' q).imp (fun _ _ ⟨ρ2, S2, a2, s2, q⟩ => ⟨ρ2, S2, a2, st'.trans s2, q⟩) (fun _ _ q => q) (fun _ _ ⟨ρ2, S2, a2, s2, q⟩ => ⟨ρ2, S2, a2, st'.trans s2, q⟩) fun _ _ q => q⟩
  | ret v => exact q
  | brk => exact q
  | cont => exact q
theorem snd_ifs {c : Ex} {a b : Sts} {pc : Expr} {pa pb : List Stmt} (hc : SndT T cl X S0 H0 Xe c pc) (ha : SndSs T cl X S0 H0 Xe a pa) (hb : SndSs T cl X S0 H0 Xe b pb) : SndS T cl X S0 H0 Xe (.ifs c a b) (.If pc pa pb pos) := by
  intro ρ S σ H N hN at0 w
  have w' : wpE T.C N.ex c ρ S (isB fun k S1 => if k = true then wpSs T.C a N ρ S1 else wpSs T.C b N ρ S1) := w
  rw [hN] at w'
  refine sto (ps_if (rt X pc) (rsts X pa) (rsts X pb)) ?_
  refine (hc ρ S σ H _ at0 w').mono fun k H1 ⟨S1, st, c1, q⟩ => ?_
  cases k with
  | true => exact (ha ρ S1 σ H1 N hN (at0.next st c1) q).imp (fun _ _ ⟨ρ2, S2, a2, s2, q⟩ => ⟨ρ2, S2, a2, st.trans s2, q⟩) (fun _ _ q => q) (fun _ _ ⟨ρ2, S2, a2, s2, q⟩ => ⟨ρ2, S2, a2, st.trans s2, q⟩) fun _ _ q => q
  | false => exact (hb ρ S1 σ H1 N hN (at0.next st c1) q).imp (fun _ _ ⟨ρ2, S2, a2, s2, q⟩ => ⟨ρ2, S2, a2, st.trans s2, q⟩) (fun _ _ q => q) (fun _ _ ⟨ρ2, S2, a2, s2, q⟩ => ⟨ρ2, S2, a2, st.trans s2, q⟩) fun _ _ q => q
theorem snd_whl (C : SCtx T cl k X S0 H0 Xe) {c : Ex} {b : Sts} {pc : Expr} {pb : List Stmt} (hc : SndT T cl X S0 H0 Xe c pc) (hb : SndSs T cl X S0 H0 Xe b pb) : SndS T cl X S0 H0 Xe (.whl c b) (.While pc pb [] pos) := by
  intro ρ S σ H N hN a w
  obtain ⟨W, ⟨m0, w0⟩, turn⟩ := w
  refine sto (ps_while C.po (rt X pc) (rsts X pb)) ⟨fun m σ1 H1 => ∃ ρ1 S1, At X.K cl S0 H0 ρ1 S1 σ1 H1 ∧ Step S H S1 H1 ∧ W m ρ1 S1, ⟨m0, ρ, S, a, .refl, w0⟩, ?_⟩
  rintro m σ1 H1 ⟨ρ1, S1, a1, st1, w1⟩
  have w2 : wpE T.C N.ex c ρ1 S1 (isB fun k S2 => if k = true then wpSs T.C b { N with nx := fun ρ' S' => ∃ m', m' < m ∧ W m' ρ' S', bk := N.nx } ρ1 S2 else N.nx ρ1 S2) := turn m ρ1 S1 w1
  rw [hN] at w2
  refine (hc ρ1 S1 σ1 H1 _ a1 w2).mono fun k H2 ⟨S2, st, c2, q⟩ => ?_
  cases k with
  | true =>
    refine ⟨fun σ' H' => ∃ m', m' < m ∧ ∃ ρ1 S1, At X.K cl S0 H0 ρ1 S1 σ' H' ∧ Step S H S1 H' ∧ W m' ρ1 S1, fun σ' H' ⟨m', hm, h⟩ => ⟨m', hm, h⟩, ?_⟩
    exact (hb ρ1 S2 σ1 H2 { N with nx := fun ρ' S' => ∃ m', m' < m ∧ W m' ρ' S', bk := N.nx, ex := Xe } rfl (a1.next st c2) q).imp (fun _ _ ⟨ρ2, S3, a2, s2, m', hm, q⟩ => ⟨m', hm, ρ2, S3, a2, (st1.trans st).trans s2, q⟩) (fun _ _ q => q)
      (fun _ _ ⟨ρ2, S3, a2, s2, q⟩ => ⟨ρ2, S3, a2, (st1.trans st).trans s2, q⟩) fun _ _ q => q.elim
  | false => exact ⟨ρ1, S2, a1.next st c2, st1.trans st, q⟩
theorem snd_for (C : SCtx T cl k X S0 H0 Xe) {t : Tg} {it : Py.It} {b : Sts} {ptg piter : Expr} {pb : List Stmt} (hit : SndI T cl X S0 H0 Xe ptg it piter) (ht : tgB X.N (locB X.env.scope) t ptg = true) (hs : notSet piter = true) (hb : SndSs T cl X S0 H0 Xe b pb) :
    SndS T cl X S0 H0 Xe (.for t it b) (.For ptg piter pb [] pos) := by
  intro ρ S σ H N hN a w
  have w' : wpI T.C N.ex it ρ S fun ds st S1 => loopW ds st (fun d ρ S nx => bindW t d ρ fun ρ1 => wpSs T.C b { N with nx := nx, bk := N.nx } ρ1 S) ρ S1 N.nx := w
  rw [hN] at w'
  refine sto (ps_for C.po C.F.calm (ri X ptg piter) (pg_tg C.F.calm C.F.nd (fun x hx => ⟨locB_ok hx, .inl (C.fn x)⟩) ht) (rsts X pb) (notSet_ok hs)) ?_
  intro pins s I
  refine wpAny_mono (hit ρ S σ H _ a w' pins s I) (fun v s1 h1 => wpAny_mono h1 (fun itv s2 ⟨i0, fp, tn, J, H1, e, I2, T2, st2, f2, q⟩ => ⟨i0, fp, tn, J, H1, e, I2, T2, st2, f2, ?_⟩) fun _ _ x => x) fun _ _ x => x
  obtain ⟨ds, stb, S1, sp, c1, en, s0, P, p0, pst, pturn, pend⟩ := q
  have a1 : At X.K cl S0 H0 ρ S1 σ H1 := a.next sp c1
  have hzz : ∀ a, ¬ cl.z a → ¬ cl.z a := fun _ h => h
  refine ⟨fun i m σ H => m = ds.length - i ∧ i ≤ ds.length ∧ ∃ ρ S, At X.K cl S0 H0 ρ S σ H ∧ Step S1 H1 S H ∧ P i ρ S, ⟨ds.length, by simp, Nat.zero_le _, ρ, S1, a1, .refl, p0⟩, ?_⟩
  rintro i m σ2 H2 ⟨rfl, hi, ρ2, S2, a2, st12, pP⟩
  have hst := pst i ρ2 S2 hi pP
  by_cases hlt : i < ds.length
  · refine .inr ⟨en.go i cl.z S2 H2 hlt st12 a2.cp hzz hst, fun σ' H' => ∃ ρ S, At X.K cl S0 H0 ρ S σ' H' ∧ Step S1 H1 S H' ∧ P (i + 1) ρ S, fun σ' H' n => ⟨ds.length - (i + 1), by omega, rfl, hlt, n⟩, fun x H3 y3 => ?_⟩
    obtain ⟨d, hd, st23, c3, rd⟩ := en.yld i cl.z S2 H2 x H3 hlt st12 a2.cp hzz (fun _ _ _ _ h => h) hst y3
    have a3 := a2.next st23 c3
    refine tg_snd a3.env rd (pturn i d ρ2 S2 hd pP) fun ρ' σ' er' kk' _ => ?_
    exact (hb ρ' S2 σ' H3 { N with nx := P (i + 1), bk := N.nx, ex := Xe } rfl ⟨a3.st, c3, er'⟩ kk').imp (fun _ _ ⟨ρ4, S4, a4, s4, q⟩ => ⟨ρ4, S4, a4, (st12.trans st23).trans s4, q⟩) (fun _ _ q => q)
      (fun _ _ ⟨ρ4, S4, a4, s4, q⟩ => ⟨ρ4, S4, a4, ((sp.trans st12).trans st23).trans s4, q⟩) fun _ _ q => q.elim
  · have e : i = ds.length := by omega
    subst e
    exact .inl ⟨en.stop cl.z S2 H2 st12 a2.cp hzz hst, ρ2, S2, a2, sp.trans st12, pend ρ2 S2 pP⟩
end
end Py

set_option Elab.async false
set_option linter.all false
set_option maxRecDepth 100000
/-! Snd10: built-ins called, classes named. -/
namespace Py
open PySem PySem.Spec PyProof.Rows L2

def bltName : Blt → String
  | .len => "len" | .abs => "abs" | .gcd => "gcd" | .int => "int" | .str => "str" | .tuple => "tuple" | .list => "list" | .lrange => "range" | .isinst => "isinstance"
def bltTy : Blt → Bool
  | .int => true | .str => true | .tuple => true | .list => true | _ => false
theorem boots : (bootBuiltins (Str.ofString "len") = some (.builtin "len") ∧ bootBuiltins (Str.ofString "abs") = some (.builtin "abs") ∧ bootBuiltins (Str.ofString "isinstance") = some (.builtin "isinstance")) ∧
    bootBuiltins (Str.ofString "int") = some (.type "int") ∧ bootBuiltins (Str.ofString "str") = some (.type "str") ∧ bootBuiltins (Str.ofString "tuple") = some (.type "tuple") ∧ bootBuiltins (Str.ofString "list") = some (.type "list") := by decide +kernel
theorem boots2 : bootBuiltins (Str.ofString "bool") = some (.type "bool") ∧ bootBuiltins (Str.ofString "dict") = some (.type "dict") ∧ bootBuiltins (Str.ofString "ValueError") = some (.type "ValueError") ∧ bootBuiltins (Str.ofString "gcd") = none := by decide +kernel
theorem names_ok : ∀ x, x ∈ bltNames → Str.ofString x ≠ "__name__" := by decide +kernel

section
variable {T : Tab} {cl : ClsT} {X : Cx} {S0 : Store} {H0 : Hp} {Xe : Exc → Py.Env → Store → Prop} {k : Nat} {p pos apos : Pos}
theorem blt_call {b : Blt} {pe : Expr} {ps : List Expr} {t : TA} (F : Facts T cl k X) (hb : b ≠ .lrange) (hg : glB X.env.scope (Str.ofString (bltName b)) = true) (hgc : b = .gcd → X.mg (Str.ofString "gcd") = some (.builtin "math.gcd")) (hn : notStars (pe :: ps) = true) (ha : PA X (pe :: ps) t) :
    PE X (.Call (.Name (Str.ofString (bltName b)) p) (pe :: ps) [] pos) (tCB (RC X (bltVal b)) t) := by
  obtain ⟨g1, g2⟩ := glB_ok hg
  have hn' : notStar pe = true ∧ notStars ps = true := by simpa [notStars] using hn
  have e1 := starEach_cons (env := X.env) (es := ps) hn'.1
  have e2 := notStars_any (env := X.env) (pos := pos) hn'.2
  obtain ⟨⟨b1, b2, b3⟩, b4, b5, b6, b7⟩ := boots
  cases b with
  | lrange => exact absurd rfl hb
  | len => exact pe_callB (rc X _) g1 (F.blt "len" (by decide)) b1 ha (names_ok "len" (by decide)) g2 e1 e2
  | abs => exact pe_callB (rc X _) g1 (F.blt "abs" (by decide)) b2 ha (names_ok "abs" (by decide)) g2 e1 e2
  | isinst => exact pe_callB (rc X _) g1 (F.blt "isinstance" (by decide)) b3 ha (names_ok "isinstance" (by decide)) g2 e1 e2
  | int => exact pe_callTy (rc X _) g1 (F.blt "int" (by decide)) b4 ha (names_ok "int" (by decide)) g2 e1 e2
  | str => exact pe_callTy (rc X _) g1 (F.blt "str" (by decide)) b5 ha (names_ok "str" (by decide)) g2 e1 e2
  | tuple => exact pe_callTy (rc X _) g1 (F.blt "tuple" (by decide)) b6 ha (names_ok "tuple" (by decide)) g2 e1 e2
  | list => exact pe_callTy (rc X _) g1 (F.blt "list" (by decide)) b7 ha (names_ok "list" (by decide)) g2 e1 e2
  | gcd => exact pe_callBfun (rc X _) g1 (hgc rfl) ha g2 e1 e2
theorem snd_blt (C : Ctx T cl k X S0 H0 Xe) {b : Blt} {m : Bool} {x : Str} {e : Ex} {es : Exs} {pe : Expr} {ps : List Expr} (hx : x = Str.ofString (bltName b)) (hb : b ≠ .lrange) (hg : glB X.env.scope x = true) (hgc : b = .gcd → T.gcd = true) (hn : notStars (pe :: ps) = true)
    (h : SndEs T cl X S0 H0 Xe (.cons e es) (pe :: ps)) : SndE T cl X S0 H0 Xe (.blt b m (.cons e es)) (.Call (.Name x p) (pe :: ps) [] pos) := by
  intro ρ S σ H Q a w
  subst hx
  refine eto (blt_call C.F hb hg (fun e => C.F.gcd (hgc e)) hn (ra X (pe :: ps))) ?_
  refine RA.mono (h ρ S σ H _ a w) fun vs H1 ⟨ds, S1, st, c, rd, q⟩ => ?_
  intro pins s σ' us I rv
  exact wpAny_mono (blt_snd C.F hb c rd q pins s σ' us I rv) (fun u s' ⟨v, H', I', r, o⟩ => ⟨v, H', I', r, o.from st⟩) fun _ _ x => x
/-- a class as a value -/
def clsB (n : String) : Bool := btys.contains n
theorem bty_boot {n : String} (h : n ∈ btys) : bootBuiltins (Str.ofString n) = some (.type n) := by
  obtain ⟨_, b4, b5, b6, b7⟩ := boots
  obtain ⟨c1, c2, c3, _⟩ := boots2
  simp only [btys, List.mem_cons, List.not_mem_nil, or_false] at h
  rcases h with rfl | rfl | rfl | rfl | rfl | rfl | rfl <;> assumption
theorem btys_names : ∀ n, n ∈ btys → n ∈ bltNames := by decide
theorem snd_clsB (C : Ctx T cl k X S0 H0 Xe) {n : String} {x : Str} (hx : x = Str.ofString n) (hn : n ∈ btys) (hg : glB X.env.scope x = true) : SndE T cl X S0 H0 Xe (.cls n) (.Name x p) := by
  intro ρ S σ H Q a w
  subst hx
  obtain ⟨g1, g2⟩ := glB_ok hg
  have w' : Q (.ty n) S := w
  exact eto (pe_bltn (v := .ty n) g1 (C.F.blt n (btys_names n hn)) (bty_boot hn) rfl (names_ok n (btys_names n hn)) g2) (.pure a.cp (.tyB n hn) w')
end
end Py

set_option Elab.async false
set_option linter.all false
set_option maxRecDepth 100000
/-! Snd11: the checker. -/
namespace Py
open PySem PySem.Spec PyProof.Rows L2

def popB : Bop → Operator → Bool
  | .add, .Add => true | .sub, .Sub => true | .mul, .Mult => true | .fdiv, .FloorDiv => true | .mod, .Mod => true | .pow, .Pow => true | _, _ => false
theorem popB_ok {o : Bop} {op : Operator} (h : popB o op = true) : op = popOf o := by cases o <;> cases op <;> first | rfl | cases h
def copB : Cop → CmpOp → Bool
  | .lt, .Lt => true | .le, .LtE => true | .gt, .Gt => true | .ge, .GtE => true | .eq, .Eq => true | .ne, .NotEq => true | .isin, .In => true | .notin, .NotIn => true | _, _ => false
theorem copB_ok {o : Cop} {op : CmpOp} (h : copB o op = true) : op = copOf o := by cases o <;> cases op <;> first | rfl | cases h


mutual
def tE : Ex → Bool
  | .and es => tEs es
  | .or es => tEs es
  | .not a => tE a
  | .ite _ _ _ => false
  | _ => true
def tEs : Exs → Bool
  | .nil => true
  | .cons e es => tE e && tEs es
end

/-- a comprehension's own names -/
def ownOf (N : List Str) (t : Tg) : List (Str × Nat) := (tgs t).map fun i => (N[i]?.getD Str.empty, i)
theorem ownOf_map (N : List Str) (t : Tg) : (ownOf N t).map (·.2) = tgs t := by
  unfold ownOf
  rw [List.map_map]
  exact List.map_id _
def blkC (N : List Str) (sc scope : Scope) (t : Tg) : Bool :=
  (scope.kind == .function) && (scope.names.all fun y => scope.names.lookup y.1 == some y.2) && ((tgs t).all fun i => decide (i < N.length)) &&
  (scope.names.all fun y => !(y.2 == .free) || (sc.names.lookup y.1 == some .cell) || (sc.names.lookup y.1 == some .free)) &&
  (scope.names.all fun y => !((y.2 == .local) || (y.2 == .cell)) || ((ownOf N t).map (·.1)).contains y.1 || !(N.contains y.1))
theorem blkC_ok {N : List Str} {sc scope : Scope} {t : Tg} (h : blkC N sc scope t = true) : BlkOk N sc scope (ownOf N t) := by
  unfold blkC at h
  simp only [Bool.and_eq_true, List.all_eq_true, beq_iff_eq, Bool.or_eq_true, Bool.not_eq_true', decide_eq_true_eq] at h
  obtain ⟨⟨⟨⟨h1, h2⟩, h3⟩, h4⟩, h5⟩ := h
  refine ⟨h1, h2, ?_, ?_, ?_⟩
  · intro p hp
    unfold ownOf at hp
    obtain ⟨i, hi, rfl⟩ := List.mem_map.mp hp
    have := h3 i hi
    simp [this]
  · intro y hy e
    rcases h4 y hy with (h | h) | h
    · rw [e] at h; cases h
    · exact .inl h
    · exact .inr h
  · intro y hy e
    rcases h5 y hy with (h | h) | h
    · rcases e with e | e <;> (rw [e] at h; cases h)
    · exact .inl (by simpa using h)
    · exact .inr (by simpa using h)

section
variable (T : Tab) (k : Nat) (N : List Str)
mutual
def chkE : Ex → Scope → Expr → Bool
  | .var i, sc, pe => match pe with | .Name x _ => varB N sc i x | _ => false
  | .cst c, _, pe => match pe with | .Constant kc _ _ => cstB c kc | _ => false
  | .glb i, sc, pe => match pe with | .Name y _ => (match T.gl i with | some x => (y == Str.ofString x) && glB sc y | none => false) | _ => false
  | .cls n, sc, pe => match pe with | .Name y _ => btys.contains n && (y == Str.ofString n) && glB sc y | _ => false
  | .neg a, sc, pe => match pe with | .UnaryOp .USub pa _ => chkE a sc pa | _ => false
  | .bin o a b, sc, pe => match pe with | .BinOp pa op pb _ => popB o op && chkE a sc pa && chkE b sc pb | _ => false
  | .cmp o a b, sc, pe => match pe with | .Compare pa [op] [pb] _ => copB o op && !behindInMarks op pb && chkE a sc pa && chkE b sc pb | _ => false
  | .chn o p a b c, sc, pe => match pe with | .Compare pa [op, pp] [pb, pc] _ => copB o op && copB p pp && !behindInMarks pp pc && chkE a sc pa && chkE b sc pb && chkE c sc pc | _ => false
  | .isN a, sc, pe => match pe with | .Compare pa [.Is] [.Constant .none _ _] _ => chkE a sc pa | _ => false
  | .noN a, sc, pe => match pe with | .Compare pa [.IsNot] [.Constant .none _ _] _ => chkE a sc pa | _ => false
  | .and es, sc, pe => match pe with | .BoolOp .And ps _ => !ps.isEmpty && chkEs es sc ps | _ => false
  | .or es, sc, pe => match pe with | .BoolOp .Or ps _ => !ps.isEmpty && chkEs es sc ps | _ => false
  | .not a, sc, pe => match pe with | .UnaryOp .Not pa _ => chkE a sc pa | _ => false
  | .ite c a b, sc, pe => match pe with | .IfExp pc pa pb _ => tE c && chkE c sc pc && chkE a sc pa && chkE b sc pb | _ => false
  | .tup es, sc, pe => match pe with | .Tuple ps _ _ => notStars ps && chkEs es sc ps | _ => false
  | .lst _ es, sc, pe => match pe with | .List ps _ => notStars ps && chkEs es sc ps | _ => false
  | .idx a i, sc, pe => match pe with | .Subscript pa pi _ => notSlice pi && chkE a sc pa && chkE i sc pi | _ => false
  | .slc a lo hi, sc, pe => match pe with | .Subscript pa (.Slice pl ph none _) _ => chkE a sc pa && chkO lo sc pl && chkO hi sc ph | _ => false
  | .fld o f, sc, pe => match pe with | .Attribute po g _ => (g == Str.ofString f) && plainBase po && chkE o sc po | _ => false
  | .call i es, sc, pe => match pe with | .Call (.Name x _) ps [] _ => (match T.fn i with | some nm => decide (T.lev i ≤ k) && (x == Str.ofString nm) && glB sc x && notStars ps && chkEs es sc ps | none => false) | _ => false
  | .new c i es, sc, pe => match pe with | .Call (.Name x _) ps [] _ => (T.nw i == some c) && decide (T.lev i + 1 ≤ k) && (x == Str.ofString c) && glB sc x && notStars ps && chkEs es sc ps | _ => false
  | .meth o m t es, sc, pe => match pe with | .Call (.Attribute po g apos) ps [] pos => (g == Str.ofString m) && plainBase po && mtB T k m t && notStars ps && decide (ps.length < 30) && (apos.endLine == pos.line) && chkE o sc po && chkEs es sc ps | _ => false
  | .blt b _ es, sc, pe => match pe with | .Call (.Name x _) ps [] _ => !ps.isEmpty && (x == Str.ofString (bltName b)) && !decide (b = .lrange) && (!decide (b = .gcd) || T.gcd) && glB sc x && notStars ps && chkEs es sc ps | _ => false
  | .bme o b es, sc, pe => match pe with
    | .Call (.Attribute po g apos) ps [] pos => (g == Str.ofString (bmeName b)) && plainBase po && (apos.endLine == pos.line) && notStars ps && chkE o sc po && (match b with | .pop => ps.isEmpty | _ => ps.length == 1) && chkEs es sc ps
    | _ => false
  | .comp _ elt t it c, sc, pe => match pe with
    | .ListComp pelt [⟨ptg, piter, ifs, 0⟩] scope _ => blkC N sc scope t && tgB N (ownB scope) t ptg && notSet piter && chkI it sc piter && chkC c (relS scope sc) ifs && chkE elt (relS scope sc) pelt
    | _ => false
def chkEs : Exs → Scope → List Expr → Bool
  | .nil, _, ps => match ps with | [] => true | _ :: _ => false
  | .cons e es, sc, ps => match ps with | [] => false | p :: ps => chkE e sc p && chkEs es sc ps
def chkO : Opt → Scope → Option Expr → Bool
  | .no, _, o => match o with | none => true | some _ => false
  | .yes e, sc, o => match o with | none => false | some p => chkE e sc p
def chkC : Opt → Scope → List Expr → Bool
  | .no, _, o => match o with | [] => true | _ :: _ => false
  | .yes e, sc, o => match o with | [p] => tE e && chkE e sc p | _ => false
def chkI : It → Scope → Expr → Bool
  | .of e, sc, p => chkE e sc p
  | .rng1 a, sc, p => match p with | .Call (.Name x _) [pa] [] _ => (x == Str.ofString "range") && glB sc x && notStar pa && chkE a sc pa | _ => false
  | .rng2 a b, sc, p => match p with | .Call (.Name x _) [pa, pb] [] _ => (x == Str.ofString "range") && glB sc x && notStar pa && notStar pb && chkE a sc pa && chkE b sc pb | _ => false
  | .zip _ _, _, _ => false
  | .enm _, _, _ => false
end
mutual
def chkS (sc : Scope) : Py.St → Stmt → Bool
  | .asg i e, st => match st with | .Assign [.Name x _] pe _ => (N[i]? == some x) && locB sc x && (notComp pe || (match e with | .comp _ _ _ _ _ => true | _ => false)) && chkE T k N e sc pe | _ => false
  | .unp is e, st => match st with | .Assign [.Tuple es _ _] pe _ => namB N (locB sc) is es && notTuple pe && chkE T k N e sc pe | _ => false
  | .par _ _ _ _, _ => false
  | .fset o f e, st => match st with | .Assign [.Attribute po g _] pe _ => (g == Str.ofString f) && chkE T k N o sc po && chkE T k N e sc pe | _ => false
  | .iset o i e, st => match st with | .Assign [.Subscript po pi _] pe _ => notSlice pi && chkE T k N o sc po && chkE T k N i sc pi && chkE T k N e sc pe | _ => false
  | .aug i o e, st => match st with | .AugAssign (.Name x _) op pe _ => popB o op && (N[i]? == some x) && locB sc x && chkE T k N e sc pe | _ => false
  | .augF o f p e, st => match st with | .AugAssign (.Attribute po g _) .Add pe _ => decide (p = .add) && (g == Str.ofString f) && chkE T k N o sc po && chkE T k N e sc pe | _ => false
  | .exp e, st => match st with | .Expr pe _ => notComp pe && chkE T k N e sc pe | _ => false
  | .ret e, st => match st with | .Return (some pe) _ => chkE T k N e sc pe | _ => false
  | .retN, st => match st with | .Return none _ => true | _ => false
  | .ifs c a b, st => match st with | .If pc pa pb _ => tE c && chkE T k N c sc pc && chkSs sc a pa && chkSs sc b pb | _ => false
  | .for t it b, st => match st with | .For ptg piter pb [] _ => tgB N (locB sc) t ptg && notSet piter && chkI T k N it sc piter && chkSs sc b pb | _ => false
  | .whl c b, st => match st with | .While pc pb [] _ => tE c && chkE T k N c sc pc && chkSs sc b pb | _ => false
  | .brk, st => match st with | .Break _ => true | _ => false
  | .pass, st => match st with | .Pass _ => true | _ => false
  | .rai _, _ => false
  | .try _ _ _ _, _ => false
def chkSs (sc : Scope) : Sts → List Stmt → Bool
  | .nil, ps => match ps with | [] => true | _ :: _ => false
  | .cons s r, ps => match ps with | [] => false | p :: ps => chkS sc s p && chkSs sc r ps
end
end

theorem nox_takes {T : Tab} {cl : ClsT} {X : Cx} {S0 : Store} {H0 : Hp} : Takes X fun c d σ H => ∃ ρ S x, At X.K cl S0 H0 ρ S σ H ∧ XV X.K cl S H x c d ∧ NoX x ρ S := fun _ _ x => by
  obtain ⟨_, _, _, _, _, _, _, _, _, _, _, _, _, _, _, _, z⟩ := x
  obtain ⟨_, _, _, _, _, z⟩ := z
  exact z.elim
theorem Ctx.blk {T : Tab} {cl : ClsT} {k : Nat} {X : Cx} {S0 : Store} {H0 : Hp} {Xe : Exc → Py.Env → Store → Prop} (C : Ctx T cl k X S0 H0 Xe) (z : Addr → Prop) (s : Shared) (H1 : Hp) (scope : Scope) (D : Addr) (cs : List (Str × Addr)) (fp : List Addr) :
    Ctx T (cl.at z) k (X.blk s H1 scope (compEnvC scope cs D X.env) fp) S0 H0 NoX := ⟨(C.F.at z).blk s H1 scope _ fp, nox_takes (T := T)⟩
end Py

set_option Elab.async false
set_option linter.all false
set_option maxRecDepth 100000
/-! Snd12: what the checker passes is walked. -/
namespace Py
open PySem PySem.Spec PyProof.Rows L2

section
variable (T : Tab) (k : Nat) (N : List Str)
def GE (e : Ex) : Prop := ∀ sc pe, chkE T k N e sc pe = true → ∀ (cl : ClsT) (X : Cx) (S0 : Store) (H0 : Hp) (Xe : Exc → Py.Env → Store → Prop), Ctx T cl k X S0 H0 Xe → X.N = N → X.env.scope = sc →
  SndE T cl X S0 H0 Xe e pe ∧ (tE e = true → SndT T cl X S0 H0 Xe e pe)
def GEs (es : Exs) : Prop := ∀ sc ps, chkEs T k N es sc ps = true → ∀ (cl : ClsT) (X : Cx) (S0 : Store) (H0 : Hp) (Xe : Exc → Py.Env → Store → Prop), Ctx T cl k X S0 H0 Xe → X.N = N → X.env.scope = sc →
  (notStars ps = true → SndEs T cl X S0 H0 Xe es ps) ∧ (ps ≠ [] → ∀ o pos, SndBE T cl X S0 H0 Xe o es ps pos ∧ (tEs es = true → SndBT T cl X S0 H0 Xe o es ps pos)) ∧ ∀ e p, es = .cons e .nil → ps = [p] → SndE T cl X S0 H0 Xe e p
def GO (o : Opt) : Prop := ∀ sc p, chkO T k N o sc p = true → ∀ (cl : ClsT) (X : Cx) (S0 : Store) (H0 : Hp) (Xe : Exc → Py.Env → Store → Prop), Ctx T cl k X S0 H0 Xe → X.N = N → X.env.scope = sc → SndO T cl X S0 H0 Xe o p
def GC (o : Opt) : Prop := ∀ sc scope ps, chkC T k N o (relS scope sc) ps = true → ∀ (cl : ClsT) (X : Cx) (S0 : Store) (H0 : Hp) (Xe : Exc → Py.Env → Store → Prop), Ctx T cl k X S0 H0 Xe → X.N = N → X.env.scope = sc → ∃ tt, SndC T cl X S0 H0 scope o ps tt
def GI (it : Py.It) : Prop := ∀ sc tg p, chkI T k N it sc p = true → ∀ (cl : ClsT) (X : Cx) (S0 : Store) (H0 : Hp) (Xe : Exc → Py.Env → Store → Prop), Ctx T cl k X S0 H0 Xe → X.N = N → X.env.scope = sc → SndI T cl X S0 H0 Xe tg it p
end
section
variable {T : Tab} {k : Nat} {N : List Str}
/-- a plain reading is a test, too -/
theorem ofE {cl : ClsT} {X : Cx} {S0 : Store} {H0 : Hp} {Xe : Exc → Py.Env → Store → Prop} {e : Ex} {pe : Expr} (h : SndE T cl X S0 H0 Xe e pe) (hp : plainT pe = true) : SndE T cl X S0 H0 Xe e pe ∧ (tE e = true → SndT T cl X S0 H0 Xe e pe) := ⟨h, fun _ => snd_val h hp⟩
theorem ge_var {i : Nat} : GE T k N (.var i) := by
  intro sc pe h cl X S0 H0 Xe C hN hs
  subst hN; subst hs
  unfold chkE at h
  split at h
  · exact ofE (snd_var h) rfl
  · cases h
theorem ge_cst {c : Cst} : GE T k N (.cst c) := by
  intro sc pe h cl X S0 H0 Xe C hN hs
  unfold chkE at h
  split at h
  · exact ofE (snd_cst h) rfl
  · cases h
theorem ge_glb {i : Nat} : GE T k N (.glb i) := by
  intro sc pe h cl X S0 H0 Xe C hN hs
  subst hN; subst hs
  unfold chkE at h
  split at h
  · split at h
    · rename_i x hx
      simp only [Bool.and_eq_true, beq_iff_eq] at h
      exact ofE (snd_glb C hx h.1 h.2) rfl
    · cases h
  · cases h
theorem ge_cls {n : String} : GE T k N (.cls n) := by
  intro sc pe h cl X S0 H0 Xe C hN hs
  subst hN; subst hs
  unfold chkE at h
  split at h
  · simp only [Bool.and_eq_true, beq_iff_eq, List.contains_iff_mem] at h
    exact ofE (snd_clsB C h.1.2 h.1.1 h.2) rfl
  · cases h
theorem ge_neg {a : Ex} (ha : GE T k N a) : GE T k N (.neg a) := by
  intro sc pe h cl X S0 H0 Xe C hN hs
  unfold chkE at h
  split at h
  · exact ofE (snd_neg (ha _ _ h cl X S0 H0 Xe C hN hs).1) rfl
  · cases h
theorem ge_bin {o : Bop} {a b : Ex} (ha : GE T k N a) (hb : GE T k N b) : GE T k N (.bin o a b) := by
  intro sc pe h cl X S0 H0 Xe C hN hs
  unfold chkE at h
  split at h
  · simp only [Bool.and_eq_true] at h
    exact ofE (snd_bin (popB_ok h.1.1) (ha _ _ h.1.2 cl X S0 H0 Xe C hN hs).1 (hb _ _ h.2 cl X S0 H0 Xe C hN hs).1) rfl
  · cases h
theorem ge_cmp {o : Cop} {a b : Ex} (ha : GE T k N a) (hb : GE T k N b) : GE T k N (.cmp o a b) := by
  intro sc pe h cl X S0 H0 Xe C hN hs
  unfold chkE at h
  split at h
  · simp only [Bool.and_eq_true, Bool.not_eq_true'] at h
    exact ⟨(snd_cmp C (copB_ok h.1.1.1) h.1.1.2 (ha _ _ h.1.2 cl X S0 H0 Xe C hN hs).1 (hb _ _ h.2 cl X S0 H0 Xe C hN hs).1).1, fun _ => (snd_cmp C (copB_ok h.1.1.1) h.1.1.2 (ha _ _ h.1.2 cl X S0 H0 Xe C hN hs).1 (hb _ _ h.2 cl X S0 H0 Xe C hN hs).1).2⟩
  · cases h
theorem ge_chn {o p : Cop} {a b c : Ex} (ha : GE T k N a) (hb : GE T k N b) (hc : GE T k N c) : GE T k N (.chn o p a b c) := by
  intro sc pe h cl X S0 H0 Xe C hN hs
  unfold chkE at h
  split at h
  · simp only [Bool.and_eq_true, Bool.not_eq_true'] at h
    obtain ⟨⟨⟨⟨⟨h1, h2⟩, h3⟩, h4⟩, h5⟩, h6⟩ := h
    exact ⟨(snd_chn C (copB_ok h1) (copB_ok h2) h3 (ha _ _ h4 cl X S0 H0 Xe C hN hs).1 (hb _ _ h5 cl X S0 H0 Xe C hN hs).1 (hc _ _ h6 cl X S0 H0 Xe C hN hs).1).1,
      fun _ => (snd_chn C (copB_ok h1) (copB_ok h2) h3 (ha _ _ h4 cl X S0 H0 Xe C hN hs).1 (hb _ _ h5 cl X S0 H0 Xe C hN hs).1 (hc _ _ h6 cl X S0 H0 Xe C hN hs).1).2⟩
  · cases h
theorem ge_isN {a : Ex} (ha : GE T k N a) : GE T k N (.isN a) := by
  intro sc pe h cl X S0 H0 Xe C hN hs
  unfold chkE at h
  split at h
  · exact ⟨(snd_isN (ha _ _ h cl X S0 H0 Xe C hN hs).1).1, fun _ => (snd_isN (ha _ _ h cl X S0 H0 Xe C hN hs).1).2⟩
  · cases h
theorem ge_noN {a : Ex} (ha : GE T k N a) : GE T k N (.noN a) := by
  intro sc pe h cl X S0 H0 Xe C hN hs
  unfold chkE at h
  split at h
  · exact ⟨(snd_noN (ha _ _ h cl X S0 H0 Xe C hN hs).1).1, fun _ => (snd_noN (ha _ _ h cl X S0 H0 Xe C hN hs).1).2⟩
  · cases h
theorem ne_of_empty {α : Type} {l : List α} (h : l.isEmpty = false) : l ≠ [] := by rintro rfl; cases h
theorem ge_and {es : Exs} (he : GEs T k N es) : GE T k N (.and es) := by
  intro sc pe h cl X S0 H0 Xe C hN hs
  unfold chkE at h
  split at h
  · simp only [Bool.and_eq_true, Bool.not_eq_true'] at h
    have := (he _ _ h.2 cl X S0 H0 Xe C hN hs).2.1 (ne_of_empty h.1)
    exact ⟨fun ρ S σ H Q a w => (this .And _).1 ρ S σ H Q a w, fun ht ρ S σ H Q a w => tto (PW.pt (rw' X _)) ((this .And _).2 ht ρ S σ H Q a w)⟩
  · cases h
theorem ge_or {es : Exs} (he : GEs T k N es) : GE T k N (.or es) := by
  intro sc pe h cl X S0 H0 Xe C hN hs
  unfold chkE at h
  split at h
  · simp only [Bool.and_eq_true, Bool.not_eq_true'] at h
    have := (he _ _ h.2 cl X S0 H0 Xe C hN hs).2.1 (ne_of_empty h.1)
    exact ⟨fun ρ S σ H Q a w => (this .Or _).1 ρ S σ H Q a w, fun ht ρ S σ H Q a w => tto (PW.pt (rw' X _)) ((this .Or _).2 ht ρ S σ H Q a w)⟩
  · cases h
theorem ge_not {a : Ex} (ha : GE T k N a) : GE T k N (.not a) := by
  intro sc pe h cl X S0 H0 Xe C hN hs
  unfold chkE at h
  split at h
  · exact ⟨snd_not (ha _ _ h cl X S0 H0 Xe C hN hs).1, fun ht => snd_notT ((ha _ _ h cl X S0 H0 Xe C hN hs).2 ht)⟩
  · cases h
theorem ge_ite {c a b : Ex} (hc : GE T k N c) (ha : GE T k N a) (hb : GE T k N b) : GE T k N (.ite c a b) := by
  intro sc pe h cl X S0 H0 Xe C hN hs
  unfold chkE at h
  split at h
  · simp only [Bool.and_eq_true] at h
    exact ⟨snd_ite ((hc _ _ h.1.1.2 cl X S0 H0 Xe C hN hs).2 h.1.1.1) (ha _ _ h.1.2 cl X S0 H0 Xe C hN hs).1 (hb _ _ h.2 cl X S0 H0 Xe C hN hs).1, fun z => by cases z⟩
  · cases h
theorem ge_tup {es : Exs} (he : GEs T k N es) : GE T k N (.tup es) := by
  intro sc pe h cl X S0 H0 Xe C hN hs
  unfold chkE at h
  split at h
  · simp only [Bool.and_eq_true] at h
    exact ofE (snd_tup ((he _ _ h.2 cl X S0 H0 Xe C hN hs).1 h.1)) rfl
  · cases h
theorem ge_lst {m : Bool} {es : Exs} (he : GEs T k N es) : GE T k N (.lst m es) := by
  intro sc pe h cl X S0 H0 Xe C hN hs
  unfold chkE at h
  split at h
  · simp only [Bool.and_eq_true] at h
    exact ofE (snd_lst ((he _ _ h.2 cl X S0 H0 Xe C hN hs).1 h.1)) rfl
  · cases h
theorem ge_idx {a b : Ex} (ha : GE T k N a) (hb : GE T k N b) : GE T k N (.idx a b) := by
  intro sc pe h cl X S0 H0 Xe C hN hs
  unfold chkE at h
  split at h
  · simp only [Bool.and_eq_true] at h
    exact ofE (snd_idx h.1.1 (ha _ _ h.1.2 cl X S0 H0 Xe C hN hs).1 (hb _ _ h.2 cl X S0 H0 Xe C hN hs).1) rfl
  · cases h
theorem ge_slc {a : Ex} {l r : Opt} (ha : GE T k N a) (hl : GO T k N l) (hr : GO T k N r) : GE T k N (.slc a l r) := by
  intro sc pe h cl X S0 H0 Xe C hN hs
  unfold chkE at h
  split at h
  · simp only [Bool.and_eq_true] at h
    exact ofE (snd_slc (ha _ _ h.1.1 cl X S0 H0 Xe C hN hs).1 (hl _ _ h.1.2 cl X S0 H0 Xe C hN hs) (hr _ _ h.2 cl X S0 H0 Xe C hN hs)) rfl
  · cases h
theorem ge_fld {a : Ex} {f : String} (ha : GE T k N a) : GE T k N (.fld a f) := by
  intro sc pe h cl X S0 H0 Xe C hN hs
  unfold chkE at h
  split at h
  · simp only [Bool.and_eq_true, beq_iff_eq] at h
    exact ofE (snd_fld C h.1.1 h.1.2 (ha _ _ h.2 cl X S0 H0 Xe C hN hs).1) rfl
  · cases h
theorem len_of {es : Exs} {ps : List Expr} {sc : Scope} (h : chkEs T k N es sc ps = true) : (ps = [] ∧ es = .nil) ∨ ∃ p q e r, ps = p :: q ∧ es = .cons e r := by
  cases es with
  | nil =>
    unfold chkEs at h
    split at h
    · exact .inl ⟨rfl, rfl⟩
    · cases h
  | cons e es =>
    unfold chkEs at h
    split at h
    · cases h
    · exact .inr ⟨_, _, _, _, rfl, rfl⟩
theorem ge_call {i : Nat} {es : Exs} (he : GEs T k N es) : GE T k N (.call i es) := by
  intro sc pe h cl X S0 H0 Xe C hN hs
  unfold chkE at h
  split at h
  · split at h
    · rename_i nm hi
      simp only [Bool.and_eq_true, beq_iff_eq, decide_eq_true_eq] at h
      obtain ⟨⟨⟨⟨h1, h2⟩, h3⟩, h4⟩, h5⟩ := h
      have q := (he _ _ h5 cl X S0 H0 Xe C hN hs).1 h4
      rw [← hs] at h3
      rcases len_of h5 with ⟨rfl, rfl⟩ | ⟨p, r, e, es', rfl, rfl⟩
      · exact ofE (snd_call0 C hi h1 h2 h3) rfl
      · exact ofE (snd_call C hi h1 h2 h3 h4 q) rfl
    · cases h
  · cases h
theorem ge_new {c : String} {i : Nat} {es : Exs} (he : GEs T k N es) : GE T k N (.new c i es) := by
  intro sc pe h cl X S0 H0 Xe C hN hs
  unfold chkE at h
  split at h
  · simp only [Bool.and_eq_true, beq_iff_eq, decide_eq_true_eq] at h
    obtain ⟨⟨⟨⟨⟨h0, h1⟩, h2⟩, h3⟩, h4⟩, h5⟩ := h
    have q := (he _ _ h5 cl X S0 H0 Xe C hN hs).1 h4
    rw [← hs] at h3
    rcases len_of h5 with ⟨rfl, rfl⟩ | ⟨p, r, e, es', rfl, rfl⟩
    · exact ofE (snd_new0 C h0 h1 h2 h3) rfl
    · exact ofE (snd_new C h0 h1 h2 h3 h4 q) rfl
  · cases h
theorem ge_meth {o : Ex} {m : String} {t : List (String × Nat)} {es : Exs} (ho : GE T k N o) (he : GEs T k N es) : GE T k N (.meth o m t es) := by
  intro sc pe h cl X S0 H0 Xe C hN hs
  unfold chkE at h
  split at h
  · simp only [Bool.and_eq_true, beq_iff_eq, decide_eq_true_eq] at h
    obtain ⟨⟨⟨⟨⟨⟨⟨h0, h1⟩, h2⟩, h3⟩, h4⟩, h6⟩, h7⟩, h5⟩ := h
    have q := (he _ _ h5 cl X S0 H0 Xe C hN hs).1 h3
    have q0 := (ho _ _ h7 cl X S0 H0 Xe C hN hs).1
    rcases len_of h5 with ⟨rfl, rfl⟩ | ⟨p, r, e, es', rfl, rfl⟩
    · exact ofE (snd_meth0 C h0 h1 h2 (by simpa using h6) q0) rfl
    · exact ofE (snd_meth C h0 h1 h2 h3 h4 (by simpa using h6) q0 q) rfl
  · cases h
theorem ge_blt {b : Blt} {m : Bool} {es : Exs} (he : GEs T k N es) : GE T k N (.blt b m es) := by
  intro sc pe h cl X S0 H0 Xe C hN hs
  unfold chkE at h
  split at h
  · simp only [Bool.and_eq_true, beq_iff_eq, decide_eq_true_eq, Bool.not_eq_true', Bool.or_eq_true, decide_eq_false_iff_not] at h
    obtain ⟨⟨⟨⟨⟨⟨h0, h1⟩, h2⟩, h3⟩, h4⟩, h6⟩, h5⟩ := h
    have q := (he _ _ h5 cl X S0 H0 Xe C hN hs).1 h6
    rw [← hs] at h4
    rcases len_of h5 with ⟨rfl, rfl⟩ | ⟨p, r, e, es', rfl, rfl⟩
    · cases h0
    · exact ofE (snd_blt C h1 h2 h4 (fun e => h3.resolve_left fun z => z e) h6 q) rfl
  · cases h
theorem ge_bme {o : Ex} {b : Bme} {es : Exs} (ho : GE T k N o) (he : GEs T k N es) : GE T k N (.bme o b es) := by
  intro sc pe h cl X S0 H0 Xe C hN hs
  unfold chkE at h
  split at h
  · rename_i po g apos ps pos
    simp only [Bool.and_eq_true, beq_iff_eq] at h
    obtain ⟨⟨⟨⟨⟨⟨h0, h1⟩, h2⟩, h3⟩, h4⟩, h6⟩, h5⟩ := h
    have q0 := (ho _ _ h4 cl X S0 H0 Xe C hN hs).1
    have hp := h2
    subst h0
    have hp : (apos.endLine == pos.line) = true := by simpa using h2
    have q := (he _ _ h5 cl X S0 H0 Xe C hN hs).2.2
    have one : (ps.length == 1) = true → ∃ e p, es = .cons e .nil ∧ ps = [p] ∧ SndE T cl X S0 H0 Xe e p ∧ notStar p = true := by
      intro hl
      rcases len_of h5 with ⟨rfl, rfl⟩ | ⟨p, r, e, es', rfl, rfl⟩
      · cases hl
      · have er : r = [] := by simpa using hl
        subst er
        have q5 := h5
        unfold chkEs at q5
        simp only [Bool.and_eq_true] at q5
        rcases len_of q5.2 with ⟨_, rfl⟩ | ⟨_, _, _, _, z, _⟩
        · exact ⟨e, p, rfl, rfl, q e p rfl rfl, by simpa [notStars] using h3⟩
        · cases z
    cases b with
    | pop =>
      have hz : ps = [] := by simpa using h6
      subst hz
      rcases len_of h5 with ⟨_, rfl⟩ | ⟨_, _, _, _, z, _⟩
      · exact ofE (snd_pop h1 hp q0) rfl
      · cases z
    | append =>
      obtain ⟨e, p, rfl, rfl, q1, n1⟩ := one h6
      exact ofE (snd_append h1 n1 hp q0 q1) rfl
    | extend =>
      obtain ⟨e, p, rfl, rfl, q1, n1⟩ := one h6
      exact ofE (snd_extend h1 n1 hp q0 q1) rfl
    | popAt =>
      obtain ⟨e, p, rfl, rfl, q1, n1⟩ := one h6
      exact ofE (snd_popAt h1 n1 hp q0 q1) rfl
  · cases h
theorem ge_comp {m : Bool} {elt : Ex} {t : Tg} {it : Py.It} {c : Opt} (he : GE T k N elt) (hi : GI T k N it) (hc : GC T k N c) : GE T k N (.comp m elt t it c) := by
  intro sc pe h cl X S0 H0 Xe C hN hs
  unfold chkE at h
  split at h
  · rename_i pelt ptg piter ifs scope pos
    simp only [Bool.and_eq_true] at h
    obtain ⟨⟨⟨⟨⟨h1, h2⟩, h3⟩, h4⟩, h5⟩, h6⟩ := h
    obtain ⟨tt, q⟩ := hc sc scope ifs h5 cl X S0 H0 Xe C hN hs
    rw [← hN] at h1 h2
    rw [← hs] at h1
    exact ofE (snd_compE C.F (hi _ ptg _ h4 cl X S0 H0 Xe C hN hs) (blkC_ok h1) (ownOf_map _ _) h2 q
      (fun z s H1 D cs fp => (he _ _ h6 (cl.at z) (X.blk s H1 scope (compEnvC scope cs D X.env) fp) S0 H0 NoX (C.blk z s H1 scope D cs fp) hN (by subst hs; rfl)).1) h3) rfl
  · cases h
theorem ges_nil : GEs T k N .nil := by
  intro sc ps h cl X S0 H0 Xe C hN hs
  unfold chkEs at h
  split at h
  · exact ⟨fun _ => snd_nil, fun z => absurd rfl z, fun e p z _ => by cases z⟩
  · cases h
theorem ges_cons {e : Ex} {es : Exs} (he : GE T k N e) (hr : GEs T k N es) : GEs T k N (.cons e es) := by
  intro sc ps h cl X S0 H0 Xe C hN hs
  unfold chkEs at h
  split at h
  · cases h
  · rename_i p ps
    simp only [Bool.and_eq_true] at h
    have q := he _ _ h.1 cl X S0 H0 Xe C hN hs
    have r := hr _ _ h.2 cl X S0 H0 Xe C hN hs
    refine ⟨fun hn => ?_, fun _ o pos => ?_, fun e' p' z1 z2 => ?_⟩
    · simp only [notStars, Bool.and_eq_true] at hn
      exact snd_cons hn.1 q.1 (r.1 hn.2)
    · rcases len_of h.2 with ⟨rfl, rfl⟩ | ⟨p2, r2, e2, es2, rfl, rfl⟩
      · refine ⟨snd_b1 q.1, fun ht => ?_⟩
        simp only [tEs, Bool.and_eq_true] at ht
        exact snd_b1T (q.2 ht.1)
      · have rr := r.2.1 (by simp) o pos
        refine ⟨snd_b2 q.1 rr.1, fun ht => ?_⟩
        have ht' : tE e = true ∧ tEs (.cons e2 es2) = true := by
          unfold tEs at ht
          simpa using ht
        exact snd_b2T (q.2 ht'.1) (rr.2 ht'.2)
    · cases z1
      cases z2
      exact q.1
theorem go_no : GO T k N .no := by
  intro sc p h cl X S0 H0 Xe C hN hs
  unfold chkO at h
  split at h
  · exact snd_no
  · cases h
theorem go_yes {e : Ex} (he : GE T k N e) : GO T k N (.yes e) := by
  intro sc p h cl X S0 H0 Xe C hN hs
  unfold chkO at h
  split at h
  · cases h
  · exact snd_yes (he _ _ h cl X S0 H0 Xe C hN hs).1
theorem gc_no : GC T k N .no := by
  intro sc scope ps h cl X S0 H0 Xe C hN hs
  unfold chkC at h
  split at h
  · exact ⟨_, snd_c0⟩
  · cases h
theorem gc_yes {e : Ex} (he : GE T k N e) : GC T k N (.yes e) := by
  intro sc scope ps h cl X S0 H0 Xe C hN hs
  unfold chkC at h
  split at h
  · simp only [Bool.and_eq_true] at h
    exact ⟨_, snd_c1 fun z s H1 D cs fp => (he _ _ h.2 (cl.at z) (X.blk s H1 scope (compEnvC scope cs D X.env) fp) S0 H0 NoX (C.blk z s H1 scope D cs fp) hN (by subst hs; rfl)).2 h.1⟩
  · cases h
theorem gi_of {e : Ex} (he : GE T k N e) : GI T k N (.of e) := by
  intro sc tg p h cl X S0 H0 Xe C hN hs
  unfold chkI at h
  exact snd_of (he _ _ h cl X S0 H0 Xe C hN hs).1
theorem gi_rng1 {e : Ex} (he : GE T k N e) : GI T k N (.rng1 e) := by
  intro sc tg p h cl X S0 H0 Xe C hN hs
  unfold chkI at h
  split at h
  · simp only [Bool.and_eq_true, beq_iff_eq] at h
    obtain ⟨⟨⟨rfl, h2⟩, h3⟩, h4⟩ := h
    rw [← hs] at h2
    exact snd_rng1 C h2 h3 (he _ _ h4 cl X S0 H0 Xe C hN hs).1
  · cases h
theorem gi_rng2 {e f : Ex} (he : GE T k N e) (hf : GE T k N f) : GI T k N (.rng2 e f) := by
  intro sc tg p h cl X S0 H0 Xe C hN hs
  unfold chkI at h
  split at h
  · simp only [Bool.and_eq_true, beq_iff_eq] at h
    obtain ⟨⟨⟨⟨⟨rfl, h2⟩, h3⟩, h4⟩, h5⟩, h6⟩ := h
    rw [← hs] at h2
    exact snd_rng2 C h2 h3 h4 (he _ _ h5 cl X S0 H0 Xe C hN hs).1 (hf _ _ h6 cl X S0 H0 Xe C hN hs).1
  · cases h
theorem gi_zip {e f : Ex} : GI T k N (.zip e f) := by
  intro sc tg p h
  cases h
theorem gi_enm {e : Ex} : GI T k N (.enm e) := by
  intro sc tg p h
  cases h
end
mutual
theorem all_e {T : Tab} {k : Nat} {N : List Str} : ∀ e : Ex, GE T k N e
  | .var _ => ge_var
  | .cst _ => ge_cst
  | .glb _ => ge_glb
  | .cls _ => ge_cls
  | .neg a => ge_neg (all_e a)
  | .bin _ a b => ge_bin (all_e a) (all_e b)
  | .cmp _ a b => ge_cmp (all_e a) (all_e b)
  | .chn _ _ a b c => ge_chn (all_e a) (all_e b) (all_e c)
  | .isN a => ge_isN (all_e a)
  | .noN a => ge_noN (all_e a)
  | .and es => ge_and (all_es es)
  | .or es => ge_or (all_es es)
  | .not a => ge_not (all_e a)
  | .ite c a b => ge_ite (all_e c) (all_e a) (all_e b)
  | .tup es => ge_tup (all_es es)
  | .lst _ es => ge_lst (all_es es)
  | .idx a i => ge_idx (all_e a) (all_e i)
  | .slc a l r => ge_slc (all_e a) (all_o l) (all_o r)
  | .fld a _ => ge_fld (all_e a)
  | .call _ es => ge_call (all_es es)
  | .new _ _ es => ge_new (all_es es)
  | .meth o _ _ es => ge_meth (all_e o) (all_es es)
  | .blt _ _ es => ge_blt (all_es es)
  | .bme o _ es => ge_bme (all_e o) (all_es es)
  | .comp _ elt _ it c => ge_comp (all_e elt) (all_i it) (all_c c)
theorem all_es {T : Tab} {k : Nat} {N : List Str} : ∀ e : Exs, GEs T k N e
  | .nil => ges_nil
  | .cons e es => ges_cons (all_e e) (all_es es)
theorem all_o {T : Tab} {k : Nat} {N : List Str} : ∀ e : Opt, GO T k N e
  | .no => go_no
  | .yes e => go_yes (all_e e)
theorem all_c {T : Tab} {k : Nat} {N : List Str} : ∀ e : Opt, GC T k N e
  | .no => gc_no
  | .yes e => gc_yes (all_e e)
theorem all_i {T : Tab} {k : Nat} {N : List Str} : ∀ e : Py.It, GI T k N e
  | .of e => gi_of (all_e e)
  | .rng1 e => gi_rng1 (all_e e)
  | .rng2 e f => gi_rng2 (all_e e) (all_e f)
  | .zip _ _ => gi_zip
  | .enm _ => gi_enm
end
end Py

set_option Elab.async false
set_option linter.all false
set_option maxRecDepth 100000
/-! Snd13: .. statements. -/
namespace Py
open PySem PySem.Spec PyProof.Rows L2

section
variable (T : Tab) (k : Nat) (N : List Str)
def GS (st : Py.St) : Prop := ∀ sc ps, chkS T k N sc st ps = true → ∀ (cl : ClsT) (X : Cx) (S0 : Store) (H0 : Hp) (Xe : Exc → Py.Env → Store → Prop), SCtx T cl k X S0 H0 Xe → X.N = N → X.env.scope = sc → SndS T cl X S0 H0 Xe st ps
def GSs (st : Sts) : Prop := ∀ sc ps, chkSs T k N sc st ps = true → ∀ (cl : ClsT) (X : Cx) (S0 : Store) (H0 : Hp) (Xe : Exc → Py.Env → Store → Prop), SCtx T cl k X S0 H0 Xe → X.N = N → X.env.scope = sc → SndSs T cl X S0 H0 Xe st ps
end
section
variable {T : Tab} {k : Nat} {N : List Str}
theorem gs_asg {i : Nat} {e : Ex} : GS T k N (.asg i e) := by
  intro sc ps h cl X S0 H0 Xe C hN hs
  unfold chkS at h
  split at h
  · rename_i x np pe pos
    simp only [Bool.and_eq_true, beq_iff_eq, Bool.or_eq_true] at h
    obtain ⟨⟨⟨h1, h2⟩, h3⟩, h4⟩ := h
    rw [← hN] at h1
    rw [← hs] at h2
    by_cases hc : notComp pe = true
    · exact snd_asg C h1 h2 hc (all_e e _ _ h4 cl X S0 H0 Xe C.toCtx hN hs).1
    · have h3' := h3.resolve_left hc
      split at h3'
      · rename_i m elt t it c
        unfold chkE at h4
        split at h4
        · rename_i pelt ptg piter ifs scope p2
          simp only [Bool.and_eq_true] at h4
          obtain ⟨⟨⟨⟨⟨g1, g2⟩, g3⟩, g4⟩, g5⟩, g6⟩ := h4
          obtain ⟨tt, q⟩ := all_c c sc scope ifs g5 cl X S0 H0 Xe C.toCtx hN hs
          rw [← hN] at g1 g2
          rw [← hs] at g1
          exact snd_asgC C h1 h2 (all_i it _ ptg _ g4 cl X S0 H0 Xe C.toCtx hN hs) (blkC_ok g1) (ownOf_map _ _) g2 q
            (fun z s H1 D cs fp => (all_e elt _ _ g6 (cl.at z) (X.blk s H1 scope (compEnvC scope cs D X.env) fp) S0 H0 NoX (C.toCtx.blk z s H1 scope D cs fp) hN (by subst hs; rfl)).1) g3
        · cases h4
      · cases h3'
  · cases h
theorem gs_unp {is : List Nat} {e : Ex} : GS T k N (.unp is e) := by
  intro sc ps h cl X S0 H0 Xe C hN hs
  unfold chkS at h
  split at h
  · simp only [Bool.and_eq_true] at h
    have h1 := h.1.1
    rw [← hN, ← hs] at h1
    exact snd_unp C h1 h.1.2 (all_e e _ _ h.2 cl X S0 H0 Xe C.toCtx hN hs).1
  · cases h
theorem gs_fset {o : Ex} {f : String} {e : Ex} : GS T k N (.fset o f e) := by
  intro sc ps h cl X S0 H0 Xe C hN hs
  unfold chkS at h
  split at h
  · simp only [Bool.and_eq_true, beq_iff_eq] at h
    exact snd_fset C h.1.1 (all_e o _ _ h.1.2 cl X S0 H0 Xe C.toCtx hN hs).1 (all_e e _ _ h.2 cl X S0 H0 Xe C.toCtx hN hs).1
  · cases h
theorem gs_iset {o i e : Ex} : GS T k N (.iset o i e) := by
  intro sc ps h cl X S0 H0 Xe C hN hs
  unfold chkS at h
  split at h
  · simp only [Bool.and_eq_true] at h
    exact snd_iset C h.1.1.1 (all_e o _ _ h.1.1.2 cl X S0 H0 Xe C.toCtx hN hs).1 (all_e i _ _ h.1.2 cl X S0 H0 Xe C.toCtx hN hs).1 (all_e e _ _ h.2 cl X S0 H0 Xe C.toCtx hN hs).1
  · cases h
theorem gs_aug {i : Nat} {o : Bop} {e : Ex} : GS T k N (.aug i o e) := by
  intro sc ps h cl X S0 H0 Xe C hN hs
  unfold chkS at h
  split at h
  · simp only [Bool.and_eq_true, beq_iff_eq] at h
    obtain ⟨⟨⟨h1, h2⟩, h3⟩, h4⟩ := h
    rw [← hN] at h2
    rw [← hs] at h3
    exact snd_aug C (popB_ok h1) h2 h3 (all_e e _ _ h4 cl X S0 H0 Xe C.toCtx hN hs).1
  · cases h
theorem gs_augF {o : Ex} {f : String} {p : Bop} {e : Ex} : GS T k N (.augF o f p e) := by
  intro sc ps h cl X S0 H0 Xe C hN hs
  unfold chkS at h
  split at h
  · simp only [Bool.and_eq_true, beq_iff_eq, decide_eq_true_eq] at h
    obtain ⟨⟨⟨h1, h2⟩, h3⟩, h4⟩ := h
    subst h1
    exact snd_augF C h2 (all_e o _ _ h3 cl X S0 H0 Xe C.toCtx hN hs).1 (all_e e _ _ h4 cl X S0 H0 Xe C.toCtx hN hs).1
  · cases h
theorem gs_exp {e : Ex} : GS T k N (.exp e) := by
  intro sc ps h cl X S0 H0 Xe C hN hs
  unfold chkS at h
  split at h
  · simp only [Bool.and_eq_true] at h
    exact snd_exp h.1 (all_e e _ _ h.2 cl X S0 H0 Xe C.toCtx hN hs).1
  · cases h
theorem gs_ret {e : Ex} : GS T k N (.ret e) := by
  intro sc ps h cl X S0 H0 Xe C hN hs
  unfold chkS at h
  split at h
  · exact snd_ret (all_e e _ _ h cl X S0 H0 Xe C.toCtx hN hs).1
  · cases h
theorem gs_retN : GS T k N .retN := by
  intro sc ps h cl X S0 H0 Xe C hN hs
  unfold chkS at h
  split at h
  · exact snd_retN
  · cases h
theorem gs_brk : GS T k N .brk := by
  intro sc ps h cl X S0 H0 Xe C hN hs
  unfold chkS at h
  split at h
  · exact snd_brk
  · cases h
theorem gs_pass : GS T k N .pass := by
  intro sc ps h cl X S0 H0 Xe C hN hs
  unfold chkS at h
  split at h
  · exact snd_pass
  · cases h
theorem gs_ifs {c : Ex} {a b : Sts} (ha : GSs T k N a) (hb : GSs T k N b) : GS T k N (.ifs c a b) := by
  intro sc ps h cl X S0 H0 Xe C hN hs
  unfold chkS at h
  split at h
  · simp only [Bool.and_eq_true] at h
    exact snd_ifs ((all_e c _ _ h.1.1.2 cl X S0 H0 Xe C.toCtx hN hs).2 h.1.1.1) (ha _ _ h.1.2 cl X S0 H0 Xe C hN hs) (hb _ _ h.2 cl X S0 H0 Xe C hN hs)
  · cases h
theorem gs_whl {c : Ex} {b : Sts} (hb : GSs T k N b) : GS T k N (.whl c b) := by
  intro sc ps h cl X S0 H0 Xe C hN hs
  unfold chkS at h
  split at h
  · simp only [Bool.and_eq_true] at h
    exact snd_whl C ((all_e c _ _ h.1.2 cl X S0 H0 Xe C.toCtx hN hs).2 h.1.1) (hb _ _ h.2 cl X S0 H0 Xe C hN hs)
  · cases h
theorem gs_for {t : Tg} {it : Py.It} {b : Sts} (hb : GSs T k N b) : GS T k N (.for t it b) := by
  intro sc ps h cl X S0 H0 Xe C hN hs
  unfold chkS at h
  split at h
  · rename_i ptg piter pb pos
    simp only [Bool.and_eq_true] at h
    obtain ⟨⟨⟨h1, h2⟩, h3⟩, h4⟩ := h
    rw [← hN, ← hs] at h1
    exact snd_for C (all_i it _ ptg _ h3 cl X S0 H0 Xe C.toCtx hN hs) h1 h2 (hb _ _ h4 cl X S0 H0 Xe C hN hs)
  · cases h
theorem gss_nil : GSs T k N .nil := by
  intro sc ps h cl X S0 H0 Xe C hN hs
  unfold chkSs at h
  split at h
  · exact snd_snil
  · cases h
theorem gss_cons {s : Py.St} {r : Sts} (h1 : GS T k N s) (h2 : GSs T k N r) : GSs T k N (.cons s r) := by
  intro sc ps h cl X S0 H0 Xe C hN hs
  unfold chkSs at h
  split at h
  · cases h
  · simp only [Bool.and_eq_true] at h
    exact snd_scons (h1 _ _ h.1 cl X S0 H0 Xe C hN hs) (h2 _ _ h.2 cl X S0 H0 Xe C hN hs)
end
mutual
theorem all_s {T : Tab} {k : Nat} {N : List Str} : ∀ s : Py.St, GS T k N s
  | .asg _ _ => gs_asg
  | .unp _ _ => gs_unp
  | .par _ _ _ _ => fun sc ps h => by cases h
  | .fset _ _ _ => gs_fset
  | .iset _ _ _ => gs_iset
  | .aug _ _ _ => gs_aug
  | .augF _ _ _ _ => gs_augF
  | .exp _ => gs_exp
  | .ret _ => gs_ret
  | .retN => gs_retN
  | .ifs _ a b => gs_ifs (all_ss a) (all_ss b)
  | .for _ _ b => gs_for (all_ss b)
  | .whl _ b => gs_whl (all_ss b)
  | .brk => gs_brk
  | .pass => gs_pass
  | .rai _ => fun sc ps h => by cases h
  | .try _ _ _ _ => fun sc ps h => by cases h
theorem all_ss {T : Tab} {k : Nat} {N : List Str} : ∀ s : Sts, GSs T k N s
  | .nil => gss_nil
  | .cons s r => gss_cons (all_s s) (all_ss r)
end
end Py

set_option Elab.async false
set_option linter.all false
set_option maxRecDepth 100000
/-! Snd14: a def; all defs of a text, by their levels. -/
namespace Py
open PySem PySem.Spec PyProof.Rows L2

section
variable {K : PySem.W.Frag} {cl : ClsT} {S S' : Store} {H : Hp}
theorem FrS.step (f : FrS S S') : Step S H S' H := fun a u h s => ⟨h, by
  cases e : S' a with
  | none => rfl
  | some o => obtain ⟨o1, h1, _⟩ := f a o e; rw [s] at h1; cases h1⟩
mutual
theorem Fr.dv (c : Cp K cl S H) (f : FrS S S') : ∀ {d e : D} {v : V}, Fr S S' d e → DV K cl S H d v → DV K cl S' H e v
  | _, _, _, .same d, h => h.step f.step
  | _, _, _, .tup r, h => by
    cases h with
    | tup q r' => exact .tup (q.step f.step) (FrL.dv c f r r')
  | _, _, _, .lst r, h => by
    cases h with
    | lst q r' => exact .lst (q.step f.step) (FrL.dv c f r r')
  | _, _, _, .frz (a := a) e1 e2 r, h => by
    cases h with
    | ref =>
      obtain ⟨xs, hx, rx⟩ := c.ob a _ e1
      exact .lst ⟨hx, e2, fun z => by rw [(c.zz a z).1] at e1; cases e1⟩ (FrL.dv c f r rx)
theorem FrL.dv (c : Cp K cl S H) (f : FrS S S') : ∀ {d e : List D} {v : List V}, FrL S S' d e → DVs K cl S H d v → DVs K cl S' H e v
  | _, _, _, .nil, h => by cases h; exact .nil
  | _, _, _, .cons r rs, h => by
    cases h with
    | cons h hs => exact .cons (Fr.dv c f r h) (FrL.dv c f rs hs)
end
theorem FrF.fv {C : Addr} (c : Cp K cl S H) (f : FrS S S') : ∀ {fs gs : List (String × D)} {vs : List (Str × V)}, FrF S S' fs gs → FV K cl C S H fs vs → FV K cl C S' H gs vs
  | _, _, _, .nil, h => by cases h; exact .nil
  | _, _, _, .cons r rs, h => by
    cases h with
    | cons h hs => exact .cons ⟨h.1, Fr.dv c f r h.2.1, h.2.2⟩ (FrF.fv c f rs hs)
theorem FrS.cp (c : Cp K cl S H) (f : FrS S S') : Cp K cl S' H := by
  refine ⟨fun a o e => ?_, fun a z => ?_⟩
  · obtain ⟨o1, h1, h2⟩ := f a o e
    have q := c.ob a o1 h1
    cases o1 with
    | lst ds =>
      cases o with
      | lst es => obtain ⟨xs, hx, rx⟩ := q; exact ⟨xs, hx, FrL.dv c f h2 rx⟩
      | ins c' gs => exact h2.elim
    | ins c0 fs =>
      cases o with
      | lst es => exact h2.elim
      | ins c' gs =>
        obtain ⟨rfl, h2⟩ := h2
        obtain ⟨C, dx, vs, k1, k2, k3⟩ := q
        exact ⟨C, dx, vs, k1, k2, FrF.fv c f h2 k3⟩
  · obtain ⟨z1, u, z2⟩ := c.zz a z
    exact ⟨(f.step a u z2 z1).2, u, z2⟩
end

/-- the text's facts but for the promises -/
structure Base (T : Tab) (cl : ClsT) (P : Program) (w : World) (K : PySem.W.Frag) (mg : Str → Option Value) (base : Heap) : Prop where
  cls : ∀ c C, cl.ins c = some C → Cls K C
  attr : ∀ c C f, cl.ins c = some C → T.C.fld c f = true → NoAttr K C (Str.ofString f)
  gl : ∀ i x, T.gl i = some x → ∃ v u, mg (Str.ofString x) = some u ∧ RelV v u ∧ ∀ z S H, DV K (cl.at z) S H (T.C.gl i) v
  blt : ∀ x, x ∈ bltNames → mg (Str.ofString x) = none
  gcd : T.gcd = true → mg (Str.ofString "gcd") = some (.builtin "math.gcd")
  dig : base.NoDigits
  val : ∀ n C, n ∉ btys → cl.val n = some C → mg (Str.ofString n) = some (.ref C)
/-- a def of the text: its names, its body, as a number's row -/
structure DRow where
  st : Stmt
  x : Str
  qual : Str
  N : List Str
  ps : List Str
  body : Sts
/-- .. where it stands behind the top -/
structure RowAt (T : Tab) (cl : ClsT) (K : PySem.W.Frag) (mg : Str → Option Value) (i : Nat) (r : DRow) (f : Addr) (fd : FuncData) : Prop where
  F : Fun K r.x r.qual r.st f fd
  B : Binds K fd r.ps []
  fn : ∀ x, T.fn i = some x → mg (Str.ofString x) = some (.ref f)
  mt : ∀ c m, T.mt i = some (c, m) → ∃ C, cl.ins c = some C ∧ Meth K C (Str.ofString m) f
  nw : ∀ c, T.nw i = some c → ∃ C, cl.ins c = some C ∧ mg (Str.ofString c) = some (.ref C) ∧ Mk K C f
/-- a look at a def's names -/
def scB (N P : List Str) (sc : Scope) : Bool :=
  (sc.kind == .function) && !sc.isCoroutine && !sc.isGenerator && decide N.Nodup && (N.take P.length == P) && (P.all fun x => (sc.names.lookup x == some .local) || (sc.names.lookup x == some .cell)) && sc.names.all fun y => !(y.2 == .free)
theorem scB_ok {N P : List Str} {sc : Scope} (h : scB N P sc = true) : FnScope N P sc := by
  unfold scB at h
  simp only [Bool.and_eq_true, Bool.not_eq_true', decide_eq_true_eq, List.all_eq_true, Bool.or_eq_true, beq_iff_eq, beq_eq_false_iff_ne] at h
  obtain ⟨⟨⟨⟨⟨⟨h1, h2⟩, h3⟩, h4⟩, h5⟩, h6⟩, h7⟩ := h
  exact ⟨h1, h2, h3, h4, h5, h6, h7⟩
/-- a look at a row -/
def rowB (T : Tab) (i : Nat) (r : DRow) : Bool := scB r.N r.ps (defScope r.st) && decide (1 ≤ T.lev i) && chkSs T (T.lev i - 1) r.N (defScope r.st) r.body (defBody r.st)

section
variable {T : Tab} {cl : ClsT} {P : Program} {w : World} {K : PySem.W.Frag} {mg : Str → Option Value} {base : Heap}
/-- every def up to a level keeps its promise -/
def UpTo (T : Tab) (cl : ClsT) (P : Program) (w : World) (K : PySem.W.Frag) (mg : Str → Option Value) (base : Heap) (rows : List DRow) (fa : Nat → Addr) (fdv : Nat → FuncData) (n : Nat) : Prop :=
  ∀ i r, rows[i]? = some r → T.lev i ≤ n → FnOk P w K mg base (L2.CX P w) (T.lev i) (fa i) (fdv i) r.ps (spV T cl K i)
theorem facts_of {rows : List DRow} {fa : Nat → Addr} {fdv : Nat → FuncData} {n k : Nat} {X : Cx} (B : Base T cl P w K mg base) (D : ∀ i r, rows[i]? = some r → RowAt T cl K mg i r (fa i) (fdv i))
    (hdom : ∀ i, (T.fn i).isSome = true ∨ (T.mt i).isSome = true ∨ (T.nw i).isSome = true → i < rows.length) (U : UpTo T cl P w K mg base rows fa fdv n) (hk : k ≤ n)
    (hP : X.prog = P) (hw : X.w = w) (hK : X.K = K) (hmg : X.mg = mg) (hb : X.base = base) (room : Room k X.A) (calm : X.calm = true) (nd : X.N.Nodup) : Facts T cl k X := by
  subst hP hw hK hmg hb
  have row : ∀ i, i < rows.length → ∃ r, rows[i]? = some r := fun i h => ⟨rows[i], by simp [h]⟩
  refine ⟨room, calm, nd, ?_, ?_, ?_, B.cls, B.attr, B.gl, B.blt, B.gcd, B.dig, B.val⟩
  · intro i x h hl
    obtain ⟨r, hr⟩ := row i (hdom i (.inl (by rw [h]; rfl)))
    have d := D i r hr
    exact ⟨fa i, fdv i, r.ps, d.fn x h, d.F.kp, d.B, U i r hr (Nat.le_trans hl hk)⟩
  · intro i c m h hl
    obtain ⟨r, hr⟩ := row i (hdom i (.inr (.inl (by rw [h]; rfl))))
    have d := D i r hr
    obtain ⟨C, h1, h2⟩ := d.mt c m h
    exact ⟨C, fa i, fdv i, r.ps, h1, h2, d.B, U i r hr (Nat.le_trans hl hk)⟩
  · intro i c h hl
    obtain ⟨r, hr⟩ := row i (hdom i (.inr (.inr (by rw [h]; rfl))))
    have d := D i r hr
    obtain ⟨C, h1, h2, h3⟩ := d.nw c h
    exact ⟨C, fa i, fdv i, r.ps, h1, h2, h3, d.B, U i r hr (Nat.le_trans (Nat.le_trans (Nat.le_succ _) hl) hk)⟩
/-- THE RULE for a def -/
theorem def_ok {i k : Nat} {r : DRow} {f : Addr} {fd : FuncData} (hl : T.lev i = k + 1) (D : RowAt T cl K mg i r f fd) (hrow : rowB T i r = true) (W : DefOk T.C (T.C.fn i) r.ps.length r.N.length r.body)
    (F : ∀ (X : Cx) (z : Addr → Prop), X.prog = P → X.w = w → X.K = K → X.mg = mg → X.base = base → Room k X.A → X.calm = true → X.N.Nodup → Facts T (cl.at z) k X) : FnOk P w K mg base (L2.CX P w) (T.lev i) f fd r.ps (spV T cl K i) := by
  unfold rowB at hrow
  simp only [Bool.and_eq_true, decide_eq_true_eq] at hrow
  obtain ⟨⟨h1, h2⟩, h3⟩ := hrow
  have S := scB_ok h1
  rw [hl]
  rw [hl, Nat.add_sub_cancel] at h3
  refine D.F.okX S (fun vs H Q E h => ?_) (fun cdv A outer s H vs Q E hr h => ?_)
  · obtain ⟨z, ds, S0, Qd, Ed, c, rd, q, _⟩ := h
    rw [← rd.length]
    exact (W ds S0 Qd Ed q).1
  · obtain ⟨z, ds, S0, Qd, Ed, c, rd, q, kq, kx⟩ := h
    obtain ⟨w1, w2⟩ := W ds S0 Qd Ed q
    refine ⟨_, rsts _ (defBody r.st), ?_⟩
    have C : SCtx T (cl.at z) k (cxOf (L2.CX P w) P w K mg base r.N r.qual (defScope r.st) f cdv A outer s H E) S0 H fun x _ S' => Ed x S' := by
      refine ⟨⟨F _ z rfl rfl rfl rfl rfl hr rfl S.nd, ?_⟩, passes_of rfl, fun _ => rfl, rfl, rfl⟩
      exact (takes_of rfl rfl rfl rfl).imp fun c d σ H' ⟨ρ, S', x, a, xv, e⟩ => kx x S' c d H' e a.st a.cp xv
    have at0 : At K (cl.at z) S0 H (ds.map some ++ List.replicate (r.N.length - r.ps.length) none) S0 (start r.N vs) H := ⟨.refl, c, by rw [← w1]; exact EnvR.start r.N rd⟩
    refine (all_ss (T := T) (k := k) (N := r.N) r.body (defScope r.st) (defBody r.st) h3 _ _ S0 H _ C rfl rfl _ S0 _ H (EndsOf Qd Ed) rfl at0 w2).imp ?_ ?_ ?_ ?_
    · rintro σ H' ⟨ρ, S', a, st, d', S2, f1, f2, q⟩
      have f1' : Fr S' S2 .non d' := f1
      cases f1'
      exact kq .non S2 .non H' q (a.st.trans f2.step) (FrS.cp a.cp f2) .non
    · rintro v H' ⟨d, S', st, c', r', d', S2, f1, f2, q⟩
      exact kq d' S2 v H' q (st.trans f2.step) (FrS.cp c' f2) (Fr.dv c' f2 f1 r')
    · rintro σ H' ⟨ρ, S', a, st, z⟩
      exact z.elim
    · exact fun _ _ z => z.elim
theorem all_defs {rows : List DRow} {fa : Nat → Addr} {fdv : Nat → FuncData} (B : Base T cl P w K mg base) (D : ∀ i r, rows[i]? = some r → RowAt T cl K mg i r (fa i) (fdv i))
    (hdom : ∀ i, (T.fn i).isSome = true ∨ (T.mt i).isSome = true ∨ (T.nw i).isSome = true → i < rows.length) (hrow : ∀ i r, rows[i]? = some r → rowB T i r = true)
    (W : ∀ i r, rows[i]? = some r → DefOk T.C (T.C.fn i) r.ps.length r.N.length r.body) : ∀ n, UpTo T cl P w K mg base rows fa fdv n := by
  intro n
  induction n with
  | zero =>
    intro i r hr hl
    have h := hrow i r hr
    unfold rowB at h
    simp only [Bool.and_eq_true, decide_eq_true_eq] at h
    omega
  | succ n ih =>
    intro i r hr hl
    by_cases hn : T.lev i ≤ n
    · exact ih i r hr hn
    · refine def_ok (k := n) (by omega) (D i r hr) (hrow i r hr) (W i r hr) fun X z hP hw hK hmg hb room calm nd => ?_
      exact (facts_of B D hdom ih (Nat.le_refl n) hP hw hK hmg hb room calm nd).at z
end
end Py

set_option Elab.async false
set_option linter.all false
set_option maxRecDepth 100000
/-! Snd15: the law's head. -/
namespace Py
open PySem PySem.Spec PyProof.Rows L2

section
variable {P : Program} {w : World} {K : PySem.W.Frag} {mg mb : Str → Option Value} {k : Nat} {fa a : Addr} {fd : FuncData} {x : Str} {sp : L2.Sp} {s₁ : Shared} {vs : List Value} {ns : List Int}
/-- the call from the ground, of a heap where at most the script is tracked -/
theorem ground_call {H : Hp} (KX : K.In s₁.heap) (hns : s₁.heap.Ns mainGlobals mg) (hb : s₁.heap.Ns builtinsNs mb) (hbb : ∀ x : Str, x ≠ "__name__" → mb x = bootBuiltins x) (hlim : s₁.heap.NoLimit) (hdig : s₁.heap.NoDigits) (hg : s₁.gens = #[])
    (hok : HOk P w H s₁.heap) (hfr : ∀ b u, H b = some u → K.lookup b = none ∧ ∃ o xs, u = .frz o (.lst xs)) (hnd : ∀ b u o es ep, H b = some u → s₁.heap.get? b = some o → o.data ≠ .dict es ep) (hr : Room k callerA)
    (F : ∀ base : Heap, K.In base → base.Ns mainGlobals mg → base.NoDigits → FnOk P w K mg base (L2.CX P w) k fa fd [x] sp) (hbind : ∀ (s : Shared) (u : Value), BindsTo s fd ⟨[u], []⟩ [(x, u)])
    (hsp : sp [.ref a] H (fun v _ => v = .bl true) fun _ _ _ => False) :
    codeAny (model P w) callerA (.call (.ref fa) ⟨[.ref a], []⟩) (fun r s' => r = .ok (.ret (.bool true)) ∧ OldK s₁.heap s'.heap ∧ s'.os = s₁.os ∧ AllBare s'.gens) s₁ := by
  have up : ∀ {b : Addr} {m : Str → Option Value}, s₁.heap.Ns b m → (hidT s₁.heap H).Ns b m := fun {b m} ⟨o, es, ep, e, d, r⟩ => by
    refine ⟨o, es, ep, hidT_get e ?_, d, r⟩
    cases q : H b with
    | none => rfl
    | some u => exact absurd d (hnd b u o es ep q e)
  have KB : K.In (hidT s₁.heap H) := fun b o e => hidT_get (KX b o e) (by
    cases q : H b with
    | none => rfl
    | some u => have z := (hfr b u q).1; rw [e] at z; cases z)
  have lim : (hidT s₁.heap H).NoLimit := let ⟨mc, h1, h2⟩ := hlim; ⟨mc, up h1, h2⟩
  have dig : (hidT s₁.heap H).NoDigits := let ⟨mc, h1, h2⟩ := hdig; ⟨mc, up h1, h2⟩
  have e0 : Env0 P w K mg (hidT s₁.heap H) callerA [] s₁ H :=
    ⟨rfl, ⟨KB, up hns, ⟨mb, up hb, hbb⟩, lim⟩, fun b o e => of_hidT e, Nat.le_of_eq (hidT_size _ _), trivial, fun b hb => (by cases hb), hok, .of_eq hg⟩
  have run := (F _ KB (up hns) dig).run callerA [] s₁ H ⟨[.ref a], []⟩ [.ref a] [.ref a] _ _ hr e0 (hbind s₁ (.ref a)) (.cons rfl .nil) hsp
  refine codeAny_mono run fun r s' h => ?_
  rcases r with e | f
  · obtain ⟨_, _, _, _, _, _, _, _, _, _, _, _, z⟩ := h
    exact z.elim
  · cases f with
    | ret u =>
      obtain ⟨v, H', os, bare, un, hok', r', q⟩ := h
      have q' : v = .bl true := q
      subst q'
      have e : u = Value.bool true := r'
      subst e
      refine ⟨rfl, OldK.of_keep fun b o e => ?_, os, bare⟩
      cases q : H b with
      | none => exact un.keep b o e q (fun z => by cases z) (fun z => by cases z)
      | some u =>
        obtain ⟨_, o1, xs, rfl⟩ := hfr b u q
        have h1 := (hok b _ q).1
        have h2 := (hok' b _ (un.frzs b o1 _ q)).1
        rw [e] at h1
        cases h1
        exact h2
    | next => exact h.elim
    | brk => exact h.elim
    | cont => exact h.elim
end
theorem fzr_of {K : PySem.W.Frag} {H : Hp} {a : Addr} {ns : List Int} (hO : ∀ b u, H b = some u → ∃ o xs, u = .frz o (.lst xs)) (h : SqL K H a (ns.map V.int)) : FzR K (fun _ => none) H a (ns.map V.int) := by
  rcases h with (h | h) | h
  · obtain ⟨o, xs, e⟩ := hO a _ h
    cases e
  · exact .inl ⟨h, rfl⟩
  · exact .inr h
/-- THE HEAD -/
theorem walk_rows {l : PySem.W.OpenLaw} {k i0 : Nat} {q : Program} {loose : List Str} {XP : (Str → Option Value) → Heap → Prop} {YP : World → Heap → Prop} {d : DefRec} {K : Params → PySem.W.Frag} {T : Tab} {x : Str}
    (hn : l.most = some 63) (hdf : d.params.defaults = []) (hr : Room k callerA) (hY : ∀ (w : World) (h : Heap), YP w h → (K w.params).In h)
    (F : ∀ (w : World) (mg : Str → Option Value) (fa : Addr) (h : Heap), (K w.params).In h → h.Ns mainGlobals mg → mg d.name = some (.ref fa) →
      ∃ (cl : ClsT) (fd : FuncData), (∀ (s : Shared) (u : Value), BindsTo s fd ⟨[u], []⟩ [(x, u)]) ∧ ∀ base : Heap, (K w.params).In base → base.Ns mainGlobals mg → base.NoDigits → FnOk l.prog w (K w.params) mg base (L2.CX l.prog w) k fa fd [x] (spV T cl (K w.params) i0))
    (hsp : ∀ ns : List Int, ns.length ≤ 63 → (∀ z ∈ ns, Builtin.Int.intBits z ≤ 1048576) → T.C.fn i0 [.scr ns] (fun _ => none) (fun d _ => d = .bl true) fun _ _ => False) :
    PySem.W.WalkO q loose XP YP l.row.toRowW d [] (fun f vs => PySem.call f vs) := by
  refine Att.attach_callB hn hdf fun w s₀ s₁ mg mb fa o pm cd doc a vs ns G Y ho hd hcd hmg hobj hints hlen hbits hg => ?_
  have KX := hY w _ Y
  obtain ⟨cl, fd, hb, hF⟩ := F w mg fa _ KX G.T.g hmg
  have rv : Vals (ns.map V.int) vs := vals_ints hints
  have promise : ∀ H : Hp, (∀ b u, H b = some u → ∃ o xs, u = .frz o (.lst xs)) → SqL (K w.params) H a (ns.map V.int) → spV T cl (K w.params) i0 [.ref a] H (fun v _ => v = .bl true) fun _ _ _ => False := by
    intro H hO hS
    refine ⟨fun _ => False, [.scr ns], fun _ => none, fun d _ => d = .bl true, fun _ _ => False, ⟨fun b o e => (by cases e), fun b z => z.elim⟩, .cons (.scr (fzr_of hO hS)) .nil, hsp ns hlen hbits, ?_, fun x S' c d H' z => z.elim⟩
    intro d S' v H' e _ _ r
    subst e
    cases r
    rfl
  cases hk : (K w.params).lookup a with
  | some o =>
    have e := KX a o hk
    rw [hobj] at e
    cases e
    refine ground_call (H := fun _ => none) KX G.T.g G.T.b G.T.builtins G.T.nolimit G.T.nodigits hg (fun b u z => by cases z) (fun b u z => by cases z) (fun b u o es ep z => by cases z) hr hF hb (promise _ (fun b u z => by cases z) ?_)
    exact .inr ⟨_, vs.toArray, _, hk, rfl, rfl, rfl, by rw [List.size_toArray, hints.length]; exact Nat.le_trans hlen (by decide), by simpa using rv⟩
  | none =>
    have one : ∀ b u, (if b = a then some (HO.frz { cls := .type "list", data := .seq vs.toArray } (.lst (ns.map V.int))) else none) = some u → b = a ∧ u = .frz { cls := .type "list", data := .seq vs.toArray } (.lst (ns.map V.int)) := by
      intro b u z
      by_cases hb : b = a
      · rw [if_pos hb] at z
        cases z
        exact ⟨hb, rfl⟩
      · rw [if_neg hb] at z
        cases z
    refine ground_call (H := fun b => if b = a then some (.frz { cls := .type "list", data := .seq vs.toArray } (.lst (ns.map V.int))) else none) KX G.T.g G.T.b G.T.builtins G.T.nolimit G.T.nodigits hg ?_ ?_ ?_ hr hF hb (promise _ ?_ ?_)
    · intro b u z
      obtain ⟨rfl, rfl⟩ := one b u z
      exact ⟨hobj, by rw [List.length_map]; exact Nat.le_trans hlen (by decide), vs, _, rv, hobj⟩
    · intro b u z
      obtain ⟨rfl, rfl⟩ := one b u z
      exact ⟨hk, _, _, rfl⟩
    · intro b u o es ep z e
      obtain ⟨rfl, rfl⟩ := one b u z
      rw [hobj] at e
      cases e
      intro z
      cases z
    · intro b u z
      obtain ⟨_, rfl⟩ := one b u z
      exact ⟨_, _, rfl⟩
    · exact .inl (.inr ⟨_, if_pos rfl⟩)
end Py

set_option Elab.async false
set_option linter.all false
set_option maxRecDepth 100000
namespace Py
/-! D0: working with the transformer. -/
section
variable {C : Cfg} {X : Exc → Env → Store → Prop} {ρ : Env} {S : Store} {Q : Post} {N : Ends}
theorem e_var {i : Nat} {d : D} (h : ρ[i]? = some (some d)) (q : Q d S) : wpE C X (.var i) ρ S Q := ⟨d, h, q⟩
theorem e_cst {c : Cst} (q : Q c.d S) : wpE C X (.cst c) ρ S Q := q
theorem e_int {i : Int} (q : Q (.int i) S) : wpE C X (.cst (.int i)) ρ S Q := q
theorem e_bl {i : Bool} (q : Q (.bl i) S) : wpE C X (.cst (.bl i)) ρ S Q := q
theorem e_non (q : Q .non S) : wpE C X (.cst .non) ρ S Q := q
theorem e_str {s : List Nat} (q : Q (.str s) S) : wpE C X (.cst (.str s)) ρ S Q := q
theorem e_glb {i : Nat} (q : Q (C.gl i) S) : wpE C X (.glb i) ρ S Q := q
theorem e_cls {n : String} (q : Q (.ty n) S) : wpE C X (.cls n) ρ S Q := q
theorem e_neg {a : Ex} (h : wpE C X a ρ S fun x S1 => ∃ i, x = .int i ∧ Q (.int (-i)) S1) : wpE C X (.neg a) ρ S Q := h
theorem k_neg {i : Int} (q : Q (.int (-i)) S) : ∃ j, D.int i = .int j ∧ Q (.int (-j)) S := ⟨i, rfl, q⟩
theorem e_bin {o : Bop} {a b : Ex} (h : wpE C X a ρ S fun x S1 => wpE C X b ρ S1 fun y S2 => binW o x y S2 Q) : wpE C X (.bin o a b) ρ S Q := h
theorem b_add {i j : Int} (q : Q (.int (i + j)) S) : binW .add (.int i) (.int j) S Q := q
theorem b_sub {i j : Int} (q : Q (.int (i - j)) S) : binW .sub (.int i) (.int j) S Q := q
theorem b_mul {i j : Int} (h : mulOk i j) (q : Q (.int (i * j)) S) : binW .mul (.int i) (.int j) S Q := ⟨h, q⟩
theorem b_fdiv {i j : Int} (h : divOk i j) (q : Q (.int (i.fdiv j)) S) : binW .fdiv (.int i) (.int j) S Q := ⟨h, q⟩
theorem b_mod {i j : Int} (h : j ≠ 0) (q : Q (.int (i.fmod j)) S) : binW .mod (.int i) (.int j) S Q := ⟨h, q⟩
theorem b_pow {i j : Int} (h : powOk i j) (q : Q (.int (i ^ j.toNat)) S) : binW .pow (.int i) (.int j) S Q := ⟨h, q⟩
theorem b_strs {s t : List Nat} (h : s.length + t.length ≤ lim) (q : Q (.str (s ++ t)) S) : binW .add (.str s) (.str t) S Q := ⟨h, q⟩
theorem b_tups {s t : List D} (h0 : s ≠ []) (h : s.length + t.length ≤ lim) (q : Q (.tup (s ++ t)) S) : binW .add (.tup s) (.tup t) S Q := ⟨h0, h, q⟩
theorem b_lsts {s t : List D} (h : s.length + t.length ≤ lim) (q : Q (.lst (s ++ t)) S) : binW .add (.lst s) (.lst t) S Q := ⟨s, t, rfl, rfl, h, q⟩
theorem e_cmp {o : Cop} {a b : Ex} (h : wpE C X a ρ S fun x S1 => wpE C X b ρ S1 fun y S2 => cmpW o x y S2 fun k => Q (.bl k) S2) : wpE C X (.cmp o a b) ρ S Q := h
theorem c_lt {i j : Int} {Q : Bool → Prop} (q : Q (decide (i < j))) : cmpW .lt (.int i) (.int j) S Q := ⟨i, j, rfl, rfl, q⟩
theorem c_le {i j : Int} {Q : Bool → Prop} (q : Q (decide (i ≤ j))) : cmpW .le (.int i) (.int j) S Q := ⟨i, j, rfl, rfl, q⟩
theorem c_gt {i j : Int} {Q : Bool → Prop} (q : Q (decide (j < i))) : cmpW .gt (.int i) (.int j) S Q := ⟨i, j, rfl, rfl, q⟩
theorem c_ge {i j : Int} {Q : Bool → Prop} (q : Q (decide (j ≤ i))) : cmpW .ge (.int i) (.int j) S Q := ⟨i, j, rfl, rfl, q⟩
theorem c_eqI {i j : Int} {Q : Bool → Prop} (q : Q (decide (i = j))) : cmpW .eq (.int i) (.int j) S Q := by
  refine ⟨.int i, .int j, ⟨rfl, rfl⟩, ⟨rfl, rfl⟩, ?_⟩
  show Q (i == j)
  rw [show (i == j) = decide (i = j) from rfl]; exact q
theorem c_neI {i j : Int} {Q : Bool → Prop} (q : Q (decide (¬ i = j))) : cmpW .ne (.int i) (.int j) S Q := by
  refine ⟨.int i, .int j, ⟨rfl, rfl⟩, ⟨rfl, rfl⟩, ?_⟩
  show Q (!(i == j))
  rw [show (!(i == j)) = decide (¬ i = j) by rw [show (i == j) = decide (i = j) from rfl]; simp]; exact q
theorem e_isN {a : Ex} (h : wpE C X a ρ S fun x S1 => Q (.bl (match x with | .non => true | _ => false)) S1) : wpE C X (.isN a) ρ S Q := h
theorem e_noN {a : Ex} (h : wpE C X a ρ S fun x S1 => Q (.bl (match x with | .non => false | _ => true)) S1) : wpE C X (.noN a) ρ S Q := h
theorem e_and {es : Exs} (h : wpAnd C X es ρ S Q) : wpE C X (.and es) ρ S Q := h
theorem e_or {es : Exs} (h : wpOr C X es ρ S Q) : wpE C X (.or es) ρ S Q := h
theorem and1 {e : Ex} (h : wpE C X e ρ S Q) : wpAnd C X (.cons e .nil) ρ S Q := h
theorem or1 {e : Ex} (h : wpE C X e ρ S Q) : wpOr C X (.cons e .nil) ρ S Q := h
theorem and2 {e f : Ex} {es : Exs} (h : wpE C X e ρ S fun x S1 => ∃ k, x = .bl k ∧ if k = true then wpAnd C X (.cons f es) ρ S1 Q else Q (.bl false) S1) : wpAnd C X (.cons e (.cons f es)) ρ S Q := h
theorem or2 {e f : Ex} {es : Exs} (h : wpE C X e ρ S fun x S1 => ∃ k, x = .bl k ∧ if k = true then Q (.bl true) S1 else wpOr C X (.cons f es) ρ S1 Q) : wpOr C X (.cons e (.cons f es)) ρ S Q := h
theorem e_not {a : Ex} (h : wpE C X a ρ S fun x S1 => ∃ k, x = .bl k ∧ Q (.bl (!k)) S1) : wpE C X (.not a) ρ S Q := h
theorem k_not {k : Bool} (q : Q (.bl (!k)) S) : ∃ j, D.bl k = .bl j ∧ Q (.bl (!j)) S := ⟨k, rfl, q⟩
theorem e_ite {c a b : Ex} (h : wpE C X c ρ S fun x S1 => ∃ k, x = .bl k ∧ if k = true then wpE C X a ρ S1 Q else wpE C X b ρ S1 Q) : wpE C X (.ite c a b) ρ S Q := h
theorem k_if {p A B : Prop} [Decidable p] (h1 : p → A) (h2 : ¬ p → B) : ∃ k, D.bl (decide p) = .bl k ∧ if k = true then A else B := ⟨_, rfl, by
  by_cases h : p
  · rw [if_pos (by simpa using h)]; exact h1 h
  · rw [if_neg (by simpa using h)]; exact h2 h⟩
theorem k_ifn {p A B : Prop} [Decidable p] (h1 : ¬ p → A) (h2 : p → B) : ∃ k, D.bl (!decide p) = .bl k ∧ if k = true then A else B := ⟨_, rfl, by
  by_cases h : p
  · rw [if_neg (by simpa using h)]; exact h2 h
  · rw [if_pos (by simpa using h)]; exact h1 h⟩
theorem k_ift {A B : Prop} (h : A) : ∃ k, D.bl true = .bl k ∧ if k = true then A else B := ⟨_, rfl, by rw [if_pos rfl]; exact h⟩
theorem k_iff {A B : Prop} (h : B) : ∃ k, D.bl false = .bl k ∧ if k = true then A else B := ⟨_, rfl, by rw [if_neg Bool.false_ne_true]; exact h⟩
theorem k_ifb {b : Bool} {A B : Prop} (h1 : b = true → A) (h2 : b = false → B) : ∃ k, D.bl b = .bl k ∧ if k = true then A else B := ⟨_, rfl, by
  cases b with
  | true => rw [if_pos rfl]; exact h1 rfl
  | false => rw [if_neg Bool.false_ne_true]; exact h2 rfl⟩
theorem e_tup {es : Exs} (h : wpEs C X es ρ S fun ds S1 => ds.length ≤ lim ∧ Q (.tup ds) S1) : wpE C X (.tup es) ρ S Q := h
theorem k_len {ds : List D} {A : Prop} (h : ds.length ≤ lim) (q : A) : ds.length ≤ lim ∧ A := ⟨h, q⟩
theorem e_lst {m : Bool} {es : Exs} (h : wpEs C X es ρ S fun ds S1 => newL m ds S1 Q) : wpE C X (.lst m es) ρ S Q := h
theorem l_fz {ds : List D} (h : ds.length ≤ lim) (q : Q (.lst ds) S) : newL false ds S Q := ⟨h, q⟩
theorem l_mt {ds : List D} (h : ds.length ≤ lim) (q : ∀ a, S a = none → Q (.ref a) (put S a (.lst ds))) : newL true ds S Q := ⟨h, q⟩
theorem es_nil {Q : List D → Store → Prop} (q : Q [] S) : wpEs C X .nil ρ S Q := q
theorem es_cons {e : Ex} {es : Exs} {Q : List D → Store → Prop} (h : wpE C X e ρ S fun d S1 => wpEs C X es ρ S1 fun ds S2 => Q (d :: ds) S2) : wpEs C X (.cons e es) ρ S Q := h
theorem e_idx {a i : Ex} (h : wpE C X a ρ S fun x S1 => wpE C X i ρ S1 fun y S2 => idxW x y S2 Q) : wpE C X (.idx a i) ρ S Q := h
theorem i_tup {xs : List D} {k : Int} {d : D} (h : atI xs k = some d) (q : Q d S) : idxW (.tup xs) (.int k) S Q := ⟨k, xs, d, rfl, rfl, h, q⟩
theorem i_lst {xs : List D} {k : Int} {d : D} (h : atI xs k = some d) (q : Q d S) : idxW (.lst xs) (.int k) S Q := ⟨k, xs, d, rfl, rfl, h, q⟩
theorem i_ref {a : Nat} {xs : List D} {k : Int} {d : D} (hS : S a = some (.lst xs)) (h : atI xs k = some d) (q : Q d S) : idxW (.ref a) (.int k) S Q := ⟨k, xs, d, rfl, by simp [itemsOf, hS], h, q⟩
theorem i_str {s : List Nat} {k : Int} {c : Nat} (hl : s.length ≤ lim) (h : atI s k = some c) (q : Q (.str [c]) S) : idxW (.str s) (.int k) S Q := ⟨k, c, rfl, hl, h, q⟩
theorem e_slc {a : Ex} {lo hi : Opt} (h : wpE C X a ρ S fun x S1 => wpO C X lo ρ S1 fun l S2 => wpO C X hi ρ S2 fun h S3 => slcW x l h S3 Q) : wpE C X (.slc a lo hi) ρ S Q := h
theorem o_no {Q : Option Int → Store → Prop} (q : Q none S) : wpO C X .no ρ S Q := q
theorem o_yes {e : Ex} {Q : Option Int → Store → Prop} (h : wpE C X e ρ S fun x S1 => ∃ i, x = .int i ∧ Q (some i) S1) : wpO C X (.yes e) ρ S Q := h
theorem k_int {i : Int} {Q : Int → Prop} (q : Q i) : ∃ j, D.int i = .int j ∧ Q j := ⟨i, rfl, q⟩
theorem e_fld {o : Ex} {f : String} (h : wpE C X o ρ S fun x S1 => fldW x f S1 Q) : wpE C X (.fld o f) ρ S Q := h
theorem f_ref {a : Nat} {c f : String} {fs : List (String × D)} {d : D} (hS : S a = some (.ins c fs)) (h : fs.lookup f = some d) (q : Q d S) : fldW (.ref a) f S Q := ⟨a, c, fs, d, rfl, hS, h, q⟩
theorem e_call {f : Nat} {es : Exs} (h : wpEs C X es ρ S fun ds S1 => C.fn f ds S1 Q fun x S2 => X x ρ S2) : wpE C X (.call f es) ρ S Q := h
theorem e_new {c : String} {f : Nat} {es : Exs} (h : wpEs C X es ρ S fun ds S1 => ∀ a, S1 a = none → C.fn f (.ref a :: ds) (put S1 a (.ins c [])) (fun d S2 => d = .non ∧ Q (.ref a) S2) fun x S2 => X x ρ S2) : wpE C X (.new c f es) ρ S Q := h
theorem e_meth {o : Ex} {m : String} {t : List (String × Nat)} {es : Exs} (h : wpE C X o ρ S fun x S1 => ∃ a c fs f, x = .ref a ∧ S1 a = some (.ins c fs) ∧ fs.lookup m = none ∧ t.lookup c = some f ∧
      wpEs C X es ρ S1 fun ds S2 => C.fn f (x :: ds) S2 Q fun x S3 => X x ρ S3) : wpE C X (.meth o m t es) ρ S Q := h
theorem e_blt {b : Blt} {m : Bool} {es : Exs} (h : wpEs C X es ρ S fun ds S1 => bltW b m ds S1 Q) : wpE C X (.blt b m es) ρ S Q := h
theorem e_bme {o : Ex} {b : Bme} {es : Exs} (h : wpE C X o ρ S fun x S1 => recvW b x S1 ∧ wpEs C X es ρ S1 fun ds S2 => bmeW b x ds S2 Q) : wpE C X (.bme o b es) ρ S Q := h
theorem t_lenT {m : Bool} {xs : List D} (q : Q (.int xs.length) S) : bltW .len m [.tup xs] S Q := ⟨_, rfl, xs, rfl, q⟩
theorem t_lenL {m : Bool} {xs : List D} (q : Q (.int xs.length) S) : bltW .len m [.lst xs] S Q := ⟨_, rfl, xs, rfl, q⟩
theorem t_lenR {m : Bool} {a : Nat} {xs : List D} (hS : S a = some (.lst xs)) (q : Q (.int xs.length) S) : bltW .len m [.ref a] S Q := ⟨_, rfl, xs, by simp [itemsOf, hS], q⟩
theorem t_lenS {m : Bool} {s : List Nat} (h : s.length ≤ lim) (q : Q (.int s.length) S) : bltW .len m [.str s] S Q := ⟨_, rfl, h, q⟩
theorem t_abs {m : Bool} {i : Int} (q : Q (.int (if i < 0 then -i else i)) S) : bltW .abs m [.int i] S Q := ⟨i, rfl, q⟩
theorem t_int {m : Bool} {i : Int} (q : Q (.int i) S) : bltW .int m [.int i] S Q := ⟨_, rfl, q⟩
theorem t_gcd {m : Bool} {i j : Int} (q : Q (.int ((Nat.gcd i.natAbs j.natAbs : Nat) : Int)) S) : bltW .gcd m [.int i, .int j] S Q := ⟨i, j, rfl, q⟩
theorem t_tupL {m : Bool} {xs : List D} (q : Q (.tup xs) S) : bltW .tuple m [.lst xs] S Q := ⟨_, xs, rfl, rfl, q⟩
theorem t_tupT {m : Bool} {xs : List D} (q : Q (.tup xs) S) : bltW .tuple m [.tup xs] S Q := ⟨_, xs, rfl, rfl, q⟩
theorem t_tupR {m : Bool} {a : Nat} {xs : List D} (hS : S a = some (.lst xs)) (q : Q (.tup xs) S) : bltW .tuple m [.ref a] S Q := ⟨_, xs, rfl, by simp [itemsOf, hS], q⟩
theorem t_lstL {m : Bool} {xs : List D} (q : newL m xs S Q) : bltW .list m [.lst xs] S Q := ⟨_, xs, rfl, rfl, q⟩
theorem t_lstT {m : Bool} {xs : List D} (q : newL m xs S Q) : bltW .list m [.tup xs] S Q := ⟨_, xs, rfl, rfl, q⟩
theorem t_lstR {m : Bool} {a : Nat} {xs : List D} (hS : S a = some (.lst xs)) (q : newL m xs S Q) : bltW .list m [.ref a] S Q := ⟨_, xs, rfl, by simp [itemsOf, hS], q⟩
theorem t_lstS {m : Bool} {ns : List Int} (q : newL m (ns.map .int) S Q) : bltW .list m [.scr ns] S Q := ⟨_, _, rfl, rfl, q⟩
theorem t_isi {m : Bool} {x : D} {t c : String} (h : clsOf S x = some c) (ht : t ∈ tys) (q : Q (.bl (subB c t)) S) : bltW .isinst m [x, .ty t] S Q := ⟨x, t, c, rfl, h, ht, q⟩
theorem t_isiT {m : Bool} {ds : List D} (q : Q (.bl true) S) : bltW .isinst m [.tup ds, .ty "tuple"] S Q := ⟨_, _, "tuple", rfl, rfl, by decide, q⟩
theorem t_isiI {m : Bool} {i : Int} (q : Q (.bl true) S) : bltW .isinst m [.int i, .ty "int"] S Q := ⟨_, _, "int", rfl, rfl, by decide, q⟩
theorem t_isiB {m : Bool} {i : Int} (q : Q (.bl false) S) : bltW .isinst m [.int i, .ty "bool"] S Q := ⟨_, _, "int", rfl, rfl, by decide, q⟩
theorem t_isiS {m : Bool} {s : List Nat} (q : Q (.bl true) S) : bltW .isinst m [.str s, .ty "str"] S Q := ⟨_, _, "str", rfl, rfl, by decide, q⟩
theorem k_bool {b : Bool} {Q : Bool → Prop} (q : Q b) : ∃ j, D.bl b = .bl j ∧ Q j := ⟨b, rfl, q⟩
theorem k_boolT {Q : Bool → Prop} (q : Q true) : ∃ j, D.bl true = .bl j ∧ Q j := ⟨true, rfl, q⟩
theorem k_boolF {Q : Bool → Prop} (q : Q false) : ∃ j, D.bl false = .bl j ∧ Q j := ⟨false, rfl, q⟩
theorem k_ifNT {A B : Prop} (h : B) : ∃ k, D.bl (!true) = .bl k ∧ if k = true then A else B := ⟨false, rfl, by rw [if_neg Bool.false_ne_true]; exact h⟩
theorem k_ifNF {A B : Prop} (h : A) : ∃ k, D.bl (!false) = .bl k ∧ if k = true then A else B := ⟨true, rfl, by rw [if_pos rfl]; exact h⟩
theorem m_app {a : Nat} {xs : List D} {d : D} (hS : S a = some (.lst xs)) (hl : xs.length < lim) (q : Q .non (put S a (.lst (xs ++ [d])))) : bmeW .append (.ref a) [d] S Q := ⟨a, xs, d, rfl, rfl, hS, hl, q⟩
theorem k_recv {b : Bme} {a : Nat} {xs : List D} {A : Prop} (hS : S a = some (.lst xs)) (q : A) : recvW b (.ref a) S ∧ A := ⟨⟨a, xs, rfl, hS⟩, q⟩

theorem ss_nil (q : N.nx ρ S) : wpSs C .nil N ρ S := q
theorem ss_cons {s : St} {r : Sts} (q : wpS C s { N with nx := fun ρ' S' => wpSs C r N ρ' S' } ρ S) : wpSs C (.cons s r) N ρ S := q
theorem s_asg {i : Nat} {e : Ex} (q : wpE C N.ex e ρ S fun d S1 => N.nx (ρ.set i (some d)) S1) : wpS C (.asg i e) N ρ S := q
theorem s_unp {is : List Nat} {e : Ex} (q : wpE C N.ex e ρ S fun d S1 => ∃ xs, itemsOf S1 d = some xs ∧ xs.length = is.length ∧ N.nx ((is.zip xs).foldl (fun r p => r.set p.1 (some p.2)) ρ) S1) : wpS C (.unp is e) N ρ S := q
theorem s_fset {o e : Ex} {f : String} (q : wpE C N.ex e ρ S fun d S1 => wpE C N.ex o ρ S1 fun x S2 => ∃ a c fs, x = .ref a ∧ S2 a = some (.ins c fs) ∧ C.fld c f = true ∧ fs.length < 900 ∧ N.nx ρ (put S2 a (.ins c (fput f d fs)))) : wpS C (.fset o f e) N ρ S := q
theorem k_fset {a : Nat} {c f : String} {fs : List (String × D)} {d : D} {K : Env → Store → Prop} (hS : S a = some (.ins c fs)) (h1 : C.fld c f = true) (h2 : fs.length < 900) (q : K ρ (put S a (.ins c (fput f d fs)))) :
    ∃ a' c fs, D.ref a = .ref a' ∧ S a' = some (.ins c fs) ∧ C.fld c f = true ∧ fs.length < 900 ∧ K ρ (put S a' (.ins c (fput f d fs))) := ⟨a, c, fs, rfl, hS, h1, h2, q⟩
theorem s_iset {o i e : Ex} (q : wpE C N.ex e ρ S fun d S1 => wpE C N.ex o ρ S1 fun x S2 => wpE C N.ex i ρ S2 fun y S3 =>
      ∃ a xs k j, x = .ref a ∧ S3 a = some (.lst xs) ∧ y = .int k ∧ ixN xs.length k = some j ∧ N.nx ρ (put S3 a (.lst (xs.set j d)))) : wpS C (.iset o i e) N ρ S := q
theorem k_iset {a : Nat} {xs : List D} {k : Int} {j : Nat} {d : D} {K : Env → Store → Prop} (hS : S a = some (.lst xs)) (h : ixN xs.length k = some j) (q : K ρ (put S a (.lst (xs.set j d)))) :
    ∃ a' xs k' j, D.ref a = .ref a' ∧ S a' = some (.lst xs) ∧ D.int k = .int k' ∧ ixN xs.length k' = some j ∧ K ρ (put S a' (.lst (xs.set j d))) := ⟨a, xs, k, j, rfl, hS, rfl, h, q⟩
theorem s_exp {e : Ex} (q : wpE C N.ex e ρ S fun _ S1 => N.nx ρ S1) : wpS C (.exp e) N ρ S := q
theorem s_ret {e : Ex} (q : wpE C N.ex e ρ S N.rt) : wpS C (.ret e) N ρ S := q
theorem s_ifs {c : Ex} {a b : Sts} (q : wpE C N.ex c ρ S fun x S1 => ∃ k, x = .bl k ∧ if k = true then wpSs C a N ρ S1 else wpSs C b N ρ S1) : wpS C (.ifs c a b) N ρ S := q
theorem s_for {t : Tg} {it : It} {b : Sts} (q : wpI C N.ex it ρ S fun ds st S1 => loopW ds st (fun d ρ S nx => bindW t d ρ fun ρ1 => wpSs C b { N with nx := nx, bk := N.nx } ρ1 S) ρ S1 N.nx) : wpS C (.for t it b) N ρ S := q
theorem range_get {lo : Int} {n i : Nat} {d : D} (h : (rangeL lo n)[i]? = some d) : i < n ∧ d = .int (lo + (i : Int)) := by
  unfold rangeL at h
  rw [List.getElem?_map] at h
  by_cases hi : i < n
  · rw [List.getElem?_range hi] at h
    cases h
    exact ⟨hi, rfl⟩
  · rw [List.getElem?_eq_none (by simpa using hi)] at h
    cases h
theorem range_len {lo : Int} {n : Nat} : (rangeL lo n).length = n := by simp [rangeL]
theorem loop_rng {n : Nat} {turn : D → Env → Store → (Env → Store → Prop) → Prop} {nx : Env → Store → Prop} (P : Nat → Env → Store → Prop) (h0 : P 0 ρ S) (hs : ∀ i ρ S, i < n → P i ρ S → turn (.int (i : Int)) ρ S (P (i + 1))) (he : ∀ ρ S, P n ρ S → nx ρ S) :
    loopW (rangeL 0 n) (fun _ => True) turn ρ S nx := by
  refine ⟨P, h0, fun _ _ _ _ _ => trivial, fun i d ρ S hd hP => ?_, fun ρ S h => he ρ S (by rwa [range_len] at h)⟩
  obtain ⟨h1, rfl⟩ := range_get hd
  rw [Int.zero_add]
  exact hs i ρ S h1 hP
theorem loop_lst {ds : List D} {turn : D → Env → Store → (Env → Store → Prop) → Prop} {nx : Env → Store → Prop} (P : Nat → Env → Store → Prop) (h0 : P 0 ρ S) (hs : ∀ i d ρ S, ds[i]? = some d → P i ρ S → turn d ρ S (P (i + 1))) (he : ∀ ρ S, P ds.length ρ S → nx ρ S) :
    loopW ds (fun _ => True) turn ρ S nx := ⟨P, h0, fun _ _ _ _ _ => trivial, hs, he⟩
theorem w_rng1 {a : Ex} {K : List D → (Store → Prop) → Store → Prop} (h : wpE C X a ρ S fun x S1 => ∃ j : Int, x = .int j ∧ -(2 ^ 62) ≤ j ∧ j < 2 ^ 62 ∧ K (rangeL 0 j.toNat) (fun _ => True) S1) : wpI C X (.rng1 a) ρ S K := h
theorem w_rng2 {a b : Ex} {K : List D → (Store → Prop) → Store → Prop} (h : wpE C X a ρ S fun x S1 => wpE C X b ρ S1 fun y S2 =>
      ∃ i j : Int, x = .int i ∧ y = .int j ∧ (-(2 ^ 62) ≤ i ∧ i < 2 ^ 62 ∧ -(2 ^ 62) ≤ j ∧ j < 2 ^ 62) ∧ K (rangeL i (j - i).toNat) (fun _ => True) S2) : wpI C X (.rng2 a b) ρ S K := h
theorem k_rng1 {j : Int} {K : List D → (Store → Prop) → Store → Prop} (h1 : -(2 ^ 62) ≤ j) (h2 : j < 2 ^ 62) (q : K (rangeL 0 j.toNat) (fun _ => True) S) : ∃ j' : Int, D.int j = .int j' ∧ -(2 ^ 62) ≤ j' ∧ j' < 2 ^ 62 ∧ K (rangeL 0 j'.toNat) (fun _ => True) S := ⟨j, rfl, h1, h2, q⟩
theorem w_of {e : Ex} {K : List D → (Store → Prop) → Store → Prop} (h : wpE C X e ρ S fun x S1 => walkOf S1 x fun ds st => K ds st S1) : wpI C X (.of e) ρ S K := h
theorem v_tup {ds : List D} {K : List D → (Store → Prop) → Prop} (q : K ds fun _ => True) : walkOf S (.tup ds) K := q
theorem v_lst {ds : List D} {K : List D → (Store → Prop) → Prop} (q : K ds fun _ => True) : walkOf S (.lst ds) K := q
theorem v_str {s : List Nat} {K : List D → (Store → Prop) → Prop} (q : K (s.map fun c => .str [c]) fun _ => True) : walkOf S (.str s) K := q
theorem v_ref {a : Nat} {ds : List D} {K : List D → (Store → Prop) → Prop} (hS : S a = some (.lst ds)) (q : K ds fun S' => S' a = some (.lst ds)) : walkOf S (.ref a) K := ⟨ds, hS, q⟩
/-- what a comprehension wants -/
def compW (C : Cfg) (ds : List D) (st : Store → Prop) (tg : Tg) (c : Opt) (elt : Ex) (ρ : Env) (S1 : Store) (Q : List D → Store → Prop) : Prop :=
  ∃ P : Nat → List D → Store → Prop, P 0 [] S1 ∧ (∀ i acc S, i ≤ ds.length → P i acc S → st S) ∧
        (∀ i d acc S, ds[i]? = some d → P i acc S → acc.length < lim ∧ bindW tg d (wipeE ρ (tgs tg)) fun ρ1 => wpC C c ρ1 S fun k S2 =>
          if k = true then wpE C (fun _ _ _ => False) elt ρ1 S2 fun x S3 => P (i + 1) (acc ++ [x]) S3 else P (i + 1) acc S2) ∧
        ∀ acc S, P ds.length acc S → Q acc S
theorem e_comp {m : Bool} {elt : Ex} {tg : Tg} {it : It} {c : Opt} (h : wpI C X it ρ S fun ds st S1 => compW C ds st tg c elt ρ S1 fun acc S2 => newL m acc S2 Q) : wpE C X (.comp m elt tg it c) ρ S Q := h
theorem get_len {α : Type} {l : List α} {i : Nat} {a : α} (h : l[i]? = some a) : i < l.length := (List.getElem?_eq_some_iff.mp h).1
theorem get_mem {α : Type} {l : List α} {i : Nat} {a : α} (h : l[i]? = some a) : a ∈ l := List.mem_of_getElem? h
theorem take_succ' {α : Type} {l : List α} {i : Nat} {a : α} (h : l[i]? = some a) : l.take (i + 1) = l.take i ++ [a] := by
  rw [List.take_add_one, h]; rfl
theorem c_no {Q : Bool → Store → Prop} (q : Q true S) : wpC C .no ρ S Q := q
theorem c_yes {e : Ex} {Q : Bool → Store → Prop} (q : wpE C (fun _ _ _ => False) e ρ S fun x S1 => ∃ k, x = .bl k ∧ Q k S1) : wpC C (.yes e) ρ S Q := q
theorem comp_map {ds : List D} {st : Store → Prop} {tg : Tg} {elt : Ex} {Q : List D → Store → Prop} (f : D → D) (hst : st S) (hl : ds.length ≤ lim)
    (h : ∀ d ∈ ds, bindW tg d (wipeE ρ (tgs tg)) fun ρ1 => wpE C (fun _ _ _ => False) elt ρ1 S fun x S' => x = f d ∧ S' = S) (q : Q (ds.map f) S) : compW C ds st tg .no elt ρ S Q := by
  refine ⟨fun i acc S' => acc = (ds.take i).map f ∧ S' = S, ⟨by simp, rfl⟩, fun _ _ _ _ ⟨_, e⟩ => e ▸ hst, ?_, ?_⟩
  · rintro i d acc S' hd ⟨rfl, rfl⟩
    refine ⟨by have := get_len hd; simp; omega, ?_⟩
    have hh := h d (get_mem hd)
    have key : ∀ ρ1, wpE C (fun _ _ _ => False) elt ρ1 S' (fun x S2 => x = f d ∧ S2 = S') → wpC C .no ρ1 S' fun k S2 =>
        if k = true then wpE C (fun _ _ _ => False) elt ρ1 S2 fun x S3 => ((ds.take i).map f ++ [x] = (ds.take (i + 1)).map f ∧ S3 = S') else ((ds.take i).map f = (ds.take (i + 1)).map f ∧ S2 = S') := by
      intro ρ1 w
      refine c_no (Eq.mpr (if_pos (α := Prop) rfl) ?_)
      have e : (fun (x : D) (S2 : Store) => x = f d ∧ S2 = S') = fun x S3 => ((ds.take i).map f ++ [x] = (ds.take (i + 1)).map f ∧ S3 = S') := by
        funext x S2
        rw [take_succ' hd]
        simp
      rw [← e]
      exact w
    cases tg with
    | nm j => exact key _ hh
    | tp is =>
      obtain ⟨xs, h1, h2, h3⟩ := hh
      exact ⟨xs, h1, h2, key _ h3⟩
  · rintro acc S' ⟨rfl, rfl⟩
    rw [List.take_length]
    exact q
/-- .. with a test -/
theorem comp_filter {ds : List D} {st : Store → Prop} {tg : Tg} {elt : Ex} {c : Opt} {Q : List D → Store → Prop} (g : D → Bool) (f : D → D) (hst : st S) (hl : ds.length ≤ lim)
    (h : ∀ d ∈ ds, bindW tg d (wipeE ρ (tgs tg)) fun ρ1 => wpC C c ρ1 S fun k S' => S' = S ∧ k = g d ∧ (g d = true → wpE C (fun _ _ _ => False) elt ρ1 S fun x S' => x = f d ∧ S' = S)) (q : Q ((ds.filter g).map f) S)
    (mono : ∀ (ρ1 : Env) (Q Q' : Bool → Store → Prop), wpC C c ρ1 S Q → (∀ b S', Q b S' → Q' b S') → wpC C c ρ1 S Q') : compW C ds st tg c elt ρ S Q := by
  refine ⟨fun i acc S' => acc = ((ds.take i).filter g).map f ∧ S' = S, ⟨by simp, rfl⟩, fun _ _ _ _ ⟨_, e⟩ => e ▸ hst, ?_, ?_⟩
  · rintro i d acc S' hd ⟨rfl, rfl⟩
    refine ⟨by
      have := get_len hd
      have h2 : ((ds.take i).filter g).length ≤ (ds.take i).length := List.length_filter_le _ _
      simp only [List.length_map, List.length_take] at h2 ⊢
      omega, ?_⟩
    have hh := h d (get_mem hd)
    have key : ∀ ρ1, wpC C c ρ1 S' (fun k S2 => S2 = S' ∧ k = g d ∧ (g d = true → wpE C (fun _ _ _ => False) elt ρ1 S' fun x S2 => x = f d ∧ S2 = S')) → wpC C c ρ1 S' fun k S2 =>
        if k = true then wpE C (fun _ _ _ => False) elt ρ1 S2 fun x S3 => (((ds.take i).filter g).map f ++ [x] = ((ds.take (i + 1)).filter g).map f ∧ S3 = S') else (((ds.take i).filter g).map f = ((ds.take (i + 1)).filter g).map f ∧ S2 = S') := by
      intro ρ1 w
      refine mono ρ1 _ _ w ?_
      rintro k S2 ⟨rfl, rfl, w⟩
      cases hg : g d with
      | true =>
        rw [if_pos rfl]
        have e : (fun (x : D) (S3 : Store) => x = f d ∧ S3 = S2) = fun x S3 => (((ds.take i).filter g).map f ++ [x] = ((ds.take (i + 1)).filter g).map f ∧ S3 = S2) := by
          funext x S2
          rw [take_succ' hd]
          simp [hg]
        rw [← e]
        exact w hg
      | false =>
        rw [if_neg Bool.false_ne_true]
        refine ⟨?_, rfl⟩
        rw [take_succ' hd]
        simp [hg]
    cases tg with
    | nm j => exact key _ hh
    | tp is =>
      obtain ⟨xs, h1, h2, h3⟩ := hh
      exact ⟨xs, h1, h2, key _ h3⟩
  · rintro acc S' ⟨rfl, rfl⟩
    rw [List.take_length]
    exact q
end
end Py

set_option Elab.async false
set_option linter.all false
set_option maxRecDepth 100000
namespace Py
/-! Dr: the script's tape. -/
local macro_rules | `(tactic| walk_at "w") => `(tactic| (repeat (first
  | with_reducible refine ss_cons ?_ | with_reducible refine ss_nil ?_ | with_reducible refine s_asg ?_ | with_reducible refine s_iset ?_ | with_reducible refine s_ret ?_ | with_reducible refine s_exp ?_ | with_reducible refine s_unp ?_ | with_reducible refine s_fset ?_
  | with_reducible refine e_var rfl ?_ | with_reducible refine e_int ?_ | with_reducible refine e_bl ?_ | with_reducible refine e_non ?_ | with_reducible refine e_str ?_ | with_reducible refine e_bin ?_ | with_reducible refine e_cmp ?_ | with_reducible refine e_idx ?_ | with_reducible refine e_neg ?_ | with_reducible refine e_blt ?_ | with_reducible refine e_and ?_ | with_reducible refine e_or ?_ | with_reducible refine e_not ?_
  | with_reducible refine e_tup ?_ | with_reducible refine e_lst ?_ | with_reducible refine e_call ?_ | with_reducible refine e_fld ?_ | with_reducible refine e_bme ?_ | with_reducible refine e_ite ?_ | with_reducible refine e_cls ?_ | with_reducible refine e_slc ?_ | with_reducible refine o_no ?_ | with_reducible refine o_yes ?_ | with_reducible refine e_comp ?_ | with_reducible refine w_of ?_ | with_reducible refine w_rng1 ?_ | with_reducible refine v_tup ?_ | with_reducible refine v_lst ?_
  | with_reducible refine es_nil ?_ | with_reducible refine es_cons ?_ | with_reducible refine and1 ?_ | with_reducible refine or1 ?_ | with_reducible refine and2 ?_ | with_reducible refine or2 ?_ | with_reducible refine e_meth ?_ | with_reducible refine e_new ?_
  | with_reducible refine k_neg ?_ | with_reducible refine b_add ?_ | with_reducible refine b_sub ?_ | with_reducible refine c_lt ?_ | with_reducible refine c_le ?_ | with_reducible refine c_gt ?_ | with_reducible refine c_ge ?_ | with_reducible refine c_eqI ?_ | with_reducible refine c_neI ?_
  | with_reducible refine i_ref (by assumption) rfl ?_ | with_reducible refine i_tup rfl ?_ | with_reducible refine i_lst rfl ?_ | with_reducible refine t_lenT ?_ | with_reducible refine t_lenL ?_ | with_reducible refine t_lenR (by assumption) ?_ | with_reducible refine t_int ?_ | with_reducible refine t_abs ?_ | with_reducible refine t_gcd ?_ | with_reducible refine t_tupT ?_ | with_reducible refine t_tupL ?_ | with_reducible refine t_tupR (by assumption) ?_ | with_reducible refine t_lstT ?_ | with_reducible refine t_lstL ?_ | with_reducible refine t_lstR (by assumption) ?_ | with_reducible refine t_lstS ?_
  | with_reducible refine t_isiT ?_ | with_reducible refine t_isiI ?_ | with_reducible refine t_isiB ?_ | with_reducible refine t_isiS ?_
  | with_reducible refine k_int ?_ | with_reducible refine k_len (Nat.le_of_ble_eq_true rfl) ?_ | with_reducible refine l_fz (Nat.le_of_ble_eq_true rfl) ?_ | with_reducible refine k_ift ?_ | with_reducible refine k_iff ?_ | with_reducible refine k_ifNT ?_ | with_reducible refine k_ifNF ?_ | with_reducible refine k_boolT ?_ | with_reducible refine k_boolF ?_)))
theorem log2_le {n b : Nat} (h : n < 2 ^ (b + 1)) : n.log2 ≤ b := by
  by_cases hn : n = 0
  · subst hn; simp
  · exact Nat.lt_succ_iff.mp ((Nat.log2_lt hn).mpr h)
theorem log2_mono {n m : Nat} (h : n ≤ m) : n.log2 ≤ m.log2 := by
  by_cases hm : m = 0
  · subst hm; have : n = 0 := by omega
    subst this; exact Nat.le_refl _
  · exact log2_le (Nat.lt_of_le_of_lt h (Nat.lt_log2_self))
theorem log2_two {n : Nat} : (2 * n).log2 ≤ n.log2 + 1 := by
  refine log2_le ?_
  have : n < 2 ^ (n.log2 + 1) := Nat.lt_log2_self
  rw [Nat.pow_succ]; omega
theorem mulOk_of {i j : Int} (a b : Nat) (h1 : i.natAbs < 2 ^ (a + 1)) (h2 : j.natAbs < 2 ^ (b + 1)) (h : a + b < 134000000) : mulOk i j := by
  have := log2_le h1
  have := log2_le h2
  unfold mulOk; omega
theorem small_mul {i j : Int} (h1 : -10 ^ 60 ≤ i) (h2 : i ≤ 10 ^ 60) (h3 : -10 ^ 60 ≤ j) (h4 : j ≤ 10 ^ 60) : mulOk i j := by
  refine mulOk_of 199 199 ?_ ?_ (by decide)
  · have : i.natAbs ≤ 10 ^ 60 := by omega
    exact Nat.lt_of_le_of_lt this (by decide +kernel)
  · have : j.natAbs ≤ 10 ^ 60 := by omega
    exact Nat.lt_of_le_of_lt this (by decide +kernel)
def tapeOk (S : Store) (a : Nat) (n : Nat) : Prop := ∃ (cs : List Int) (k w : Int), S a = some (.lst [.lst (cs.map .int), .int k, .int w]) ∧ (cs.length ≤ 63 ∧ ∀ z ∈ cs, z.natAbs.log2 ≤ 2000000) ∧ 0 ≤ k ∧ k ≤ n ∧ 0 ≤ w ∧ w.natAbs.log2 ≤ 3000000
/-- what was there stays, but for a -/
def Kp (M : List Nat) (S S' : Store) : Prop := ∀ b o, S b = some o → b ∉ M → S' b = some o
theorem Kp.refl {M : List Nat} {S : Store} : Kp M S S := fun _ _ h _ => h
theorem Kp.trans {M : List Nat} {S S' S'' : Store} (a : Kp M S S') (b : Kp M S' S'') : Kp M S S'' := fun c o h n => b c o (a c o h n) n
theorem Kp.up {M : List Nat} {S S' : Store} {a : Nat} {o : Obj} (h : Kp M S S') (ha : a ∈ M) : Kp M S (put S' a o) := fun b u e n => by
  rw [put_ne (fun z => n (by rw [z]; exact ha))]; exact h b u e n
theorem Kp.nw {M : List Nat} {S S' : Store} {a : Nat} {o : Obj} (h : Kp M S S') (ha : S' a = none) : Kp M S (put S' a o) := fun b u e n => by
  have e' := h b u e n
  rw [put_ne (fun z => by subst z; rw [ha] at e'; cases e')]; exact e'
def spDraw : Sp := fun ds S Q _ => ∃ a m n, ds = [.ref a, .int m] ∧ tapeOk S a n ∧ n ≤ 10 ^ 30 ∧ 1 ≤ m ∧ m.natAbs.log2 < 8000 ∧ ∀ v S', 0 ≤ v → v < m → tapeOk S' a (n + 1) → Kp [a] S S' → Q (.int v) S'
def B__law_draw : Sts := (.cons (.ifs (.cmp .lt (.idx (.var 0) (.cst (.int 2))) (.var 1)) (.cons (.asg 3 (.idx (.var 0) (.cst (.int 0))))
  (.cons (.asg 4 (.idx (.var 0) (.cst (.int 1))))
  (.cons (.asg 5 (.cst (.int 0)))
  (.cons (.ifs (.cmp .lt (.var 4) (.blt .len false (.cons (.var 3) .nil))) (.cons (.asg 5 (.idx (.var 3) (.var 4)))
  .nil) .nil)
  (.cons (.ifs (.cmp .lt (.var 5) (.cst (.int 0))) (.cons (.asg 5 (.bin .sub (.bin .mul (.neg (.cst (.int 2))) (.var 5)) (.cst (.int 1))))
  .nil) .nil)
  (.cons (.ifs (.cmp .lt (.var 5) (.bin .pow (.cst (.int 10)) (.cst (.int 9)))) (.cons (.asg 5 (.bin .mod (.blt .int false (.cons (.bin .add (.bin .add (.bin .mul (.var 5) (.cst (.int 48271))) (.bin .mul (.var 4) (.cst (.int 69621)))) (.cst (.int 12345))) .nil)) (.cst (.int 2147483647))))
  (.cons (.asg 5 (.bin .mod (.blt .int false (.cons (.bin .add (.bin .add (.bin .mul (.var 5) (.cst (.int 16807))) (.bin .mul (.var 4) (.cst (.int 39373)))) (.cst (.int 6789))) .nil)) (.cst (.int 2147483629))))
  .nil)) .nil)
  (.cons (.iset (.var 0) (.cst (.int 1)) (.bin .add (.var 4) (.cst (.int 1))))
  (.cons (.iset (.var 0) (.cst (.int 2)) (.var 5))
  .nil)))))))) .nil)
  (.cons (.asg 2 (.bin .mod (.blt .int false (.cons (.idx (.var 0) (.cst (.int 2))) .nil)) (.var 1)))
  (.cons (.iset (.var 0) (.cst (.int 2)) (.bin .fdiv (.idx (.var 0) (.cst (.int 2))) (.var 1)))
  (.cons (.ret (.var 2))
  .nil))))
theorem fmod_bd {i j : Int} (h : 0 < j) : 0 ≤ i.fmod j ∧ i.fmod j < j := ⟨Int.fmod_nonneg_of_pos i h, Int.fmod_lt_of_pos i h⟩
theorem fdiv_bd {i j : Int} (hi : 0 ≤ i) (h : 0 < j) : 0 ≤ i.fdiv j ∧ i.fdiv j ≤ i := by
  rw [Int.fdiv_eq_ediv_of_nonneg i (by omega)]
  exact ⟨Int.ediv_nonneg hi (by omega), Int.ediv_le_self j hi⟩
theorem atI_cells {cs : List Int} {k : Int} (h0 : 0 ≤ k) (h : k < cs.length) : ∃ z ∈ cs, atI (cs.map D.int) k = some (.int z) := by
  have hk : k.toNat < cs.length := by omega
  refine ⟨cs[k.toNat], List.getElem_mem hk, ?_⟩
  unfold atI ixN
  rw [if_pos h0, if_pos (by simpa using h)]
  simp [hk]
theorem ix_lit {n : Nat} {i : Int} (h0 : 0 ≤ i) (h : i < n) : ixN n i = some i.toNat := by unfold ixN; rw [if_pos h0, if_pos h]
theorem draw_ok {C : Cfg} (hC : Mono C) : DefOk C spDraw 2 6 B__law_draw := by
  rintro ds S Q X ⟨a, m, n, rfl, ⟨cs, k, w, hS, ⟨hc1, hc2⟩, hk0, hk1, hw0, hw1⟩, hn, hm, hml, kq⟩
  refine ⟨rfl, ?_⟩
  unfold B__law_draw
  refine ss_cons (s_mid hC (fun ρ' S' => ∃ x3 x4 x5, ρ' = [some (.ref a), some (.int m), none, x3, x4, x5] ∧ ∃ k' w' : Int, S' a = some (.lst [.lst (cs.map .int), .int k', .int w']) ∧ 0 ≤ k' ∧ k' ≤ n + 1 ∧ 0 ≤ w' ∧ w'.natAbs.log2 ≤ 3000000 ∧ Kp [a] S S') ?_ ?_)
  · refine s_ifs ?_
    walk_at "w"
    refine k_if (fun h1 => ?_) (fun h1 => ?_)
    · walk_at "w"
      -- the cell
      refine s_mid hC (fun ρ' S' => S' = S ∧ ∃ z : Int, ρ' = [some (.ref a), some (.int m), none, some (.lst (cs.map .int)), some (.int k), some (.int z)] ∧ z.natAbs.log2 ≤ 2000000) ?_ ?_
      · refine s_ifs ?_
        walk_at "w"
        refine k_if (fun h => ?_) (fun h => ?_)
        · walk_at "w"
          obtain ⟨z, hz, e⟩ := atI_cells hk0 (by simpa using h)
          refine i_lst e ?_
          exact ⟨rfl, z, rfl, hc2 z hz⟩
        · exact ⟨rfl, 0, rfl, by decide⟩
      · rintro ρ' S' ⟨rfl, z, rfl, hz⟩
        refine ss_cons ?_
        refine s_mid hC (fun ρ' S2 => S2 = S' ∧ ∃ z : Int, ρ' = [some (.ref a), some (.int m), none, some (.lst (cs.map .int)), some (.int k), some (.int z)] ∧ 0 ≤ z ∧ z.natAbs.log2 ≤ 2000001) ?_ ?_
        · refine s_ifs ?_
          walk_at "w"
          refine k_if (fun h => ?_) (fun h => ?_)
          · walk_at "w"
            refine b_mul ?_ ?_
            · unfold mulOk
              have : (-2 : Int).natAbs.log2 ≤ 10 := by decide
              omega
            · walk_at "w"
              refine ⟨rfl, _, rfl, by omega, ?_⟩
              have e : (-2 * z - 1).natAbs ≤ 2 * z.natAbs := by omega
              have := log2_mono e
              have := log2_two (n := z.natAbs)
              omega
          · exact ⟨rfl, z, rfl, by omega, by omega⟩
        · rintro ρ' S2 ⟨rfl, z, rfl, hz0, hz⟩
          refine ss_cons ?_
          refine s_mid hC (fun ρ' S3 => S3 = S2 ∧ ∃ z : Int, ρ' = [some (.ref a), some (.int m), none, some (.lst (cs.map .int)), some (.int k), some (.int z)] ∧ 0 ≤ z ∧ z.natAbs.log2 ≤ 2000001) ?_ ?_
          · refine s_ifs ?_
            walk_at "w"
            refine b_pow ⟨by decide, by decide, by decide +kernel⟩ ?_
            walk_at "w"
            refine k_if (fun h => ?_) (fun h => ?_)
            · have h : z < 10 ^ 9 := h
              walk_at "w"
              refine b_mul (small_mul (by omega) (by omega) (by omega) (by omega)) ?_
              walk_at "w"
              refine b_mul (small_mul (by omega) (by omega) (by omega) (by omega)) ?_
              walk_at "w"
              refine b_mod (by decide) ?_
              walk_at "w"
              obtain ⟨y0, y1⟩ := fmod_bd (i := z * 48271 + k * 69621 + 12345) (j := 2147483647) (by decide)
              generalize (z * 48271 + k * 69621 + 12345).fmod 2147483647 = y at y0 y1 ⊢
              refine b_mul (small_mul (by omega) (by omega) (by omega) (by omega)) ?_
              walk_at "w"
              refine b_mul (small_mul (by omega) (by omega) (by omega) (by omega)) ?_
              walk_at "w"
              refine b_mod (by decide) ?_
              obtain ⟨x0, x1⟩ := fmod_bd (i := y * 16807 + k * 39373 + 6789) (j := 2147483629) (by decide)
              generalize (y * 16807 + k * 39373 + 6789).fmod 2147483629 = x at x0 x1 ⊢
              refine ⟨rfl, x, rfl, x0, Nat.le_trans (log2_le (b := 40) (by omega)) (by decide)⟩
            · exact ⟨rfl, z, rfl, hz0, hz⟩
          · rintro ρ' S3 ⟨rfl, z, rfl, hz0, hz⟩
            walk_at "w"
            refine k_iset hS rfl ?_
            walk_at "w"
            refine k_iset put_same rfl ?_
            exact ⟨_, _, _, rfl, k + 1, z, put_same, by omega, by omega, hz0, by omega, (Kp.refl.up (by simp)).up (by simp)⟩
    · exact ⟨_, _, _, rfl, k, w, hS, hk0, by omega, hw0, hw1, .refl⟩
  · rintro ρ' S' ⟨x3, x4, x5, rfl, k', w', hS', hk0', hk1', hw0', hw1', kp⟩
    walk_at "w"
    refine b_mod (by omega) ?_
    walk_at "w"
    refine b_fdiv ⟨by omega, by omega⟩ ?_
    walk_at "w"
    refine k_iset hS' rfl ?_
    walk_at "w"
    obtain ⟨y0, y1⟩ := fmod_bd (i := w') (j := m) (by omega)
    obtain ⟨x0, x1⟩ := fdiv_bd (i := w') (j := m) hw0' (by omega)
    refine .of (kq _ _ y0 y1 ⟨cs, k', _, put_same, ⟨hc1, hc2⟩, hk0', by omega, x0, ?_⟩ (kp.up (by simp)))
    exact Nat.le_trans (log2_mono (by omega)) hw1'
def spTape : Sp := fun ds S Q _ => ∃ ns : List Int, ds = [.scr ns] ∧ ns.length ≤ 63 ∧ (∀ z ∈ ns, z.natAbs.log2 ≤ 2000000) ∧ ∀ a S', tapeOk S' a 0 → Kp [] S S' → S a = none → Q (.ref a) S'
def B__law_tape : Sts := .cons (.ret (.lst true (.cons (.blt .list false (.cons (.var 0) .nil)) (.cons (.cst (.int 0)) (.cons (.cst (.int 0)) .nil))))) .nil
theorem tape_ok {C : Cfg} : DefOk C spTape 1 1 B__law_tape := by
  rintro ds S Q X ⟨ns, rfl, h1, h2, kq⟩
  refine ⟨rfl, ?_⟩
  unfold B__law_tape
  walk_at "w"
  refine l_fz (by simp only [List.length_map, lim]; omega) ?_
  walk_at "w"
  refine l_mt (show 3 ≤ lim by decide) fun a ha => .of (kq a _ ⟨ns, 0, 0, put_same, ⟨h1, h2⟩, by decide, by decide, by decide, by decide⟩ (Kp.refl.nw ha) ha)
end Py

set_option Elab.async false
set_option linter.all false
set_option maxRecDepth 100000
namespace Py
/-! Dg: general facts about data. -/
mutual
theorem rd_plain {S : Store} : ∀ {d : D}, d.pure = true → rd S d = some d
  | .non, _ => rfl
  | .bl _, _ => rfl
  | .int _, _ => rfl
  | .str _, _ => rfl
  | .tup ds, h => by
    have h' : D.pureL ds = true := h
    show (rdL S ds).map D.tup = _
    rw [rdL_plain h']; rfl
  | .lst ds, h => by
    have h' : D.pureL ds = true := h
    show (rdL S ds).map D.lst = _
    rw [rdL_plain h']; rfl
theorem rdL_plain {S : Store} : ∀ {ds : List D}, D.pureL ds = true → rdL S ds = some ds
  | [], _ => rfl
  | d :: ds, h => by
    have h' : d.pure = true ∧ D.pureL ds = true := by
      have : (D.pure d && D.pureL ds) = true := h
      simpa using this
    show (rd S d).bind _ = _
    rw [rd_plain h'.1, rdL_plain h'.2]; rfl
end
mutual
theorem eqv_same : ∀ {d : D}, d.pure = true → D.eqv d d = true
  | .non, _ => rfl
  | .bl b, _ => by cases b <;> rfl
  | .int i, _ => by show (i == i) = true; simp
  | .str s, _ => by show (s == s) = true; simp
  | .tup ds, h => eqvL_same (ds := ds) h
  | .lst ds, h => eqvL_same (ds := ds) h
theorem eqvL_same : ∀ {ds : List D}, D.pureL ds = true → D.eqvL ds ds = true
  | [], _ => rfl
  | d :: ds, h => by
    have h' : d.pure = true ∧ D.pureL ds = true := by
      have : (D.pure d && D.pureL ds) = true := h
      simpa using this
    show (D.eqv d d && D.eqvL ds ds) = true
    rw [eqv_same h'.1, eqvL_same h'.2]; rfl
end
theorem pureL_all {ds : List D} : D.pureL ds = true ↔ ∀ d ∈ ds, d.pure = true := by
  induction ds with
  | nil => simp [D.pureL]
  | cons d ds ih => simp [D.pureL, ih]
theorem flatL_all {ds : List D} {n : Nat} : D.flatL ds n = true ↔ ∀ d ∈ ds, d.flat n = true := by
  induction ds with
  | nil => simp [D.flatL]
  | cons d ds ih => simp [D.flatL, ih]
/-- pure data, flat enough to be compared -/
def Pl (d : D) : Prop := d.pure = true ∧ d.flat 60 = true
section
variable {S : Store} {Q : Bool → Prop}
theorem c_neT {x y : List D} (hx : Pl (.tup x)) (hy : Pl (.tup y)) (q : Q (!D.eqv (.tup x) (.tup y))) : cmpW .ne (.tup x) (.tup y) S Q := ⟨_, _, ⟨rd_plain hx.1, hx.2⟩, ⟨rd_plain hy.1, hy.2⟩, q⟩
theorem c_neTs {x : List D} (hx : Pl (.tup x)) (q : Q false) : cmpW .ne (.tup x) (.tup x) S Q := c_neT hx hx (by rw [eqv_same hx.1]; exact q)
end
theorem pl_int {i : Int} : Pl (.int i) := ⟨rfl, rfl⟩
theorem pl_ints {l : List Int} : Pl (.tup (l.map .int)) := ⟨pureL_all.mpr (by simp [D.pure]), flatL_all.mpr (by simp [D.flat])⟩
section
variable {C : Cfg} {X : Exc → Env → Store → Prop} {ρ : Env} {S : Store} {Q : Post} {N : Ends}
theorem loop_map {β : Type} {xs : List β} {g : β → D} {turn : D → Env → Store → (Env → Store → Prop) → Prop} {nx : Env → Store → Prop} (P : List β → Env → Store → Prop) (h0 : P [] ρ S)
    (hs : ∀ pre x suf ρ S, xs = pre ++ x :: suf → P pre ρ S → turn (g x) ρ S (P (pre ++ [x]))) (he : ∀ ρ S, P xs ρ S → nx ρ S) : loopW (xs.map g) (fun _ => True) turn ρ S nx := by
  refine loop_lst (fun i => P (xs.take i)) (by simpa using h0) (fun i d ρ S hd hP => ?_) (fun ρ S h => he ρ S (by simpa using h))
  rw [List.getElem?_map] at hd
  cases hx : xs[i]? with
  | none => rw [hx] at hd; cases hd
  | some x =>
    rw [hx] at hd
    cases hd
    rw [take_succ' hx]
    refine hs (xs.take i) x (xs.drop (i + 1)) ρ S ?_ hP
    have hi := get_len hx
    have e : xs[i] = x := by rw [List.getElem?_eq_getElem hi] at hx; exact Option.some.inj hx
    rw [← e, ← List.drop_eq_getElem_cons hi, List.take_append_drop]
/-- a comprehension of pure values over a mapped list -/
theorem comp_map' {β : Type} {xs : List β} {g f : β → D} {st : Store → Prop} {tg : Tg} {elt : Ex} {Q : List D → Store → Prop} (hst : st S) (hl : xs.length ≤ lim)
    (h : ∀ x ∈ xs, bindW tg (g x) (wipeE ρ (tgs tg)) fun ρ1 => wpE C (fun _ _ _ => False) elt ρ1 S fun y S' => y = f x ∧ S' = S) (q : Q (xs.map f) S) : compW C (xs.map g) st tg .no elt ρ S Q := by
  refine ⟨fun i acc S' => acc = (xs.take i).map f ∧ S' = S, ⟨by simp, rfl⟩, fun _ _ _ _ ⟨_, e⟩ => e ▸ hst, ?_, ?_⟩
  · rintro i d acc S' hd ⟨rfl, rfl⟩
    rw [List.getElem?_map] at hd
    cases hx : xs[i]? with
    | none => rw [hx] at hd; cases hd
    | some x =>
      rw [hx] at hd
      cases hd
      refine ⟨by have := get_len hx; simp; omega, ?_⟩
      have hh := h x (get_mem hx)
      have e : (fun (y : D) (S2 : Store) => y = f x ∧ S2 = S') = fun y S3 => ((xs.take i).map f ++ [y] = (xs.take (i + 1)).map f ∧ S3 = S') := by
        funext y S2
        rw [take_succ' hx]
        simp
      rw [e] at hh
      have key : ∀ ρ1, wpE C (fun _ _ _ => False) elt ρ1 S' (fun y S3 => ((xs.take i).map f ++ [y] = (xs.take (i + 1)).map f ∧ S3 = S')) → wpC C .no ρ1 S' fun k S2 =>
        if k = true then wpE C (fun _ _ _ => False) elt ρ1 S2 fun y S3 => ((xs.take i).map f ++ [y] = (xs.take (i + 1)).map f ∧ S3 = S') else ((xs.take i).map f = (xs.take (i + 1)).map f ∧ S2 = S') :=
        fun ρ1 w => c_no (Eq.mpr (if_pos (α := Prop) rfl) w)
      cases tg with
      | nm j => exact key _ hh
      | tp is =>
        obtain ⟨zs, h1, h2, h3⟩ := hh
        exact ⟨zs, h1, h2, key _ h3⟩
  · rintro acc S' ⟨rfl, rfl⟩
    rw [List.length_map, List.take_length]
    exact q
end
theorem atI_nat {α : Type} {xs : List α} {i : Nat} {d : α} (h : xs[i]? = some d) : atI xs (i : Int) = some d := by
  unfold atI ixN
  have := get_len h
  rw [if_pos (by omega), if_pos (by omega)]
  simpa using h
theorem atI_int {xs : List Int} {i : Nat} (h : i < xs.length) : atI (xs.map D.int) (i : Int) = some (.int (xs.getD i 0)) := by
  refine atI_nat ?_
  rw [List.getElem?_map, List.getElem?_eq_getElem h]
  simp [h]
theorem ixN_nat {n i : Nat} (h : i < n) : ixN n (i : Int) = some i := by
  unfold ixN
  rw [if_pos (by omega), if_pos (by omega)]
  simp
theorem set_int {xs : List Int} {i : Nat} {c : Int} : (xs.map D.int).set i (.int c) = (xs.set i c).map D.int := by rw [List.map_set]
end Py

set_option Elab.async false
set_option maxRecDepth 100000
namespace A
open Py
/-- terms, start, rhs, constant, coefs, v, c, _ -/
def B_combined : Sts := (.cons (.asg 3 (.var 2))
  (.cons (.asg 4 (.comp true (.cst (.int 0)) (.nm 7) (.of (.var 1)) .no))
  (.cons (.for (.tp [5, 6]) (.of (.var 0)) (.cons (.asg 3 (.bin .add (.var 3) (.bin .mul (.var 6) (.idx (.idx (.var 1) (.var 5)) (.cst (.int 1))))))
  (.cons (.iset (.var 4) (.var 5) (.bin .mul (.var 6) (.idx (.idx (.idx (.var 1) (.var 5)) (.cst (.int 2))) (.var 5))))
  .nil)))
  (.cons (.ret (.tup (.cons (.cst (.int 1)) (.cons (.var 3) (.cons (.blt .tuple false (.cons (.var 4) .nil)) .nil)))))
  .nil))))
/-- self, lows, highs, rows, aim, many, aim_coefs, j, v, c, from_high, unit, terms, rhs, opposite, _ -/
def B_Tableau___init__ (n_combined : Nat) : Sts := (.cons (.asg 5 (.blt .len false (.cons (.var 1) .nil)))
  (.cons (.asg 6 (.comp true (.cst (.int 0)) (.nm 15) (.of (.var 1)) .no))
  (.cons (.for (.tp [8, 9]) (.of (.var 4)) (.cons (.iset (.var 6) (.var 8) (.var 9))
  .nil))
  (.cons (.fset (.var 0) "lows" (.blt .tuple false (.cons (.var 1) .nil)))
  (.cons (.fset (.var 0) "highs" (.blt .tuple false (.cons (.var 2) .nil)))
  (.cons (.fset (.var 0) "row_many" (.blt .len false (.cons (.var 3) .nil)))
  (.cons (.fset (.var 0) "places" (.lst true .nil))
  (.cons (.fset (.var 0) "column_rows" (.lst true .nil))
  (.cons (.for (.nm 7) (.rng1 (.var 5)) (.cons (.asg 10 (.cmp .ge (.idx (.var 6) (.var 7)) (.cst (.int 0))))
  (.cons (.asg 11 (.comp true (.cst (.int 0)) (.nm 15) (.of (.var 1)) .no))
  (.cons (.iset (.var 11) (.var 7) (.ite (.var 10) (.neg (.cst (.int 1))) (.cst (.int 1))))
  (.cons (.exp (.bme (.fld (.var 0) "places") .append (.cons (.bin .add (.bin .add (.fld (.var 0) "row_many") (.bin .mul (.cst (.int 2)) (.var 7))) (.ite (.var 10) (.cst (.int 0)) (.cst (.int 1)))) .nil)))
  (.cons (.exp (.bme (.fld (.var 0) "column_rows") .append (.cons (.tup (.cons (.cst (.int 1)) (.cons (.ite (.var 10) (.idx (.var 2) (.var 7)) (.idx (.var 1) (.var 7))) (.cons (.blt .tuple false (.cons (.var 11) .nil)) .nil)))) .nil)))
  .nil))))))
  (.cons (.fset (.var 0) "aim_row" (.call n_combined (.cons (.var 4) (.cons (.fld (.var 0) "column_rows") (.cons (.cst (.int 0)) .nil)))))
  (.cons (.fset (.var 0) "slack_rows" (.lst true .nil))
  (.cons (.for (.tp [12, 13]) (.of (.var 3)) (.cons (.asg 14 (.comp false (.tup (.cons (.var 8) (.cons (.neg (.var 9)) .nil))) (.tp [8, 9]) (.of (.var 12)) .no))
  (.cons (.exp (.bme (.fld (.var 0) "slack_rows") .append (.cons (.call n_combined (.cons (.var 14) (.cons (.fld (.var 0) "column_rows") (.cons (.var 13) .nil)))) .nil)))
  .nil)))
  .nil))))))))))))
/-- top, bottom, common -/
def B_ratio : Sts := (.cons (.asg 2 (.blt .gcd false (.cons (.var 0) (.cons (.var 1) .nil))))
  (.cons (.ifs (.cmp .lt (.var 1) (.cst (.int 0))) (.cons (.asg 2 (.neg (.var 2)))
  .nil) .nil)
  (.cons (.ret (.tup (.cons (.bin .fdiv (.var 0) (.var 2)) (.cons (.bin .fdiv (.var 1) (.var 2)) .nil))))
  .nil)))
/-- self, scale, constant, _ -/
def B_Tableau_corner (n_ratio : Nat) : Sts := (.cons (.ret (.blt .tuple false (.cons (.comp false (.call n_ratio (.cons (.var 2) (.cons (.var 1) .nil))) (.tp [1, 2, 3]) (.of (.fld (.var 0) "column_rows")) .no) .nil)))
  .nil)
/-- self -/
def B_Tableau_free : Sts := (.cons (.ret (.blt .tuple false (.cons (.fld (.var 0) "places") .nil)))
  .nil)
/-- self -/
def B_Tableau_aim_equation : Sts := (.cons (.ret (.fld (.var 0) "aim_row"))
  .nil)
/-- self, j -/
def B_Tableau_column_equation : Sts := (.cons (.ret (.idx (.fld (.var 0) "column_rows") (.var 1)))
  .nil)
/-- self, q, j, scale, constant, coefs, coef -/
def B_Tableau_slack_equation : Sts := (.cons (.ifs (.cmp .lt (.var 1) (.fld (.var 0) "row_many")) (.cons (.ret (.idx (.fld (.var 0) "slack_rows") (.var 1)))
  .nil) .nil)
  (.cons (.asg 2 (.bin .fdiv (.bin .sub (.var 1) (.fld (.var 0) "row_many")) (.cst (.int 2))))
  (.cons (.unp [3, 4, 5] (.idx (.fld (.var 0) "column_rows") (.var 2)))
  (.cons (.ifs (.cmp .eq (.bin .mod (.bin .sub (.var 1) (.fld (.var 0) "row_many")) (.cst (.int 2))) (.cst (.int 1))) (.cons (.ret (.tup (.cons (.var 3) (.cons (.bin .sub (.var 4) (.bin .mul (.var 3) (.idx (.fld (.var 0) "lows") (.var 2)))) (.cons (.var 5) .nil)))))
  .nil) .nil)
  (.cons (.ret (.tup (.cons (.var 3) (.cons (.bin .sub (.bin .mul (.var 3) (.idx (.fld (.var 0) "highs") (.var 2))) (.var 4)) (.cons (.blt .tuple false (.cons (.comp false (.neg (.var 6)) (.nm 6) (.of (.var 5)) .no) .nil)) .nil)))))
  .nil)))))
/-- _law_program_here -/
def B__law_count : Sts := (.cons (.ret (.bin .add (.blt .len false (.cons (.idx (.var 0) (.cst (.int 2))) .nil)) (.bin .mul (.cst (.int 2)) (.blt .len false (.cons (.idx (.var 0) (.cst (.int 0))) .nil)))))
  .nil)
/-- _law_a, _law_b, _law_k, _law_rest -/
def B__law_common : Sts := (.cons (.asg 0 (.blt .abs false (.cons (.var 0) .nil)))
  (.cons (.asg 1 (.blt .abs false (.cons (.var 1) .nil)))
  (.cons (.for (.nm 2) (.rng1 (.cst (.int 4000))) (.cons (.ifs (.cmp .eq (.var 1) (.cst (.int 0))) (.cons (.ret (.var 0))
  .nil) .nil)
  (.cons (.asg 3 (.bin .mod (.blt .int false (.cons (.var 0) .nil)) (.var 1)))
  (.cons (.asg 0 (.var 1))
  (.cons (.asg 1 (.var 3))
  .nil)))))
  (.cons (.ret (.var 0))
  .nil))))
/-- _law_x -/
def B__law_whole : Sts := (.cons (.ret (.and (.cons (.blt .isinst false (.cons (.var 0) (.cons (.cls "int") .nil))) (.cons (.not (.blt .isinst false (.cons (.var 0) (.cons (.cls "bool") .nil)))) .nil))))
  .nil)
/-- _law_told, _law_many, _law_numbers, _law_common_here, _law_n -/
def B__law_equation (n__law_common : Nat) (n__law_whole : Nat) : Sts := (.cons (.ifs (.or (.cons (.not (.blt .isinst false (.cons (.var 0) (.cons (.cls "tuple") .nil)))) (.cons (.cmp .ne (.blt .len false (.cons (.var 0) .nil)) (.cst (.int 3))) (.cons (.not (.blt .isinst false (.cons (.idx (.var 0) (.cst (.int 2))) (.cons (.cls "tuple") .nil)))) (.cons (.cmp .ne (.blt .len false (.cons (.idx (.var 0) (.cst (.int 2))) .nil)) (.var 1)) .nil))))) (.cons (.ret (.cst (.bl false)))
  .nil) .nil)
  (.cons (.asg 2 (.bin .add (.lst false (.cons (.idx (.var 0) (.cst (.int 0))) (.cons (.idx (.var 0) (.cst (.int 1))) .nil))) (.blt .list false (.cons (.idx (.var 0) (.cst (.int 2))) .nil))))
  (.cons (.asg 3 (.cst (.int 0)))
  (.cons (.for (.nm 4) (.of (.var 2)) (.cons (.ifs (.not (.call n__law_whole (.cons (.var 4) .nil))) (.cons (.ret (.cst (.bl false)))
  .nil) .nil)
  (.cons (.asg 3 (.call n__law_common (.cons (.var 3) (.cons (.var 4) .nil))))
  .nil)))
  (.cons (.ret (.and (.cons (.cmp .ge (.idx (.var 0) (.cst (.int 0))) (.cst (.int 1))) (.cons (.cmp .eq (.var 3) (.cst (.int 1))) .nil))))
  .nil)))))
/-- _law_told, _law_worth, _law_slacks, _law_total, _law_k -/
def B__law_says : Sts := (.cons (.asg 3 (.idx (.var 0) (.cst (.int 1))))
  (.cons (.for (.nm 4) (.rng1 (.blt .len false (.cons (.var 2) .nil))) (.cons (.asg 3 (.bin .add (.var 3) (.bin .mul (.idx (.idx (.var 0) (.cst (.int 2))) (.var 4)) (.idx (.var 2) (.var 4)))))
  .nil))
  (.cons (.ret (.cmp .eq (.bin .mul (.idx (.var 0) (.cst (.int 0))) (.var 1)) (.var 3)))
  .nil)))
/-- _law_program_here, _law_q, _law_rows, _law_j -/
def B__law_inequality : Sts := (.cons (.asg 2 (.idx (.var 0) (.cst (.int 2))))
  (.cons (.ifs (.cmp .lt (.var 1) (.blt .len false (.cons (.var 2) .nil))) (.cons (.ret (.idx (.var 2) (.var 1)))
  .nil) .nil)
  (.cons (.asg 3 (.bin .fdiv (.bin .sub (.var 1) (.blt .len false (.cons (.var 2) .nil))) (.cst (.int 2))))
  (.cons (.ifs (.cmp .eq (.bin .mod (.blt .int false (.cons (.bin .sub (.var 1) (.blt .len false (.cons (.var 2) .nil))) .nil)) (.cst (.int 2))) (.cst (.int 0))) (.cons (.ret (.tup (.cons (.tup (.cons (.tup (.cons (.var 3) (.cons (.cst (.int 1)) .nil))) .nil)) (.cons (.idx (.idx (.var 0) (.cst (.int 1))) (.var 3)) .nil))))
  .nil) .nil)
  (.cons (.ret (.tup (.cons (.tup (.cons (.tup (.cons (.var 3) (.cons (.neg (.cst (.int 1))) .nil))) .nil)) (.cons (.neg (.idx (.idx (.var 0) (.cst (.int 0))) (.var 3))) .nil))))
  .nil)))))
/-- _law_terms_here, _law_point, _law_total, _law_v, _law_c -/
def B__law_sum : Sts := (.cons (.asg 2 (.cst (.int 0)))
  (.cons (.for (.tp [3, 4]) (.of (.var 0)) (.cons (.asg 2 (.bin .add (.var 2) (.bin .mul (.var 4) (.idx (.var 1) (.var 3)))))
  .nil))
  (.cons (.ret (.var 2))
  .nil)))
/-- _law_program_here, _law_q, _law_point, _law_terms_here, _law_rhs_here -/
def B__law_slack (n__law_inequality : Nat) (n__law_sum : Nat) : Sts := (.cons (.unp [3, 4] (.call n__law_inequality (.cons (.var 0) (.cons (.var 1) .nil))))
  (.cons (.ret (.bin .sub (.var 4) (.call n__law_sum (.cons (.var 3) (.cons (.var 2) .nil)))))
  .nil))
/-- _law_tape_here, _law_terms_here, _law_base, _law_large, _law_total, _law_v, _law_c -/
def B__law_rhs (n__law_draw : Nat) : Sts := (.cons (.ifs (.cmp .eq (.call n__law_draw (.cons (.var 0) (.cons (.cst (.int 5)) .nil))) (.cst (.int 0))) (.cons (.ret (.bin .sub (.bin .add (.bin .mul (.bin .sub (.call n__law_draw (.cons (.var 0) (.cons (.cst (.int 16)) .nil))) (.cst (.int 6))) (.var 3)) (.call n__law_draw (.cons (.var 0) (.cons (.cst (.int 3)) .nil)))) (.cst (.int 1))))
  .nil) .nil)
  (.cons (.asg 4 (.call n__law_draw (.cons (.var 0) (.cons (.cst (.int 4)) .nil))))
  (.cons (.for (.tp [5, 6]) (.of (.var 1)) (.cons (.asg 4 (.bin .add (.var 4) (.bin .mul (.var 6) (.idx (.var 2) (.var 5)))))
  .nil))
  (.cons (.ret (.var 4))
  .nil))))
/-- _law_tape_here, _law_many, _law_terms_here, _law_v, _law_c -/
def B__law_terms (n__law_draw : Nat) : Sts := (.cons (.asg 2 (.lst true .nil))
  (.cons (.for (.nm 3) (.rng1 (.var 1)) (.cons (.asg 4 (.bin .sub (.call n__law_draw (.cons (.var 0) (.cons (.cst (.int 7)) .nil))) (.cst (.int 3))))
  (.cons (.ifs (.cmp .ne (.var 4) (.cst (.int 0))) (.cons (.exp (.bme (.var 2) .append (.cons (.tup (.cons (.var 3) (.cons (.var 4) .nil))) .nil)))
  .nil) .nil)
  .nil)))
  (.cons (.ret (.blt .tuple false (.cons (.var 2) .nil)))
  .nil)))
/-- _law_tape_here, _law_most, _law_rows, _law_many, _law_large, _law_lows, _law_highs, _law_base, _law_j, _law_found, _law_i, _law_low, _law_terms_here, _law_v, _law_c -/
def B__law_program (n__law_draw : Nat) (n__law_rhs : Nat) (n__law_terms : Nat) : Sts := (.cons (.asg 3 (.bin .add (.cst (.int 1)) (.call n__law_draw (.cons (.var 0) (.cons (.var 1) .nil)))))
  (.cons (.asg 4 (.cst (.int 1)))
  (.cons (.ifs (.cmp .eq (.call n__law_draw (.cons (.var 0) (.cons (.cst (.int 6)) .nil))) (.cst (.int 0))) (.cons (.asg 4 (.bin .add (.cst (.int 1)) (.call n__law_draw (.cons (.var 0) (.cons (.cst (.int 1000000)) .nil)))))
  .nil) .nil)
  (.cons (.asg 5 (.lst true .nil))
  (.cons (.asg 6 (.lst true .nil))
  (.cons (.asg 7 (.lst true .nil))
  (.cons (.for (.nm 8) (.rng1 (.var 3)) (.cons (.asg 11 (.bin .sub (.bin .mul (.bin .sub (.call n__law_draw (.cons (.var 0) (.cons (.cst (.int 7)) .nil))) (.cst (.int 3))) (.var 4)) (.call n__law_draw (.cons (.var 0) (.cons (.cst (.int 2)) .nil)))))
  (.cons (.exp (.bme (.var 5) .append (.cons (.var 11) .nil)))
  (.cons (.exp (.bme (.var 6) .append (.cons (.bin .add (.var 11) (.bin .mul (.call n__law_draw (.cons (.var 0) (.cons (.cst (.int 5)) .nil))) (.var 4))) .nil)))
  (.cons (.exp (.bme (.var 7) .append (.cons (.bin .add (.var 11) (.call n__law_draw (.cons (.var 0) (.cons (.bin .add (.bin .sub (.idx (.var 6) (.var 8)) (.var 11)) (.cst (.int 1))) .nil)))) .nil)))
  .nil)))))
  (.cons (.asg 9 (.lst true .nil))
  (.cons (.for (.nm 10) (.rng1 (.call n__law_draw (.cons (.var 0) (.cons (.bin .add (.var 2) (.cst (.int 1))) .nil)))) (.cons (.asg 12 (.call n__law_terms (.cons (.var 0) (.cons (.var 3) .nil))))
  (.cons (.ifs (.cmp .eq (.call n__law_draw (.cons (.var 0) (.cons (.cst (.int 5)) .nil))) (.cst (.int 0))) (.cons (.asg 12 (.blt .tuple false (.cons (.comp false (.tup (.cons (.var 13) (.cons (.bin .mul (.var 14) (.var 4)) .nil))) (.tp [13, 14]) (.of (.var 12)) .no) .nil)))
  .nil) .nil)
  (.cons (.exp (.bme (.var 9) .append (.cons (.tup (.cons (.var 12) (.cons (.call n__law_rhs (.cons (.var 0) (.cons (.var 12) (.cons (.var 7) (.cons (.var 4) .nil))))) .nil))) .nil)))
  (.cons (.ifs (.cmp .eq (.call n__law_draw (.cons (.var 0) (.cons (.cst (.int 6)) .nil))) (.cst (.int 0))) (.cons (.asg 12 (.blt .tuple false (.cons (.comp false (.tup (.cons (.var 13) (.cons (.neg (.var 14)) .nil))) (.tp [13, 14]) (.of (.var 12)) .no) .nil)))
  (.cons (.exp (.bme (.var 9) .append (.cons (.tup (.cons (.var 12) (.cons (.call n__law_rhs (.cons (.var 0) (.cons (.var 12) (.cons (.var 7) (.cons (.var 4) .nil))))) .nil))) .nil)))
  .nil)) .nil)
  .nil)))))
  (.cons (.ret (.lst false (.cons (.blt .tuple false (.cons (.var 5) .nil)) (.cons (.blt .tuple false (.cons (.var 6) .nil)) (.cons (.blt .tuple false (.cons (.var 9) .nil)) (.cons (.call n__law_terms (.cons (.var 0) (.cons (.var 3) .nil))) .nil))))))
  .nil))))))))))
end A

set_option Elab.async false
set_option linter.all false
set_option maxRecDepth 100000
namespace Py
/-! Lp1: the laws' own small functions on programs. -/
local macro_rules | `(tactic| walk_at "w") => `(tactic| (repeat (first
  | with_reducible refine ss_cons ?_ | with_reducible refine ss_nil ?_ | with_reducible refine s_asg ?_ | with_reducible refine s_iset ?_ | with_reducible refine s_ret ?_ | with_reducible refine s_exp ?_ | with_reducible refine s_unp ?_ | with_reducible refine s_fset ?_
  | with_reducible refine e_var rfl ?_ | with_reducible refine e_int ?_ | with_reducible refine e_bl ?_ | with_reducible refine e_non ?_ | with_reducible refine e_str ?_ | with_reducible refine e_bin ?_ | with_reducible refine e_cmp ?_ | with_reducible refine e_idx ?_ | with_reducible refine e_neg ?_ | with_reducible refine e_blt ?_ | with_reducible refine e_and ?_ | with_reducible refine e_or ?_ | with_reducible refine e_not ?_
  | with_reducible refine e_tup ?_ | with_reducible refine e_lst ?_ | with_reducible refine e_call ?_ | with_reducible refine e_fld ?_ | with_reducible refine e_bme ?_ | with_reducible refine e_ite ?_ | with_reducible refine e_cls ?_ | with_reducible refine e_slc ?_ | with_reducible refine o_no ?_ | with_reducible refine o_yes ?_ | with_reducible refine e_comp ?_ | with_reducible refine w_of ?_ | with_reducible refine w_rng1 ?_ | with_reducible refine v_tup ?_ | with_reducible refine v_lst ?_
  | with_reducible refine es_nil ?_ | with_reducible refine es_cons ?_ | with_reducible refine and1 ?_ | with_reducible refine or1 ?_ | with_reducible refine and2 ?_ | with_reducible refine or2 ?_ | with_reducible refine e_meth ?_ | with_reducible refine e_new ?_
  | with_reducible refine k_neg ?_ | with_reducible refine b_add ?_ | with_reducible refine b_sub ?_ | with_reducible refine c_lt ?_ | with_reducible refine c_le ?_ | with_reducible refine c_gt ?_ | with_reducible refine c_ge ?_ | with_reducible refine c_eqI ?_ | with_reducible refine c_neI ?_
  | with_reducible refine i_ref (by assumption) rfl ?_ | with_reducible refine i_tup rfl ?_ | with_reducible refine i_lst rfl ?_ | with_reducible refine t_lenT ?_ | with_reducible refine t_lenL ?_ | with_reducible refine t_lenR (by assumption) ?_ | with_reducible refine t_int ?_ | with_reducible refine t_abs ?_ | with_reducible refine t_gcd ?_ | with_reducible refine t_tupT ?_ | with_reducible refine t_tupL ?_ | with_reducible refine t_tupR (by assumption) ?_ | with_reducible refine t_lstT ?_ | with_reducible refine t_lstL ?_ | with_reducible refine t_lstR (by assumption) ?_ | with_reducible refine t_lstS ?_
  | with_reducible refine t_isiT ?_ | with_reducible refine t_isiI ?_ | with_reducible refine t_isiB ?_ | with_reducible refine t_isiS ?_
  | with_reducible refine k_int ?_ | with_reducible refine k_len (Nat.le_of_ble_eq_true rfl) ?_ | with_reducible refine l_fz (Nat.le_of_ble_eq_true rfl) ?_ | with_reducible refine k_ift ?_ | with_reducible refine k_iff ?_ | with_reducible refine k_ifNT ?_ | with_reducible refine k_ifNF ?_ | with_reducible refine k_boolT ?_ | with_reducible refine k_boolF ?_)))
/-! ### _law_common -/
def Sm (n : Nat) (i : Int) : Prop := i.natAbs < 2 ^ n
theorem Sm.mul {i j : Int} {a b : Nat} (h1 : Sm a i) (h2 : Sm b j) (h : a + b < 134000000) : mulOk i j :=
  mulOk_of a b (Nat.lt_of_lt_of_le h1 (Nat.pow_le_pow_right (by decide) (by omega))) (Nat.lt_of_lt_of_le h2 (Nat.pow_le_pow_right (by decide) (by omega))) h
theorem Sm.mono {i : Int} {a b : Nat} (h : Sm a i) (k : a ≤ b) : Sm b i := Nat.lt_of_lt_of_le h (Nat.pow_le_pow_right (by decide) k)
/-- how many bits -/
def bits (n : Nat) : Nat := if n = 0 then 0 else n.log2 + 1
theorem bits_le {n b : Nat} (h : n < 2 ^ b) : bits n ≤ b := by
  unfold bits
  split
  · omega
  · rename_i hn
    exact (Nat.log2_lt hn).mpr h
theorem lt_bits (n : Nat) : n < 2 ^ bits n := by
  unfold bits
  split
  · subst_vars; decide
  · exact Nat.lt_log2_self
theorem bits_half {a b : Nat} (hb : 0 < b) (h : b ≤ a) : bits (a % b) + 1 ≤ bits a := by
  have ha : a < 2 ^ bits a := lt_bits a
  have h1 : 2 * (a % b) < a := by
    have := Nat.mod_add_div a b
    have h2 : 1 ≤ a / b := Nat.div_pos h hb
    have h3 : b ≤ b * (a / b) := Nat.le_mul_of_pos_right b h2
    have := Nat.mod_lt a hb
    omega
  cases e : bits a with
  | zero => rw [e] at ha; omega
  | succ k =>
    rw [e, Nat.pow_succ] at ha
    have := bits_le (n := a % b) (b := k) (by omega)
    omega
def spCommon : Sp := fun ds S Q _ => ∃ a b : Int, ds = [.int a, .int b] ∧ Sm 1990 b ∧ Q (.int (Nat.gcd a.natAbs b.natAbs : Nat)) S
theorem abs_if (i : Int) : (if i < 0 then -i else i) = (i.natAbs : Int) := by split <;> omega
theorem common_ok {C : Cfg} : DefOk C spCommon 2 4 A.B__law_common := by
  rintro ds S Q X ⟨a, b, rfl, hb, kq⟩
  refine ⟨rfl, ?_⟩
  unfold A.B__law_common
  walk_at "w"
  rw [abs_if, abs_if]
  refine s_for ?_
  walk_at "w"
  refine ⟨by decide, by decide, ?_⟩
  refine loop_rng (fun i ρ' S' => S' = S ∧ ∃ x y : Nat, ∃ r2 r3, ρ' = [some (.int (x : Int)), some (.int (y : Int)), r2, r3] ∧ Nat.gcd x y = Nat.gcd a.natAbs b.natAbs ∧ ((i = 0 ∧ y = b.natAbs) ∨ (y ≤ x ∧ bits x + bits y + i ≤ 3999))) ⟨rfl, a.natAbs, b.natAbs, none, none, rfl, rfl, .inl ⟨rfl, rfl⟩⟩ ?_ ?_
  · rintro i ρ' S' hi ⟨rfl, x, y, r2, r3, rfl, hg, hm⟩
    show wpSs _ _ _ _ _
    refine ss_cons (s_ifs ?_)
    walk_at "w"
    refine k_if (fun h => ?_) (fun h => ?_)
    · walk_at "w"
      have hy : y = 0 := by omega
      subst hy
      rw [Nat.gcd_zero_right] at hg
      rw [hg]
      exact .of kq
    · walk_at "w"
      refine b_mod (by omega) ?_
      walk_at "w"
      have hy : 0 < y := by omega
      have e : (x : Int).fmod (y : Int) = ((x % y : Nat) : Int) := by
        rw [Int.fmod_eq_emod_of_nonneg _ (by omega)]; rfl
      refine ⟨rfl, y, x % y, _, _, by rw [← e]; rfl, by rw [← hg, Nat.gcd_comm x y, Nat.gcd_rec y x, Nat.gcd_comm], .inr ⟨Nat.le_of_lt (Nat.mod_lt _ hy), ?_⟩⟩
      have h1 := bits_le (show y % (y) < 2 ^ 1990 from by rw [Nat.mod_self]; exact Nat.pow_pos (by decide))
      rcases hm with ⟨rfl, rfl⟩ | ⟨hle, hm⟩
      · have h2 := bits_le hb
        have h3 := bits_le (Nat.lt_trans (Nat.mod_lt x hy) hb)
        omega
      · have := bits_half hy hle
        omega
  · rintro ρ' S' ⟨rfl, x, y, r2, r3, rfl, hg, hm⟩
    rcases hm with ⟨h, _⟩ | ⟨_, h⟩
    · cases h
    · exfalso
      have : (4000 : Int).toNat = 4000 := rfl
      omega
/-! ### _law_whole: of an int -/
def spWhole : Sp := fun ds S Q _ => ∃ i : Int, ds = [.int i] ∧ Q (.bl true) S
theorem whole_ok {C : Cfg} : DefOk C spWhole 1 1 A.B__law_whole := by
  rintro ds S Q X ⟨i, rfl, kq⟩
  refine ⟨rfl, ?_⟩
  unfold A.B__law_whole
  walk_at "w"
  exact .of kq
/-! ### programs -/
abbrev Terms := List (Nat × Int)
abbrev tmD (p : Nat × Int) : D := .tup [.int p.1, .int p.2]
abbrev termsD (ts : Terms) : D := .tup (ts.map tmD)
abbrev rowD (r : Terms × Int) : D := .tup [termsD r.1, .int r.2]
abbrev intsD (l : List Int) : D := .tup (l.map .int)
structure Prg where
  lows : List Int
  highs : List Int
  rows : List (Terms × Int)
  aim : Terms
def Prg.m (p : Prg) : Nat := p.lows.length
def Prg.R (p : Prg) : Nat := p.rows.length
abbrev Prg.d (p : Prg) : D := .lst [intsD p.lows, intsD p.highs, .tup (p.rows.map rowD), termsD p.aim]
/-- terms of m unknowns, in their order -/
def TOk (m : Nat) (ts : Terms) : Prop := (ts.map (·.1)).Pairwise (· < ·) ∧ ∀ p ∈ ts, p.1 < m ∧ Sm 40 p.2
def TOkB (m b : Nat) (ts : Terms) : Prop := (ts.map (·.1)).Pairwise (· < ·) ∧ ∀ p ∈ ts, p.1 < m ∧ Sm b p.2
structure POk (p : Prg) : Prop where
  m1 : 1 ≤ p.m
  m2 : p.m ≤ 60
  h : p.highs.length = p.m
  r2 : p.R ≤ 1000
  lo : ∀ z ∈ p.lows, Sm 40 z
  hi : ∀ z ∈ p.highs, Sm 40 z
  lh : ∀ j, j < p.m → p.lows.getD j 0 ≤ p.highs.getD j 0
  rows : ∀ r ∈ p.rows, TOkB p.m 40 r.1 ∧ Sm 60 r.2
  aim : TOkB p.m 40 p.aim
theorem sm_getD {l : List Int} {b j : Nat} (h : ∀ z ∈ l, Sm b z) (hb : 0 < b) : Sm b (l.getD j 0) := by
  by_cases hj : j < l.length
  · simp only [List.getD, List.getElem?_eq_getElem hj, Option.getD_some]
    exact h _ (List.getElem_mem hj)
  · simp only [List.getD, List.getElem?_eq_none (by omega : l.length ≤ j), Option.getD_none]
    exact Nat.pow_pos (by decide)
theorem Sm.neg {b : Nat} {i : Int} (h : Sm b i) : Sm b (-i) := by unfold Sm at *; omega
/-- the q-th inequality -/
def Prg.ineq (p : Prg) (q : Nat) : Terms × Int :=
  if q < p.R then p.rows.getD q ([], 0) else if (q - p.R) % 2 = 0 then ([((q - p.R) / 2, 1)], p.highs.getD ((q - p.R) / 2) 0) else ([((q - p.R) / 2, -1)], -(p.lows.getD ((q - p.R) / 2) 0))
theorem POk.ineq {p : Prg} (P : POk p) {q : Nat} (hq : q < p.R + 2 * p.m) : TOkB p.m 40 (p.ineq q).1 ∧ Sm 60 (p.ineq q).2 := by
  unfold Prg.ineq
  split
  · rename_i h
    have h' : q < p.rows.length := h
    simp only [List.getD, List.getElem?_eq_getElem h', Option.getD_some]
    exact P.rows _ (List.getElem_mem h')
  · have hj : (q - p.R) / 2 < p.m := by omega
    split
    · refine ⟨⟨by simp, fun x hx => ?_⟩, (sm_getD P.hi (by decide)).mono (by decide)⟩
      simp only [List.mem_cons, List.not_mem_nil, or_false] at hx
      subst hx
      exact ⟨hj, show (1 : Int).natAbs < 2 ^ 40 by decide⟩
    · refine ⟨⟨by simp, fun x hx => ?_⟩, ((sm_getD P.lo (by decide)).mono (by decide)).neg⟩
      simp only [List.mem_cons, List.not_mem_nil, or_false] at hx
      subst hx
      exact ⟨hj, show (-1 : Int).natAbs < 2 ^ 40 by decide⟩
def spCount : Sp := fun ds S Q _ => ∃ p : Prg, POk p ∧ ds = [p.d] ∧ Q (.int ((p.R + 2 * p.m : Nat) : Int)) S
theorem count_ok {C : Cfg} : DefOk C spCount 1 1 A.B__law_count := by
  rintro ds S Q X ⟨p, P, rfl, kq⟩
  refine ⟨rfl, ?_⟩
  unfold A.B__law_count
  walk_at "w"
  have h2 := P.m2
  unfold Prg.m at h2
  refine b_mul (small_mul (by omega) (by omega) (by omega) (by simp; omega)) ?_
  · walk_at "w"
    refine .of ?_
    simpa [Prg.R, Prg.m] using kq
def spIneq : Sp := fun ds S Q _ => ∃ (p : Prg) (q : Nat), POk p ∧ ds = [p.d, .int q] ∧ q < p.R + 2 * p.m ∧ Q (rowD (p.ineq q)) S
theorem two_div {i : Nat} : (i : Int).fdiv 2 = ((i / 2 : Nat) : Int) := by rw [Int.fdiv_eq_ediv_of_nonneg _ (by decide)]; rfl
theorem two_mod {i : Nat} : (i : Int).fmod 2 = ((i % 2 : Nat) : Int) := by rw [Int.fmod_eq_emod_of_nonneg _ (by decide)]; rfl
theorem ineq_ok {C : Cfg} : DefOk C spIneq 2 4 A.B__law_inequality := by
  rintro ds S Q X ⟨p, q, P, rfl, hq, kq⟩
  refine ⟨rfl, ?_⟩
  unfold A.B__law_inequality
  have hl : (p.rows.map rowD).length = p.R := by simp [Prg.R]
  walk_at "w"
  refine s_ifs ?_
  walk_at "w"
  rw [hl]
  refine k_if (fun h => ?_) (fun h => ?_)
  · have h' : q < p.rows.length := by unfold Prg.R at h; omega
    walk_at "w"
    refine i_tup (atI_nat (d := rowD (p.ineq q)) ?_) (.of kq)
    rw [List.getElem?_map, List.getElem?_eq_getElem h']
    have : q < p.R := h'
    simp [Prg.ineq, this, h']
  · walk_at "w"
    rw [hl]
    have e : ((q : Int) - (p.R : Int)) = ((q - p.R : Nat) : Int) := by omega
    refine b_fdiv ⟨by decide, by decide⟩ ?_
    walk_at "w"
    refine s_ifs ?_
    walk_at "w"
    rw [hl]
    refine b_mod (by decide) ?_
    walk_at "w"
    rw [e, two_mod, two_div]
    have hn : ¬ q < p.R := by omega
    have hj : (q - p.R) / 2 < p.m := by omega
    have hh := P.h
    refine k_if (fun h => ?_) (fun h => ?_)
    · have h' : (q - p.R) % 2 = 0 := by omega
      walk_at "w"
      refine i_tup (atI_int (by omega)) ?_
      walk_at "w"
      refine .of ?_
      simpa [Prg.ineq, hn, h', rowD, termsD, tmD] using kq
    · have h' : ¬ (q - p.R) % 2 = 0 := by omega
      walk_at "w"
      refine i_tup (atI_int (by unfold Prg.m at hj; omega)) ?_
      walk_at "w"
      refine .of ?_
      simpa [Prg.ineq, hn, h', rowD, termsD, tmD] using kq
/-! ### sums -/
def tsum (ts : Terms) (pt : List Int) : Int := ts.foldl (fun t p => t + p.2 * pt.getD p.1 0) 0
def spSum : Sp := fun ds S Q _ => ∃ (m : Nat) (ts : Terms) (pt : List Int), ds = [termsD ts, intsD pt] ∧ TOkB m 40 ts ∧ pt.length = m ∧ (∀ z ∈ pt, Sm 1000000 z) ∧ Q (.int (tsum ts pt)) S
theorem sum_ok {C : Cfg} : DefOk C spSum 2 5 A.B__law_sum := by
  rintro ds S Q X ⟨m, ts, pt, rfl, ht, hm, hp, kq⟩
  refine ⟨rfl, ?_⟩
  unfold A.B__law_sum
  walk_at "w"
  refine s_for ?_
  walk_at "w"
  refine loop_map (fun pre ρ' S' => S' = S ∧ ∃ x3 x4, ρ' = [some (termsD ts), some (intsD pt), some (.int (tsum pre pt)), x3, x4]) ⟨rfl, _, _, rfl⟩ ?_ ?_
  · rintro pre ⟨v, c⟩ suf ρ' S' e ⟨rfl, x3, x4, rfl⟩
    have hx := ht.2 (v, c) (by rw [e]; simp)
    refine ⟨_, rfl, rfl, ?_⟩
    show wpSs _ _ _ [_, _, _, some (.int (v : Int)), some (.int c)] _
    walk_at "w"
    refine i_tup (atI_int (by omega)) ?_
    refine b_mul (Sm.mul hx.2 (sm_getD hp (by decide)) (by decide)) ?_
    walk_at "w"
    refine ⟨rfl, some (.int v), some (.int c), ?_⟩
    simp [tsum, List.foldl_append]
  · rintro ρ' S' ⟨rfl, x3, x4, rfl⟩
    walk_at "w"
    exact .of kq
def spSlack : Sp := fun ds S Q _ => ∃ (p : Prg) (q : Nat) (pt : List Int), POk p ∧ ds = [p.d, .int q, intsD pt] ∧ q < p.R + 2 * p.m ∧ pt.length = p.m ∧ (∀ z ∈ pt, Sm 1000000 z) ∧ Q (.int ((p.ineq q).2 - tsum (p.ineq q).1 pt)) S
theorem slack_ok {C : Cfg} {ni ns : Nat} (hi : C.fn ni = spIneq) (hs : C.fn ns = spSum) : DefOk C spSlack 3 5 (A.B__law_slack ni ns) := by
  rintro ds S Q X ⟨p, q, pt, P, rfl, hq, hl, hp, kq⟩
  refine ⟨rfl, ?_⟩
  unfold A.B__law_slack
  walk_at "w"
  rw [hi]
  refine ⟨p, q, P, rfl, hq, ?_⟩
  refine ⟨_, rfl, rfl, ?_⟩
  show wpSs _ _ _ [_, _, _, some (termsD (p.ineq q).1), some (.int (p.ineq q).2)] _
  walk_at "w"
  rw [hs]
  refine ⟨p.m, (p.ineq q).1, pt, rfl, (P.ineq hq).1, hl, hp, ?_⟩
  walk_at "w"
  exact .of kq
end Py

set_option Elab.async false
set_option linter.all false
set_option maxRecDepth 100000
namespace Py
/-! Lp2: the drawn programs. -/
local macro_rules | `(tactic| walk_at "w") => `(tactic| (repeat (first
  | with_reducible refine ss_cons ?_ | with_reducible refine ss_nil ?_ | with_reducible refine s_asg ?_ | with_reducible refine s_iset ?_ | with_reducible refine s_ret ?_ | with_reducible refine s_exp ?_ | with_reducible refine s_unp ?_ | with_reducible refine s_fset ?_
  | with_reducible refine e_var rfl ?_ | with_reducible refine e_int ?_ | with_reducible refine e_bl ?_ | with_reducible refine e_non ?_ | with_reducible refine e_str ?_ | with_reducible refine e_bin ?_ | with_reducible refine e_cmp ?_ | with_reducible refine e_idx ?_ | with_reducible refine e_neg ?_ | with_reducible refine e_blt ?_ | with_reducible refine e_and ?_ | with_reducible refine e_or ?_ | with_reducible refine e_not ?_
  | with_reducible refine e_tup ?_ | with_reducible refine e_lst ?_ | with_reducible refine e_call ?_ | with_reducible refine e_fld ?_ | with_reducible refine e_bme ?_ | with_reducible refine e_ite ?_ | with_reducible refine e_cls ?_ | with_reducible refine e_slc ?_ | with_reducible refine o_no ?_ | with_reducible refine o_yes ?_ | with_reducible refine e_comp ?_ | with_reducible refine w_of ?_ | with_reducible refine w_rng1 ?_ | with_reducible refine v_tup ?_ | with_reducible refine v_lst ?_
  | with_reducible refine es_nil ?_ | with_reducible refine es_cons ?_ | with_reducible refine and1 ?_ | with_reducible refine or1 ?_ | with_reducible refine and2 ?_ | with_reducible refine or2 ?_ | with_reducible refine e_meth ?_ | with_reducible refine e_new ?_
  | with_reducible refine k_neg ?_ | with_reducible refine b_add ?_ | with_reducible refine b_sub ?_ | with_reducible refine c_lt ?_ | with_reducible refine c_le ?_ | with_reducible refine c_gt ?_ | with_reducible refine c_ge ?_ | with_reducible refine c_eqI ?_ | with_reducible refine c_neI ?_
  | with_reducible refine i_ref (by assumption) rfl ?_ | with_reducible refine i_tup rfl ?_ | with_reducible refine i_lst rfl ?_ | with_reducible refine t_lenT ?_ | with_reducible refine t_lenL ?_ | with_reducible refine t_lenR (by assumption) ?_ | with_reducible refine t_int ?_ | with_reducible refine t_abs ?_ | with_reducible refine t_gcd ?_ | with_reducible refine t_tupT ?_ | with_reducible refine t_tupL ?_ | with_reducible refine t_tupR (by assumption) ?_ | with_reducible refine t_lstT ?_ | with_reducible refine t_lstL ?_ | with_reducible refine t_lstR (by assumption) ?_ | with_reducible refine t_lstS ?_
  | with_reducible refine t_isiT ?_ | with_reducible refine t_isiI ?_ | with_reducible refine t_isiB ?_ | with_reducible refine t_isiS ?_
  | with_reducible refine k_int ?_ | with_reducible refine k_len (Nat.le_of_ble_eq_true rfl) ?_ | with_reducible refine l_fz (Nat.le_of_ble_eq_true rfl) ?_ | with_reducible refine k_ift ?_ | with_reducible refine k_iff ?_ | with_reducible refine k_ifNT ?_ | with_reducible refine k_ifNF ?_ | with_reducible refine k_boolT ?_ | with_reducible refine k_boolF ?_)))
section
variable {C : Cfg} {nd : Nat} {S : Store} {Q : Post} {X : Exc → Store → Prop}
theorem k_draw (hd : C.fn nd = spDraw) {a k : Nat} {m : Int} (ht : tapeOk S a k) (hk : k ≤ 10 ^ 30) (hm : 1 ≤ m) (hl : m ≤ 10 ^ 60) (h : ∀ v S', 0 ≤ v → v < m → tapeOk S' a (k + 1) → Kp [a] S S' → Q (.int v) S') : C.fn nd [.ref a, .int m] S Q X := by
  rw [hd]
  refine ⟨a, m, k, rfl, ht, hk, hm, ?_, h⟩
  have h1 : m.natAbs ≤ 10 ^ 60 := by omega
  exact Nat.lt_of_le_of_lt (log2_mono h1) (by decide +kernel)
theorem tapeOk.there {a k : Nat} (h : tapeOk S a k) : S a ≠ none := by
  obtain ⟨cs, k, w, h, _⟩ := h
  rw [h]; exact fun z => by cases z
theorem tapeOk.put {a k l : Nat} {o : Obj} (h : tapeOk S a k) (n : a ≠ l) : tapeOk (put S l o) a k := by
  obtain ⟨cs, k, w, h, r⟩ := h
  exact ⟨cs, k, w, by rw [put_ne n]; exact h, r⟩
theorem tapeOk.mono {a k k' : Nat} (h : tapeOk S a k) (n : k ≤ k') : tapeOk S a k' := by
  obtain ⟨cs, k, w, h, h1, h2, h3, h4⟩ := h
  exact ⟨cs, k, w, h, h1, h2, by omega, h4⟩
theorem tapeOk.keep {a k : Nat} {S' : Store} {M : List Nat} (h : tapeOk S a k) (n : a ∉ M) (kp : Kp M S S') : tapeOk S' a k := by
  obtain ⟨cs, k, w, h, r⟩ := h
  exact ⟨cs, k, w, kp _ _ h n, r⟩
theorem Kp.mono {M M' : List Nat} {S S' : Store} (h : Kp M S S') (k : ∀ a, a ∈ M → a ∈ M') : Kp M' S S' := fun b o e n => h b o e fun z => n (k b z)
/-- .. an object that was not there before -/
theorem Kp.upN {M : List Nat} {S S' : Store} {l : Nat} {o : Obj} (h : Kp M S S') (hl : S l = none) : Kp M S (put S' l o) := fun b u e n => by
  rw [put_ne (fun z => by subst z; rw [hl] at e; cases e)]; exact h b u e n
end
/-! ### _law_terms -/
def spTerms : Sp := fun ds S Q _ => ∃ (a m k : Nat), ds = [.ref a, .int m] ∧ tapeOk S a k ∧ k + m ≤ 10 ^ 29 ∧ m ≤ 60 ∧ ∀ ts S', TOkB m 2 ts → tapeOk S' a (k + m) → Kp [a] S S' → Q (termsD ts) S'
theorem terms_ok {C : Cfg} {nd : Nat} (hC : Mono C) (hd : C.fn nd = spDraw) : DefOk C spTerms 2 5 (A.B__law_terms nd) := by
  rintro ds S Q X ⟨a, m, k, rfl, ht, hk, hm, kq⟩
  refine ⟨rfl, ?_⟩
  unfold A.B__law_terms
  walk_at "w"
  refine l_mt (Nat.le_of_ble_eq_true rfl) fun l hl => ?_
  have nl : a ≠ l := fun z => ht.there (z ▸ hl)
  walk_at "w"
  refine s_for ?_
  walk_at "w"
  refine ⟨by omega, by omega, ?_⟩
  refine loop_rng (fun i ρ' S' => ∃ ts : Terms, ∃ x3 x4, ρ' = [some (.ref a), some (.int m), some (.ref l), x3, x4] ∧ TOkB i 2 ts ∧ ts.length ≤ i ∧ S' l = some (.lst (ts.map tmD)) ∧ tapeOk S' a (k + i) ∧ Kp [a] S S')
    ⟨[], none, none, rfl, ⟨by simp, by simp⟩, Nat.le_refl _, put_same, ht.put nl, Kp.refl.nw hl⟩ ?_ ?_
  · rintro i ρ' S1 hi ⟨ts, x3, x4, rfl, hts, htl, hS, ht1, kp⟩
    have hi' : i < m := by omega
    show wpSs _ _ _ [_, _, _, some (.int (i : Int)), _] _
    walk_at "w"
    refine k_draw hd ht1 (by omega) (by decide) (by decide) fun v S2 h0 h1 ht2 kp2 => ?_
    walk_at "w"
    have hS2 : S2 l = some (.lst (ts.map tmD)) := kp2 _ _ hS (by simpa using nl.symm)
    have up : ∀ p ∈ ts, p.1 < i + 1 ∧ Sm 2 p.2 := fun p hp => ⟨by have := (hts.2 p hp).1; omega, (hts.2 p hp).2⟩
    refine s_ifs ?_
    walk_at "w"
    refine k_if (fun h => ?_) (fun h => ?_)
    · walk_at "w"
      refine k_recv hS2 ?_
      walk_at "w"
      refine m_app hS2 (by simp [lim]; omega) ?_
      refine ⟨ts ++ [(i, v - 3)], _, _, rfl, ⟨?_, ?_⟩, by simp; omega, by rw [put_same, List.map_append]; rfl, (ht2.put nl).mono (by omega), (kp.trans kp2).upN hl⟩
      · rw [List.map_append, List.pairwise_append]
        refine ⟨hts.1, by simp, fun x hx y hy => ?_⟩
        simp only [List.map_cons, List.map_nil, List.mem_cons, List.not_mem_nil, or_false] at hy
        obtain ⟨p, hp, rfl⟩ := List.mem_map.mp hx
        have := (hts.2 p hp).1
        omega
      · intro p hp
        rcases List.mem_append.mp hp with hp | hp
        · exact up p hp
        · simp only [List.mem_cons, List.not_mem_nil, or_false] at hp
          subst hp
          exact ⟨Nat.lt_succ_self i, show (v - 3).natAbs < 2 ^ 2 by omega⟩
    · exact ⟨ts, _, _, rfl, ⟨hts.1, up⟩, by omega, hS2, ht2.mono (by omega), kp.trans kp2⟩
  · rintro ρ' S' ⟨ts, x3, x4, rfl, hts, htl, hS, ht1, kp⟩
    walk_at "w"
    refine .of (kq ts S' ?_ ?_ kp)
    · simpa using hts
    · simpa using ht1
/-! ### _law_rhs -/
theorem sm_prod {b c : Nat} {i j : Int} (h1 : Sm b i) (h2 : Sm c j) : (i * j).natAbs ≤ 2 ^ (b + c) := by
  rw [Int.natAbs_mul, Nat.pow_add]
  exact Nat.mul_le_mul (Nat.le_of_lt h1) (Nat.le_of_lt h2)
def spRhs : Sp := fun ds S Q _ => ∃ (a k m bs : Nat) (ts : Terms) (base : List Int) (large : Int), ds = [.ref a, termsD ts, .ref bs, .int large] ∧ tapeOk S a k ∧ k + 2 ≤ 10 ^ 29 ∧ TOkB m 24 ts ∧ ts.length ≤ 60 ∧ base.length = m ∧ (∀ z ∈ base, Sm 24 z) ∧ S bs = some (.lst (base.map .int)) ∧ bs ≠ a ∧
  1 ≤ large ∧ large ≤ 1000000 ∧ ∀ r S', Sm 60 r → tapeOk S' a (k + 3) → Kp [a] S S' → Q (.int r) S'
theorem rhs_ok {C : Cfg} {nd : Nat} (hC : Mono C) (hd : C.fn nd = spDraw) : DefOk C spRhs 4 7 (A.B__law_rhs nd) := by
  rintro ds S Q X ⟨a, k, m, bs, ts, base, large, rfl, ht, hk, hts, htl, hb, hbs, hS, nb, hl1, hl2, kq⟩
  refine ⟨rfl, ?_⟩
  unfold A.B__law_rhs
  walk_at "w"
  refine s_ifs ?_
  walk_at "w"
  refine k_draw hd ht (by omega) (by decide) (by decide) fun v S1 h0 h1 ht1 kp1 => ?_
  walk_at "w"
  refine k_if (fun h => ?_) (fun h => ?_)
  · walk_at "w"
    refine k_draw hd ht1 (by omega) (by decide) (by decide) fun u S2 u0 u1 ht2 kp2 => ?_
    walk_at "w"
    refine b_mul (small_mul (by omega) (by omega) (by omega) (by omega)) ?_
    walk_at "w"
    refine k_draw hd ht2 (by omega) (by decide) (by decide) fun t S3 t0 t1 ht3 kp3 => ?_
    walk_at "w"
    refine .of (kq _ _ ?_ ht3 ((kp1.trans kp2).trans kp3))
    have b1 : -6000000 ≤ (u - 6) * large := by
      rcases Int.le_total 0 (u - 6) with h | h
      · have := Int.mul_nonneg h (by omega : 0 ≤ large); omega
      · have h1 : (u - 6) * large ≥ (u - 6) * 1000000 := Int.mul_le_mul_of_nonpos_left h hl2
        omega
    have b2 : (u - 6) * large ≤ 10000000 := by
      rcases Int.le_total 0 (u - 6) with h | h
      · have h1 : (u - 6) * large ≤ (u - 6) * 1000000 := Int.mul_le_mul_of_nonneg_left hl2 h
        omega
      · have := Int.mul_nonpos_of_nonpos_of_nonneg h (by omega : 0 ≤ large); omega
    show ((u - 6) * large + t - 1).natAbs < 2 ^ 60
    omega
  · walk_at "w"
    refine k_draw hd ht1 (by omega) (by decide) (by decide) fun u S2 u0 u1 ht2 kp2 => ?_
    walk_at "w"
    refine s_for ?_
    walk_at "w"
    have hS2 : S2 bs = some (.lst (base.map .int)) := kp2 _ _ (kp1 _ _ hS (by simpa using nb)) (by simpa using nb)
    refine loop_map (fun pre ρ' S' => S' = S2 ∧ ∃ (t : Int) (x5 x6 : Option D), ρ' = [some (.ref a), some (termsD ts), some (.ref bs), some (.int large), some (.int t), x5, x6] ∧ t.natAbs ≤ 4 + pre.length * 2 ^ 48) ⟨rfl, u, _, _, rfl, by simp; omega⟩ ?_ ?_
    · rintro pre ⟨v, c⟩ suf ρ' S' e ⟨rfl, t, x5, x6, rfl, hb2⟩
      have hx := hts.2 (v, c) (by rw [e]; simp)
      refine ⟨_, rfl, rfl, ?_⟩
      show wpSs _ _ _ [_, _, _, _, _, some (.int (v : Int)), some (.int c)] _
      walk_at "w"
      refine i_ref hS2 (atI_int (by omega)) ?_
      have h2 : Sm 24 (base.getD v 0) := sm_getD hbs (by decide)
      refine b_mul (Sm.mul hx.2 h2 (by decide)) ?_
      walk_at "w"
      refine ⟨rfl, t + c * base.getD v 0, some (.int v), some (.int c), rfl, ?_⟩
      have h3 := sm_prod hx.2 h2
      have h4 := Int.natAbs_add_le t (c * base.getD v 0)
      simp only [List.length_append, List.length_cons, List.length_nil]
      have h5 : (2 : Nat) ^ (24 + 24) = 2 ^ 48 := rfl
      rw [h5] at h3
      have h6 : (pre.length + (0 + 1)) * 2 ^ 48 = pre.length * 2 ^ 48 + 2 ^ 48 := by rw [Nat.add_mul]
      have h7 : ((v, c).snd * base.getD v 0).natAbs = (c * base.getD v 0).natAbs := rfl
      omega
    · rintro ρ' S' ⟨rfl, t, x5, x6, rfl, hb2⟩
      walk_at "w"
      refine .of (kq t S' ?_ (ht2.mono (by omega)) (kp1.trans kp2))
      have : ts.length * 2 ^ 48 ≤ 60 * 2 ^ 48 := Nat.mul_le_mul_right _ htl
      show t.natAbs < 2 ^ 60
      omega
end Py

set_option Elab.async false
set_option linter.all false
set_option maxRecDepth 100000
namespace Py
/-! Lp3: the drawn programs: the whole of one. -/
local macro_rules | `(tactic| walk_at "w") => `(tactic| (repeat (first
  | with_reducible refine ss_cons ?_ | with_reducible refine ss_nil ?_ | with_reducible refine s_asg ?_ | with_reducible refine s_iset ?_ | with_reducible refine s_ret ?_ | with_reducible refine s_exp ?_ | with_reducible refine s_unp ?_ | with_reducible refine s_fset ?_
  | with_reducible refine e_var rfl ?_ | with_reducible refine e_int ?_ | with_reducible refine e_bl ?_ | with_reducible refine e_non ?_ | with_reducible refine e_str ?_ | with_reducible refine e_bin ?_ | with_reducible refine e_cmp ?_ | with_reducible refine e_idx ?_ | with_reducible refine e_neg ?_ | with_reducible refine e_blt ?_ | with_reducible refine e_and ?_ | with_reducible refine e_or ?_ | with_reducible refine e_not ?_
  | with_reducible refine e_tup ?_ | with_reducible refine e_lst ?_ | with_reducible refine e_call ?_ | with_reducible refine e_fld ?_ | with_reducible refine e_bme ?_ | with_reducible refine e_ite ?_ | with_reducible refine e_cls ?_ | with_reducible refine e_slc ?_ | with_reducible refine o_no ?_ | with_reducible refine o_yes ?_ | with_reducible refine e_comp ?_ | with_reducible refine w_of ?_ | with_reducible refine w_rng1 ?_ | with_reducible refine v_tup ?_ | with_reducible refine v_lst ?_
  | with_reducible refine es_nil ?_ | with_reducible refine es_cons ?_ | with_reducible refine and1 ?_ | with_reducible refine or1 ?_ | with_reducible refine and2 ?_ | with_reducible refine or2 ?_ | with_reducible refine e_meth ?_ | with_reducible refine e_new ?_
  | with_reducible refine k_neg ?_ | with_reducible refine b_add ?_ | with_reducible refine b_sub ?_ | with_reducible refine c_lt ?_ | with_reducible refine c_le ?_ | with_reducible refine c_gt ?_ | with_reducible refine c_ge ?_ | with_reducible refine c_eqI ?_ | with_reducible refine c_neI ?_
  | with_reducible refine i_ref (by assumption) rfl ?_ | with_reducible refine i_tup rfl ?_ | with_reducible refine i_lst rfl ?_ | with_reducible refine t_lenT ?_ | with_reducible refine t_lenL ?_ | with_reducible refine t_lenR (by assumption) ?_ | with_reducible refine t_int ?_ | with_reducible refine t_abs ?_ | with_reducible refine t_gcd ?_ | with_reducible refine t_tupT ?_ | with_reducible refine t_tupL ?_ | with_reducible refine t_tupR (by assumption) ?_ | with_reducible refine t_lstT ?_ | with_reducible refine t_lstL ?_ | with_reducible refine t_lstR (by assumption) ?_ | with_reducible refine t_lstS ?_
  | with_reducible refine t_isiT ?_ | with_reducible refine t_isiI ?_ | with_reducible refine t_isiB ?_ | with_reducible refine t_isiS ?_
  | with_reducible refine k_int ?_ | with_reducible refine k_len (Nat.le_of_ble_eq_true rfl) ?_ | with_reducible refine l_fz (Nat.le_of_ble_eq_true rfl) ?_ | with_reducible refine k_ift ?_ | with_reducible refine k_iff ?_ | with_reducible refine k_ifNT ?_ | with_reducible refine k_ifNF ?_ | with_reducible refine k_boolT ?_ | with_reducible refine k_boolF ?_)))
theorem TOkB.mono {m b m' b' : Nat} {ts : Terms} (h : TOkB m b ts) (k : m ≤ m') (kb : b ≤ b') : TOkB m' b' ts := ⟨h.1, fun p hp => ⟨Nat.lt_of_lt_of_le (h.2 p hp).1 k, (h.2 p hp).2.mono kb⟩⟩
theorem TOkB.map {m b b' : Nat} {ts : Terms} (h : TOkB m b ts) (f : Int → Int) (hf : ∀ c, Sm b c → Sm b' (f c)) : TOkB m b' (ts.map fun p => (p.1, f p.2)) := by
  refine ⟨by rw [List.map_map]; exact h.1, fun p hp => ?_⟩
  obtain ⟨q, hq, rfl⟩ := List.mem_map.mp hp
  exact ⟨(h.2 q hq).1, hf _ (h.2 q hq).2⟩
theorem TOkB.len {m b : Nat} {ts : Terms} (h : TOkB m b ts) : ts.length ≤ m := by
  have nd : (ts.map (·.1)).Nodup := h.1.imp (fun h => by omega)
  have : (ts.map (·.1)).length ≤ (List.range m).length := by
    refine List.Nodup.length_le_of_subset nd fun x hx => ?_
    obtain ⟨p, hp, rfl⟩ := List.mem_map.mp hx
    exact List.mem_range.mpr (h.2 p hp).1
  simpa using this
theorem getD_app_lt {l r : List Int} {i : Nat} (h : i < l.length) : (l ++ r).getD i 0 = l.getD i 0 := by simp [List.getD, List.getElem?_append_left h]
theorem getD_app_eq {l : List Int} {x : Int} : (l ++ [x]).getD l.length 0 = x := by simp [List.getD]
def spProgram : Sp := fun ds S Q _ => ∃ (a k most rows : Nat), ds = [.ref a, .int most, .int rows] ∧ tapeOk S a k ∧ k ≤ 10 ^ 28 ∧ 1 ≤ most ∧ most ≤ 60 ∧ rows ≤ 100 ∧
  ∀ p S', POk p → p.m ≤ most → p.R ≤ 2 * rows → tapeOk S' a (k + 100000) → Kp [a] S S' → Q p.d S'
theorem program_ok {C : Cfg} {nd nr nt : Nat} (hC : Mono C) (hd : C.fn nd = spDraw) (hr : C.fn nr = spRhs) (ht : C.fn nt = spTerms) : DefOk C spProgram 3 15 (A.B__law_program nd nr nt) := by
  rintro ds S Q X ⟨a, k, most, rows, rfl, tp, hk, hm1, hm2, hro, kq⟩
  refine ⟨rfl, ?_⟩
  unfold A.B__law_program
  walk_at "w"
  refine k_draw hd tp (by omega) (by omega) (by omega) fun v S1 v0 v1 tp1 kp1 => ?_
  walk_at "w"
  obtain ⟨m, hm, hmm, hml⟩ : ∃ m : Nat, (1 + v : Int) = m ∧ 1 ≤ m ∧ m ≤ most := ⟨(1 + v).toNat, by omega, by omega, by omega⟩
  rw [hm]
  -- large
  refine s_mid hC (fun ρ' S' => ∃ large : Int, ρ' = [some (.ref a), some (.int most), some (.int rows), some (.int m), some (.int large), none, none, none, none, none, none, none, none, none, none] ∧ 1 ≤ large ∧ large ≤ 1000000 ∧ tapeOk S' a (k + 3) ∧ Kp [a] S S') ?_ ?_
  · refine s_ifs ?_
    walk_at "w"
    refine k_draw hd tp1 (by omega) (by decide) (by decide) fun w S2 w0 w1 tp2 kp2 => ?_
    walk_at "w"
    refine k_if (fun h => ?_) (fun h => ?_)
    · walk_at "w"
      refine k_draw hd tp2 (by omega) (by decide) (by decide) fun z S3 z0 z1 tp3 kp3 => ?_
      walk_at "w"
      exact ⟨1 + z, rfl, by omega, by omega, tp3, (kp1.trans kp2).trans kp3⟩
    · exact ⟨1, rfl, by decide, by decide, tp2.mono (by omega), kp1.trans kp2⟩
  rintro ρ' S2 ⟨large, rfl, hl1, hl2, tp2, kp2⟩
  walk_at "w"
  refine l_mt (Nat.le_of_ble_eq_true rfl) fun lo hlo => ?_
  walk_at "w"
  refine l_mt (Nat.le_of_ble_eq_true rfl) fun hi hhi => ?_
  walk_at "w"
  refine l_mt (Nat.le_of_ble_eq_true rfl) fun bs hbs => ?_
  walk_at "w"
  have nlo : a ≠ lo := fun z => tp2.there (z ▸ hlo)
  have nhl : lo ≠ hi := fun z => by subst z; rw [put_same] at hhi; cases hhi
  have hhi' : S2 hi = none := by rw [put_ne nhl.symm] at hhi; exact hhi
  have nhi : a ≠ hi := fun z => tp2.there (z ▸ hhi')
  have nbh : hi ≠ bs := fun z => by subst z; rw [put_same] at hbs; cases hbs
  have hbs1 : put S2 lo (.lst []) bs = none := by rw [put_ne nbh.symm] at hbs; exact hbs
  have nbl : lo ≠ bs := fun z => by subst z; rw [put_same] at hbs1; cases hbs1
  have hbs' : S2 bs = none := by rw [put_ne nbl.symm] at hbs1; exact hbs1
  have nbs : a ≠ bs := fun z => tp2.there (z ▸ hbs')
  have slo : S lo = none := by
    cases e : S lo with
    | none => rfl
    | some o => have := kp2 _ _ e (by simpa using nlo.symm); rw [hlo] at this; cases this
  have shi : S hi = none := by
    cases e : S hi with
    | none => rfl
    | some o => have := kp2 _ _ e (by simpa using nhi.symm); rw [hhi'] at this; cases this
  have sbs : S bs = none := by
    cases e : S bs with
    | none => rfl
    | some o => have := kp2 _ _ e (by simpa using nbs.symm); rw [hbs'] at this; cases this
  -- the bounds
  refine s_mid hC (fun ρ' S' => ∃ (x8 x11 : Option D) (lows highs base : List Int), ρ' = [some (.ref a), some (.int most), some (.int rows), some (.int m), some (.int large), some (.ref lo), some (.ref hi), some (.ref bs), x8, none, none, x11, none, none, none] ∧
    lows.length = m ∧ highs.length = m ∧ base.length = m ∧ (∀ z ∈ lows, Sm 22 z) ∧ (∀ z ∈ highs, Sm 23 z) ∧ (∀ z ∈ base, Sm 24 z) ∧ (∀ j, j < m → lows.getD j 0 ≤ highs.getD j 0) ∧
    S' lo = some (.lst (lows.map .int)) ∧ S' hi = some (.lst (highs.map .int)) ∧ S' bs = some (.lst (base.map .int)) ∧ tapeOk S' a (k + 3 + 4 * m) ∧ Kp [a] S S') ?_ ?_
  · refine s_for ?_
    walk_at "w"
    refine ⟨by omega, by omega, ?_⟩
    refine loop_rng (fun i ρ' S' => ∃ (x8 x11 : Option D) (lows highs base : List Int), ρ' = [some (.ref a), some (.int most), some (.int rows), some (.int m), some (.int large), some (.ref lo), some (.ref hi), some (.ref bs), x8, none, none, x11, none, none, none] ∧
      lows.length = i ∧ highs.length = i ∧ base.length = i ∧ (∀ z ∈ lows, Sm 22 z) ∧ (∀ z ∈ highs, Sm 23 z) ∧ (∀ z ∈ base, Sm 24 z) ∧ (∀ j, j < i → lows.getD j 0 ≤ highs.getD j 0) ∧
      S' lo = some (.lst (lows.map .int)) ∧ S' hi = some (.lst (highs.map .int)) ∧ S' bs = some (.lst (base.map .int)) ∧ tapeOk S' a (k + 3 + 4 * i) ∧ Kp [a] S S')
      ⟨none, none, [], [], [], rfl, rfl, rfl, rfl, by simp, by simp, by simp, by simp, by rw [put_ne nbl, put_ne nhl, put_same]; rfl, by rw [put_ne nbh, put_same]; rfl, put_same, ((tp2.put nlo).put nhi).put nbs, ((kp2.upN slo).upN shi).upN sbs⟩ ?_ ?_
    · rintro i ρ' S3 hi' ⟨x8, x11, lows, highs, base, rfl, e1, e2, e3, q1, q2, q3, q4, s1, s2, s3, tp3, kp3⟩
      have hi'' : i < m := by omega
      show wpSs _ _ _ [_, _, _, _, _, _, _, _, some (.int (i : Int)), _, _, _, _, _, _] _
      walk_at "w"
      refine k_draw hd tp3 (by omega) (by decide) (by decide) fun u S4 u0 u1 tp4 kp4 => ?_
      walk_at "w"
      refine b_mul (small_mul (by omega) (by omega) (by omega) (by omega)) ?_
      walk_at "w"
      refine k_draw hd tp4 (by omega) (by decide) (by decide) fun t S5 t0 t1 tp5 kp5 => ?_
      walk_at "w"
      have bd : -3000000 ≤ (u - 3) * large ∧ (u - 3) * large ≤ 3000000 := by
        constructor
        · rcases Int.le_total 0 (u - 3) with h | h
          · have := Int.mul_nonneg h (by omega : 0 ≤ large); omega
          · have h1 : (u - 3) * large ≥ (u - 3) * 1000000 := Int.mul_le_mul_of_nonpos_left h hl2
            omega
        · rcases Int.le_total 0 (u - 3) with h | h
          · have h1 : (u - 3) * large ≤ (u - 3) * 1000000 := Int.mul_le_mul_of_nonneg_left hl2 h
            omega
          · have := Int.mul_nonpos_of_nonpos_of_nonneg h (by omega : 0 ≤ large); omega
      have blow : -3000001 ≤ (u - 3) * large - t ∧ (u - 3) * large - t ≤ 3000000 := by omega
      clear bd
      generalize (u - 3) * large - t = low at blow ⊢
      have kp45 := kp4.trans kp5
      have s1' := kp45 _ _ s1 (by simpa using nlo.symm)
      have s2' := kp45 _ _ s2 (by simpa using nhi.symm)
      have s3' := kp45 _ _ s3 (by simpa using nbs.symm)
      refine k_recv s1' ?_
      walk_at "w"
      refine m_app s1' (by simp [lim]; omega) ?_
      walk_at "w"
      have s1a : put S5 lo (.lst (lows.map .int ++ [.int low])) lo = some (.lst ((lows ++ [low]).map .int)) := by rw [put_same, List.map_append]; rfl
      have s2a : put S5 lo (.lst (lows.map .int ++ [.int low])) hi = some (.lst (highs.map .int)) := by rw [put_ne nhl.symm]; exact s2'
      have s3a : put S5 lo (.lst (lows.map .int ++ [.int low])) bs = some (.lst (base.map .int)) := by rw [put_ne nbl.symm]; exact s3'
      have kpa : Kp [a] S (put S5 lo (.lst (lows.map .int ++ [.int low]))) := (kp3.trans kp45).upN slo
      have tpa := tp5.put nlo (o := .lst (lows.map .int ++ [.int low]))
      generalize put S5 lo (.lst (lows.map .int ++ [.int low])) = S6 at *
      refine k_recv s2a ?_
      walk_at "w"
      refine k_draw hd tpa (by omega) (by decide) (by decide) fun x S7 x0 x1 tp7 kp7 => ?_
      walk_at "w"
      refine b_mul (small_mul (by omega) (by omega) (by omega) (by omega)) ?_
      walk_at "w"
      have bx : 0 ≤ x * large ∧ x * large ≤ 4000000 := by
        refine ⟨Int.mul_nonneg x0 (by omega), ?_⟩
        have h1 : x * large ≤ x * 1000000 := Int.mul_le_mul_of_nonneg_left hl2 x0
        omega
      generalize x * large = y at *
      have s1b := kp7 _ _ s1a (by simpa using nlo.symm)
      have s2b := kp7 _ _ s2a (by simpa using nhi.symm)
      have s3b := kp7 _ _ s3a (by simpa using nbs.symm)
      refine m_app s2b (by simp [lim]; omega) ?_
      walk_at "w"
      have s1c : put S7 hi (.lst (highs.map .int ++ [.int (low + y)])) lo = some (.lst ((lows ++ [low]).map .int)) := by rw [put_ne nhl]; exact s1b
      have s2c : put S7 hi (.lst (highs.map .int ++ [.int (low + y)])) hi = some (.lst ((highs ++ [low + y]).map .int)) := by rw [put_same, List.map_append]; rfl
      have s3c : put S7 hi (.lst (highs.map .int ++ [.int (low + y)])) bs = some (.lst (base.map .int)) := by rw [put_ne nbh.symm]; exact s3b
      have kpc : Kp [a] S (put S7 hi (.lst (highs.map .int ++ [.int (low + y)]))) := (kpa.trans kp7).upN shi
      have tpc := tp7.put nhi (o := .lst (highs.map .int ++ [.int (low + y)]))
      generalize put S7 hi (.lst (highs.map .int ++ [.int (low + y)])) = S8 at *
      refine k_recv s3c ?_
      walk_at "w"
      refine i_ref s2c (atI_int (by simp; omega)) ?_
      have eg : (highs ++ [low + y]).getD i 0 = low + y := by rw [← e2]; exact getD_app_eq
      rw [eg]
      walk_at "w"
      refine k_draw hd tpc (by omega) (by omega) (by omega) fun z S9 z0 z1 tp9 kp9 => ?_
      walk_at "w"
      have s1d := kp9 _ _ s1c (by simpa using nlo.symm)
      have s2d := kp9 _ _ s2c (by simpa using nhi.symm)
      have s3d := kp9 _ _ s3c (by simpa using nbs.symm)
      refine m_app s3d (by simp [lim]; omega) ?_
      have app : ∀ {l : List Int} {b : Nat} {w : Int}, (∀ z ∈ l, Sm b z) → Sm b w → ∀ z ∈ l ++ [w], Sm b z := fun h1 h2 z hz => by
        rcases List.mem_append.mp hz with hz | hz
        · exact h1 z hz
        · simp only [List.mem_cons, List.not_mem_nil, or_false] at hz
          subst hz
          exact h2
      refine ⟨_, _, lows ++ [low], highs ++ [low + y], base ++ [low + z], rfl, by simp [e1], by simp [e2], by simp [e3], app q1 (show low.natAbs < 2 ^ 22 by omega), app q2 (show (low + y).natAbs < 2 ^ 23 by omega), app q3 (show (low + z).natAbs < 2 ^ 24 by omega), ?_, ?_, ?_, ?_, (tp9.put nbs).mono (by omega), (kpc.trans kp9).upN sbs⟩
      · intro j hj
        by_cases h : j < i
        · rw [getD_app_lt (by omega), getD_app_lt (by omega)]
          exact q4 j h
        · have : j = i := by omega
          subst this
          rw [eg]
          have : (lows ++ [low]).getD j 0 = low := by rw [← e1]; exact getD_app_eq
          rw [this]; omega
      · rw [put_ne nbl]; exact s1d
      · rw [put_ne nbh]; exact s2d
      · rw [put_same, List.map_append]; rfl
    · rintro ρ' S3 ⟨x8, x11, lows, highs, base, rfl, e1, e2, e3, q1, q2, q3, q4, s1, s2, s3, tp3, kp3⟩
      have em : (m : Int).toNat = m := by omega
      rw [em] at *
      exact ⟨x8, x11, lows, highs, base, rfl, e1, e2, e3, q1, q2, q3, q4, s1, s2, s3, tp3, kp3⟩
  rintro ρ' S3 ⟨x8, x11, lows, highs, base, rfl, e1, e2, e3, q1, q2, q3, q4, s1, s2, s3, tp3, kp3⟩
  walk_at "w"
  refine l_mt (Nat.le_of_ble_eq_true rfl) fun fo hfo => ?_
  walk_at "w"
  have nfo : a ≠ fo := fun z => tp3.there (z ▸ hfo)
  have nf1 : lo ≠ fo := fun z => by subst z; rw [s1] at hfo; cases hfo
  have nf2 : hi ≠ fo := fun z => by subst z; rw [s2] at hfo; cases hfo
  have nf3 : bs ≠ fo := fun z => by subst z; rw [s3] at hfo; cases hfo
  have sfo : S fo = none := by
    cases e : S fo with
    | none => rfl
    | some o => have := kp3 _ _ e (by simpa using nfo.symm); rw [hfo] at this; cases this
  refine s_mid hC (fun ρ' S' => ∃ (x8 x10 x11 x12 : Option D) (rs : List (Terms × Int)), ρ' = [some (.ref a), some (.int most), some (.int rows), some (.int m), some (.int large), some (.ref lo), some (.ref hi), some (.ref bs), x8, some (.ref fo), x10, x11, x12, none, none] ∧
    rs.length ≤ 2 * rows ∧ (∀ r ∈ rs, TOkB m 24 r.1 ∧ Sm 60 r.2) ∧ S' lo = some (.lst (lows.map .int)) ∧ S' hi = some (.lst (highs.map .int)) ∧ S' fo = some (.lst (rs.map rowD)) ∧ tapeOk S' a (k + 4 + 4 * m + 68 * rows) ∧ Kp [a] S S') ?_ ?_
  · refine s_for ?_
    walk_at "w"
    refine k_draw hd (tp3.put nfo) (by omega) (by omega) (by omega) fun g S4 g0 g1 tp4 kp4 => ?_
    refine ⟨g, rfl, by omega, by omega, ?_⟩
    have s1' := kp4 _ _ (show put S3 fo (.lst []) lo = some (.lst (lows.map .int)) by rw [put_ne nf1]; exact s1) (by simpa using nlo.symm)
    have s2' := kp4 _ _ (show put S3 fo (.lst []) hi = some (.lst (highs.map .int)) by rw [put_ne nf2]; exact s2) (by simpa using nhi.symm)
    have s3' := kp4 _ _ (show put S3 fo (.lst []) bs = some (.lst (base.map .int)) by rw [put_ne nf3]; exact s3) (by simpa using nbs.symm)
    have s4' := kp4 _ _ (show put S3 fo (.lst []) fo = some (.lst []) from put_same) (by simpa using nfo.symm)
    refine loop_rng (fun i ρ' S' => ∃ (x10 x12 : Option D) (rs : List (Terms × Int)), ρ' = [some (.ref a), some (.int most), some (.int rows), some (.int m), some (.int large), some (.ref lo), some (.ref hi), some (.ref bs), x8, some (.ref fo), x10, x11, x12, none, none] ∧
      rs.length ≤ 2 * i ∧ (∀ r ∈ rs, TOkB m 24 r.1 ∧ Sm 60 r.2) ∧ S' lo = some (.lst (lows.map .int)) ∧ S' hi = some (.lst (highs.map .int)) ∧ S' bs = some (.lst (base.map .int)) ∧ S' fo = some (.lst (rs.map rowD)) ∧ tapeOk S' a (k + 4 + 4 * m + 68 * i) ∧ Kp [a] S S')
      ⟨none, none, [], rfl, by simp, by simp, s1', s2', s3', s4', tp4.mono (by omega), (kp3.nw hfo).trans kp4⟩ ?_ ?_
    · rintro i ρ' S5 hi5 ⟨x10, x12, rs, rfl, hrl, hrs, s1, s2, s3, s4, tp5, kp5⟩
      have hi6 : i < rows := by omega
      show wpSs _ _ _ [_, _, _, _, _, _, _, _, _, _, some (.int (i : Int)), _, _, _, _] _
      walk_at "w"
      rw [ht]
      refine ⟨a, m, _, rfl, tp5, by omega, by omega, fun ts S6 hts tp6 kp6 => ?_⟩
      walk_at "w"
      have s1 := kp6 _ _ s1 (by simpa using nlo.symm)
      have s2 := kp6 _ _ s2 (by simpa using nhi.symm)
      have s3 := kp6 _ _ s3 (by simpa using nbs.symm)
      have s4 := kp6 _ _ s4 (by simpa using nfo.symm)
      -- made large
      refine s_mid hC (fun ρ' S' => ∃ ts : Terms, ρ' = [some (.ref a), some (.int most), some (.int rows), some (.int m), some (.int large), some (.ref lo), some (.ref hi), some (.ref bs), x8, some (.ref fo), some (.int (i : Int)), x11, some (termsD ts), none, none] ∧ TOkB m 24 ts ∧
        S' lo = some (.lst (lows.map .int)) ∧ S' hi = some (.lst (highs.map .int)) ∧ S' bs = some (.lst (base.map .int)) ∧ S' fo = some (.lst (rs.map rowD)) ∧ tapeOk S' a (k + 4 + 4 * m + 68 * i + m + 1) ∧ Kp [a] S S') ?_ ?_
      · refine s_ifs ?_
        walk_at "w"
        refine k_draw hd tp6 (by omega) (by decide) (by decide) fun g S7 g0 g1 tp7 kp7 => ?_
        walk_at "w"
        have s1 := kp7 _ _ s1 (by simpa using nlo.symm)
        have s2 := kp7 _ _ s2 (by simpa using nhi.symm)
        have s3 := kp7 _ _ s3 (by simpa using nbs.symm)
        have s4 := kp7 _ _ s4 (by simpa using nfo.symm)
        have kp7' := (kp5.trans kp6).trans kp7
        refine k_if (fun h => ?_) (fun h => ?_)
        · walk_at "w"
          have hle : ts.length ≤ lim := by have := hts.len; simp only [lim]; omega
          refine comp_map' (f := fun p => tmD (p.1, p.2 * large)) trivial hle (fun p hp => ?_) ?_
          · refine ⟨_, rfl, rfl, ?_⟩
            walk_at "w"
            refine b_mul (small_mul ?_ ?_ (by omega) (by omega)) ?_
            · have := (hts.2 p hp).2; unfold Sm at this; omega
            · have := (hts.2 p hp).2; unfold Sm at this; omega
            · walk_at "w"
              exact ⟨rfl, rfl⟩
          · refine l_fz (by rw [List.length_map]; exact hle) ?_
            walk_at "w"
            refine ⟨ts.map fun p => (p.1, p.2 * large), ?_, hts.map (fun c => c * large) (fun c hc => ?_), s1, s2, s3, s4, tp7.mono (by omega), kp7'⟩
            · simp [termsD, List.map_map, Function.comp]
            · have h1 := sm_prod hc (show Sm 20 large by show large.natAbs < 2 ^ 20; omega)
              show (c * large).natAbs < 2 ^ 24
              have : (2 : Nat) ^ (2 + 20) < 2 ^ 24 := by decide
              omega
        · exact ⟨ts, rfl, hts.mono (Nat.le_refl _) (by decide), s1, s2, s3, s4, tp7.mono (by omega), kp7'⟩
      rintro ρ' S7 ⟨ts, rfl, hts, s1, s2, s3, s4, tp7, kp7⟩
      walk_at "w"
      refine k_recv s4 ?_
      walk_at "w"
      rw [hr]
      refine ⟨a, _, m, bs, ts, base, large, rfl, tp7, by omega, hts, by have := hts.len; omega, e3, q3, s3, nbs.symm, hl1, hl2, fun r S8 hr8 tp8 kp8 => ?_⟩
      walk_at "w"
      have s1 := kp8 _ _ s1 (by simpa using nlo.symm)
      have s2 := kp8 _ _ s2 (by simpa using nhi.symm)
      have s3 := kp8 _ _ s3 (by simpa using nbs.symm)
      have s4 := kp8 _ _ s4 (by simpa using nfo.symm)
      refine m_app s4 (by simp [lim]; omega) ?_
      walk_at "w"
      have t1 : put S8 fo (.lst (rs.map rowD ++ [.tup [termsD ts, .int r]])) lo = some (.lst (lows.map .int)) := by rw [put_ne nf1]; exact s1
      have t2 : put S8 fo (.lst (rs.map rowD ++ [.tup [termsD ts, .int r]])) hi = some (.lst (highs.map .int)) := by rw [put_ne nf2]; exact s2
      have t3 : put S8 fo (.lst (rs.map rowD ++ [.tup [termsD ts, .int r]])) bs = some (.lst (base.map .int)) := by rw [put_ne nf3]; exact s3
      have t4 : put S8 fo (.lst (rs.map rowD ++ [.tup [termsD ts, .int r]])) fo = some (.lst ((rs ++ [(ts, r)]).map rowD)) := by rw [put_same, List.map_append]; rfl
      have tpa := tp8.put nfo (o := .lst (rs.map rowD ++ [.tup [termsD ts, .int r]]))
      have kpa : Kp [a] S (put S8 fo (.lst (rs.map rowD ++ [.tup [termsD ts, .int r]]))) := (kp7.trans kp8).upN sfo
      have hrs' : ∀ r' ∈ rs ++ [(ts, r)], TOkB m 24 r'.1 ∧ Sm 60 r'.2 := fun x hx => by
        rcases List.mem_append.mp hx with hx | hx
        · exact hrs x hx
        · simp only [List.mem_cons, List.not_mem_nil, or_false] at hx
          subst hx
          exact ⟨hts, hr8⟩
      generalize put S8 fo (.lst (rs.map rowD ++ [.tup [termsD ts, .int r]])) = S9 at *
      refine s_ifs ?_
      walk_at "w"
      refine k_draw hd tpa (by omega) (by decide) (by decide) fun g S10 g0 g1 tp10 kp10 => ?_
      walk_at "w"
      have t1 := kp10 _ _ t1 (by simpa using nlo.symm)
      have t2 := kp10 _ _ t2 (by simpa using nhi.symm)
      have t3 := kp10 _ _ t3 (by simpa using nbs.symm)
      have t4 := kp10 _ _ t4 (by simpa using nfo.symm)
      have kpb := kpa.trans kp10
      refine k_if (fun h => ?_) (fun h => ?_)
      · walk_at "w"
        have hle : ts.length ≤ lim := by have := hts.len; simp only [lim]; omega
        refine comp_map' (f := fun p => tmD (p.1, -p.2)) trivial hle (fun p hp => ?_) ?_
        · refine ⟨_, rfl, rfl, ?_⟩
          walk_at "w"
          exact ⟨rfl, rfl⟩
        · refine l_fz (by rw [List.length_map]; exact hle) ?_
          have en : (ts.map fun p : Nat × Int => tmD (p.1, -p.2)) = (ts.map fun p => (p.1, -p.2)).map tmD := by simp [List.map_map, Function.comp]
          rw [en]
          have hts' : TOkB m 24 (ts.map fun p => (p.1, -p.2)) := hts.map (fun c => -c) fun c hc => hc.neg
          generalize (ts.map fun p => (p.1, -p.2)) = ts' at *
          walk_at "w"
          refine k_recv t4 ?_
          walk_at "w"
          rw [hr]
          refine ⟨a, _, m, bs, ts', base, large, rfl, tp10, by omega, hts', by have := hts'.len; omega, e3, q3, t3, nbs.symm, hl1, hl2, fun r2 S11 hr11 tp11 kp11 => ?_⟩
          walk_at "w"
          have t1 := kp11 _ _ t1 (by simpa using nlo.symm)
          have t2 := kp11 _ _ t2 (by simpa using nhi.symm)
          have t3 := kp11 _ _ t3 (by simpa using nbs.symm)
          have t4 := kp11 _ _ t4 (by simpa using nfo.symm)
          refine m_app t4 (by simp [lim]; omega) ?_
          refine ⟨some (.int (i : Int)), some (termsD ts'), (rs ++ [(ts, r)]) ++ [(ts', r2)], rfl, by simp; omega, fun x hx => ?_, by rw [put_ne nf1]; exact t1, by rw [put_ne nf2]; exact t2, by rw [put_ne nf3]; exact t3, by rw [put_same, List.map_append (l₁ := rs ++ [(ts, r)])]; rfl, (tp11.put nfo).mono (by omega), (kpb.trans kp11).upN sfo⟩
          rcases List.mem_append.mp hx with hx | hx
          · exact hrs' x hx
          · simp only [List.mem_cons, List.not_mem_nil, or_false] at hx
            subst hx
            exact ⟨hts', hr11⟩
      · exact ⟨some (.int (i : Int)), some (termsD ts), rs ++ [(ts, r)], rfl, by simp; omega, hrs', t1, t2, t3, t4, tp10.mono (by omega), kpb⟩
    · rintro ρ' S5 ⟨x10, x12, rs, rfl, hrl, hrs, s1, s2, s3, s4, tp5, kp5⟩
      exact ⟨x8, x10, x11, x12, rs, rfl, by omega, hrs, s1, s2, s4, tp5.mono (by omega), kp5⟩
  rintro ρ' S4 ⟨x8, x10, x11, x12, rs, rfl, hrl, hrs, s1, s2, s4, tp4, kp4⟩
  walk_at "w"
  rw [ht]
  refine ⟨a, m, _, rfl, tp4, by omega, by omega, fun ts S5 hts tp5 kp5 => ?_⟩
  walk_at "w"
  refine .of (kq ⟨lows, highs, rs, ts⟩ S5 ⟨by show 1 ≤ lows.length; omega, by show lows.length ≤ 60; omega, by show highs.length = lows.length; omega, by show rs.length ≤ 1000; omega, fun z hz => (q1 z hz).mono (by decide), fun z hz => (q2 z hz).mono (by decide), fun j hj => q4 j (by rw [← e1]; exact hj),
    fun r hr => ⟨(hrs r hr).1.mono (by show m ≤ lows.length; omega) (by decide), (hrs r hr).2⟩, hts.mono (by show m ≤ lows.length; omega) (by decide)⟩ (by show lows.length ≤ most; omega) hrl (tp5.mono (by omega)) (kp4.trans kp5))
end Py

set_option Elab.async false
set_option linter.all false
set_option maxRecDepth 100000
namespace Py
/-! Lp4: equations. -/
local macro_rules | `(tactic| walk_at "w") => `(tactic| (repeat (first
  | with_reducible refine ss_cons ?_ | with_reducible refine ss_nil ?_ | with_reducible refine s_asg ?_ | with_reducible refine s_iset ?_ | with_reducible refine s_ret ?_ | with_reducible refine s_exp ?_ | with_reducible refine s_unp ?_ | with_reducible refine s_fset ?_
  | with_reducible refine e_var rfl ?_ | with_reducible refine e_int ?_ | with_reducible refine e_bl ?_ | with_reducible refine e_non ?_ | with_reducible refine e_str ?_ | with_reducible refine e_bin ?_ | with_reducible refine e_cmp ?_ | with_reducible refine e_idx ?_ | with_reducible refine e_neg ?_ | with_reducible refine e_blt ?_ | with_reducible refine e_and ?_ | with_reducible refine e_or ?_ | with_reducible refine e_not ?_
  | with_reducible refine e_tup ?_ | with_reducible refine e_lst ?_ | with_reducible refine e_call ?_ | with_reducible refine e_fld ?_ | with_reducible refine e_bme ?_ | with_reducible refine e_ite ?_ | with_reducible refine e_cls ?_ | with_reducible refine e_slc ?_ | with_reducible refine o_no ?_ | with_reducible refine o_yes ?_ | with_reducible refine e_comp ?_ | with_reducible refine w_of ?_ | with_reducible refine w_rng1 ?_ | with_reducible refine v_tup ?_ | with_reducible refine v_lst ?_
  | with_reducible refine es_nil ?_ | with_reducible refine es_cons ?_ | with_reducible refine and1 ?_ | with_reducible refine or1 ?_ | with_reducible refine and2 ?_ | with_reducible refine or2 ?_ | with_reducible refine e_meth ?_ | with_reducible refine e_new ?_
  | with_reducible refine k_neg ?_ | with_reducible refine b_add ?_ | with_reducible refine b_sub ?_ | with_reducible refine c_lt ?_ | with_reducible refine c_le ?_ | with_reducible refine c_gt ?_ | with_reducible refine c_ge ?_ | with_reducible refine c_eqI ?_ | with_reducible refine c_neI ?_
  | with_reducible refine i_ref (by assumption) rfl ?_ | with_reducible refine i_tup rfl ?_ | with_reducible refine i_lst rfl ?_ | with_reducible refine t_lenT ?_ | with_reducible refine t_lenL ?_ | with_reducible refine t_lenR (by assumption) ?_ | with_reducible refine t_int ?_ | with_reducible refine t_abs ?_ | with_reducible refine t_gcd ?_ | with_reducible refine t_tupT ?_ | with_reducible refine t_tupL ?_ | with_reducible refine t_tupR (by assumption) ?_ | with_reducible refine t_lstT ?_ | with_reducible refine t_lstL ?_ | with_reducible refine t_lstR (by assumption) ?_ | with_reducible refine t_lstS ?_
  | with_reducible refine t_isiT ?_ | with_reducible refine t_isiI ?_ | with_reducible refine t_isiB ?_ | with_reducible refine t_isiS ?_
  | with_reducible refine k_int ?_ | with_reducible refine k_len (Nat.le_of_ble_eq_true rfl) ?_ | with_reducible refine l_fz (Nat.le_of_ble_eq_true rfl) ?_ | with_reducible refine k_ift ?_ | with_reducible refine k_iff ?_ | with_reducible refine k_ifNT ?_ | with_reducible refine k_ifNF ?_ | with_reducible refine k_boolT ?_ | with_reducible refine k_boolF ?_)))
structure Eqn where
  s : Int
  c : Int
  cs : List Int
abbrev Eqn.d (e : Eqn) : D := .tup [.int e.s, .int e.c, intsD e.cs]
structure Eqn.Sm (e : Eqn) (b : Nat) : Prop where
  s : Py.Sm b e.s
  c : Py.Sm b e.c
  cs : ∀ z ∈ e.cs, Py.Sm b z
def gcdAll (l : List Int) : Nat := l.foldl (fun g n => Nat.gcd g n.natAbs) 0
def Eqn.low (e : Eqn) : Bool := decide (1 ≤ e.s) && decide (gcdAll (e.s :: e.c :: e.cs) = 1)
def spEquation : Sp := fun ds S Q _ => ∃ e : Eqn, ds = [e.d, .int e.cs.length] ∧ e.cs.length ≤ 100 ∧ e.Sm 1990 ∧ Q (.bl e.low) S
theorem equation_ok {C : Cfg} {nc nw : Nat} (hc : C.fn nc = spCommon) (hw : C.fn nw = spWhole) : DefOk C spEquation 2 5 (A.B__law_equation nc nw) := by
  rintro ds S Q X ⟨e, rfl, hl, hS, kq⟩
  refine ⟨rfl, ?_⟩
  unfold A.B__law_equation
  walk_at "w"
  refine s_ifs ?_
  walk_at "w"
  refine k_if (fun h => ?_) fun _ => ?_
  · exact absurd rfl h
  walk_at "w"
  refine k_if (fun h => ?_) fun _ => ?_
  · exact absurd (by simp) h
  walk_at "w"
  refine l_fz (by simp [lim]; omega) ?_
  refine b_lsts (by simp [lim]; omega) ?_
  walk_at "w"
  refine s_for ?_
  walk_at "w"
  refine loop_map (xs := e.s :: e.c :: e.cs) (g := .int) (fun pre ρ' S' => S' = S ∧ ∃ x4, ρ' = [some e.d, some (.int e.cs.length), some (.lst ([.int e.s, .int e.c] ++ e.cs.map .int)), some (.int (gcdAll pre : Nat)), x4]) ⟨rfl, none, rfl⟩ ?_ ?_
  · rintro pre x suf ρ' S' ex ⟨rfl, x4, rfl⟩
    show wpSs _ _ _ [_, _, _, _, some (.int x)] _
    refine ss_cons (s_ifs ?_)
    walk_at "w"
    rw [hw]
    refine ⟨x, rfl, ?_⟩
    walk_at "w"
    rw [hc]
    have hx : Sm 1990 x := by
      have : x ∈ e.s :: e.c :: e.cs := by rw [ex]; simp
      simp only [List.mem_cons] at this
      rcases this with rfl | rfl | h
      · exact hS.s
      · exact hS.c
      · exact hS.cs _ h
    refine ⟨_, x, rfl, hx, rfl, some (.int x), ?_⟩
    simp [gcdAll, List.foldl_append]
  · rintro ρ' S' ⟨rfl, x4, rfl⟩
    walk_at "w"
    refine k_if (fun h => ?_) (fun h => ?_)
    · walk_at "w"
      refine .of ?_
      have : e.low = decide ((gcdAll (e.s :: e.c :: e.cs) : Int) = 1) := by
        unfold Eqn.low
        rw [show decide (1 ≤ e.s) = true by simpa using h, Bool.true_and]
        congr 1
        apply propext
        omega
      rw [← this]; exact kq
    · refine .of ?_
      have : e.low = false := by
        unfold Eqn.low
        rw [show decide (1 ≤ e.s) = false by simpa using h]; rfl
      rw [← this]; exact kq
/-! ### _law_says -/
def dotTo (cs sl : List Int) : Nat → Int
  | 0 => 0
  | k + 1 => dotTo cs sl k + cs.getD k 0 * sl.getD k 0
def spSays : Sp := fun ds S Q _ => ∃ (e : Eqn) (w : Int) (sl : List Int), ds = [e.d, .int w, .lst (sl.map .int)] ∧ sl.length = e.cs.length ∧ sl.length ≤ 100 ∧ e.Sm 1000000 ∧ Sm 1000000 w ∧ (∀ z ∈ sl, Sm 1000000 z) ∧ Q (.bl (decide (e.s * w = e.c + dotTo e.cs sl sl.length))) S
theorem says_ok {C : Cfg} : DefOk C spSays 3 5 A.B__law_says := by
  rintro ds S Q X ⟨e, w, sl, rfl, hl, hl2, he, hw, hs, kq⟩
  refine ⟨rfl, ?_⟩
  unfold A.B__law_says
  walk_at "w"
  refine s_for ?_
  walk_at "w"
  refine ⟨by omega, by simp; omega, ?_⟩
  have el : (((sl.map D.int).length : Nat) : Int).toNat = sl.length := by simp
  rw [el]
  refine loop_rng (fun i ρ' S' => S' = S ∧ ∃ x4, ρ' = [some e.d, some (.int w), some (.lst (sl.map .int)), some (.int (e.c + dotTo e.cs sl i)), x4]) ⟨rfl, none, by simp [dotTo]⟩ ?_ ?_
  · rintro i ρ' S' hi ⟨rfl, x4, rfl⟩
    show wpSs _ _ _ [_, _, _, _, some (.int (i : Int))] _
    walk_at "w"
    refine i_tup (atI_int (by omega)) ?_
    walk_at "w"
    refine i_lst (atI_int (by omega)) ?_
    refine b_mul (Sm.mul (sm_getD he.cs (by decide)) (sm_getD hs (by decide)) (by decide)) ?_
    walk_at "w"
    refine ⟨rfl, some (.int (i : Int)), ?_⟩
    simp [dotTo, Int.add_assoc]
  · rintro ρ' S' ⟨rfl, x4, rfl⟩
    walk_at "w"
    refine b_mul (Sm.mul he.s hw (by decide)) ?_
    walk_at "w"
    exact .of kq
end Py

set_option Elab.async false
set_option linter.all false
set_option maxRecDepth 100000
namespace Py
/-! Tb1: the tableau: its parts. -/
local macro_rules | `(tactic| walk_at "w") => `(tactic| (repeat (first
  | with_reducible refine ss_cons ?_ | with_reducible refine ss_nil ?_ | with_reducible refine s_asg ?_ | with_reducible refine s_iset ?_ | with_reducible refine s_ret ?_ | with_reducible refine s_exp ?_ | with_reducible refine s_unp ?_ | with_reducible refine s_fset ?_
  | with_reducible refine e_var rfl ?_ | with_reducible refine e_int ?_ | with_reducible refine e_bl ?_ | with_reducible refine e_non ?_ | with_reducible refine e_str ?_ | with_reducible refine e_bin ?_ | with_reducible refine e_cmp ?_ | with_reducible refine e_idx ?_ | with_reducible refine e_neg ?_ | with_reducible refine e_blt ?_ | with_reducible refine e_and ?_ | with_reducible refine e_or ?_ | with_reducible refine e_not ?_
  | with_reducible refine e_tup ?_ | with_reducible refine e_lst ?_ | with_reducible refine e_call ?_ | with_reducible refine e_fld ?_ | with_reducible refine e_bme ?_ | with_reducible refine e_ite ?_ | with_reducible refine e_cls ?_ | with_reducible refine e_slc ?_ | with_reducible refine o_no ?_ | with_reducible refine o_yes ?_ | with_reducible refine e_comp ?_ | with_reducible refine w_of ?_ | with_reducible refine w_rng1 ?_ | with_reducible refine v_tup ?_ | with_reducible refine v_lst ?_
  | with_reducible refine es_nil ?_ | with_reducible refine es_cons ?_ | with_reducible refine and1 ?_ | with_reducible refine or1 ?_ | with_reducible refine and2 ?_ | with_reducible refine or2 ?_ | with_reducible refine e_meth ?_ | with_reducible refine e_new ?_
  | with_reducible refine k_neg ?_ | with_reducible refine b_add ?_ | with_reducible refine b_sub ?_ | with_reducible refine c_lt ?_ | with_reducible refine c_le ?_ | with_reducible refine c_gt ?_ | with_reducible refine c_ge ?_ | with_reducible refine c_eqI ?_ | with_reducible refine c_neI ?_
  | with_reducible refine i_ref (by assumption) rfl ?_ | with_reducible refine i_tup rfl ?_ | with_reducible refine i_lst rfl ?_ | with_reducible refine t_lenT ?_ | with_reducible refine t_lenL ?_ | with_reducible refine t_lenR (by assumption) ?_ | with_reducible refine t_int ?_ | with_reducible refine t_abs ?_ | with_reducible refine t_gcd ?_ | with_reducible refine t_tupT ?_ | with_reducible refine t_tupL ?_ | with_reducible refine t_tupR (by assumption) ?_ | with_reducible refine t_lstT ?_ | with_reducible refine t_lstL ?_ | with_reducible refine t_lstR (by assumption) ?_ | with_reducible refine t_lstS ?_
  | with_reducible refine t_isiT ?_ | with_reducible refine t_isiI ?_ | with_reducible refine t_isiB ?_ | with_reducible refine t_isiS ?_
  | with_reducible refine k_int ?_ | with_reducible refine k_len (Nat.le_of_ble_eq_true rfl) ?_ | with_reducible refine l_fz (Nat.le_of_ble_eq_true rfl) ?_ | with_reducible refine k_ift ?_ | with_reducible refine k_iff ?_ | with_reducible refine k_ifNT ?_ | with_reducible refine k_ifNF ?_ | with_reducible refine k_boolT ?_ | with_reducible refine k_boolF ?_)))
def seqD : D → Prop
  | .tup _ => True
  | .lst _ => True
  | .ref _ => True
  | _ => False
section
variable {C : Cfg} {X : Exc → Env → Store → Prop} {ρ : Env} {S : Store} {Q : Post} {N : Ends}
theorem v_itm {x : D} {ds : List D} {K : List D → (Store → Prop) → Prop} (hx : seqD x) (h : itemsOf S x = some ds) (q : ∀ st : Store → Prop, st S → (∀ S' M, Kp M S S' → (∀ a ∈ M, x ≠ .ref a) → st S') → K ds st) : walkOf S x K := by
  cases x with
  | tup l => cases h; exact q _ trivial fun _ _ _ _ => trivial
  | lst l => cases h; exact q _ trivial fun _ _ _ _ => trivial
  | ref a =>
    cases e : S a with
    | none => simp [itemsOf, e] at h
    | some o =>
      cases o with
      | lst l => simp [itemsOf, e] at h; subst h; exact ⟨l, e, q _ e fun S' M kp hM => kp a _ e fun z => hM a z rfl⟩
      | ins c f => simp [itemsOf, e] at h
  | _ => exact hx.elim
theorem i_itm {x : D} {xs : List D} {k : Int} {d : D} (hx : seqD x) (hS : itemsOf S x = some xs) (h : atI xs k = some d) (q : Q d S) : idxW x (.int k) S Q := by
  cases x <;> first | exact hx.elim | exact ⟨k, xs, d, rfl, hS, h, q⟩
theorem t_tupI {m : Bool} {x : D} {xs : List D} (hS : itemsOf S x = some xs) (q : Q (.tup xs) S) : bltW .tuple m [x] S Q := ⟨x, xs, rfl, hS, q⟩
theorem t_lenI {m : Bool} {x : D} {xs : List D} (hx : seqD x) (hS : itemsOf S x = some xs) (q : Q (.int xs.length) S) : bltW .len m [x] S Q := by
  cases x <;> first | exact hx.elim | exact ⟨_, rfl, xs, hS, q⟩
theorem items_keep {S S' : Store} {M : List Nat} {x : D} {ds : List D} (k : Kp M S S') (hM : ∀ a ∈ M, x ≠ .ref a) (h : itemsOf S x = some ds) : itemsOf S' x = some ds := by
  cases x with
  | ref a =>
    cases e : S a with
    | none => simp [itemsOf, e] at h
    | some o =>
      have := k a o e fun z => hM a z rfl
      simp only [itemsOf, e] at h
      simp only [itemsOf, this]
      exact h
  | _ => exact h
theorem items_ne {S : Store} {x : D} {ds : List D} {a : Nat} (h : itemsOf S x = some ds) (n : S a = none) : x ≠ .ref a := by
  rintro rfl
  simp [itemsOf, n] at h
theorem loop_mapS {β : Type} {xs : List β} {g : β → D} {st : Store → Prop} {turn : D → Env → Store → (Env → Store → Prop) → Prop} {nx : Env → Store → Prop} (P : List β → Env → Store → Prop) (h0 : P [] ρ S) (hst : ∀ pre ρ S, P pre ρ S → st S)
    (hs : ∀ pre x suf ρ S, xs = pre ++ x :: suf → P pre ρ S → turn (g x) ρ S (P (pre ++ [x]))) (he : ∀ ρ S, P xs ρ S → nx ρ S) : loopW (xs.map g) st turn ρ S nx := by
  refine ⟨fun i => P (xs.take i), by simpa using h0, fun i ρ S _ h => hst _ _ _ h, fun i d ρ S hd hP => ?_, fun ρ S h => he ρ S (by simpa using h)⟩
  rw [List.getElem?_map] at hd
  cases hx : xs[i]? with
  | none => rw [hx] at hd; cases hd
  | some x =>
    rw [hx] at hd
    cases hd
    show turn (g x) ρ S (P (xs.take (i + 1)))
    rw [take_succ' hx]
    refine hs (xs.take i) x (xs.drop (i + 1)) ρ S ?_ hP
    have hi := get_len hx
    have e : xs[i] = x := by rw [List.getElem?_eq_getElem hi] at hx; exact Option.some.inj hx
    rw [← e, ← List.drop_eq_getElem_cons hi, List.take_append_drop]
end
def Eqn.z : Eqn := ⟨0, 0, []⟩
theorem atI_eqn {l : List Eqn} {i : Nat} (h : i < l.length) : atI (l.map Eqn.d) (i : Int) = some (l.getD i Eqn.z).d := by
  refine atI_nat ?_
  rw [List.getElem?_map, List.getElem?_eq_getElem h]
  simp [List.getD, h]
/-- what combined(..) makes -/
def comb (cols : List Eqn) (ts : Terms) (rhs : Int) : Eqn :=
  ⟨1, ts.foldl (fun t q => t + q.2 * (cols.getD q.1 Eqn.z).c) rhs, ts.foldl (fun l q => l.set q.1 (q.2 * (cols.getD q.1 Eqn.z).cs.getD q.1 0)) (List.replicate cols.length 0)⟩
def spCombined : Sp := fun ds S Q _ => ∃ (x y : D) (ts : Terms) (cols : List Eqn) (rhs : Int), ds = [x, y, .int rhs] ∧ seqD x ∧ itemsOf S x = some (ts.map tmD) ∧ seqD y ∧ itemsOf S y = some (cols.map Eqn.d) ∧ cols.length ≤ 1000 ∧ TOkB cols.length 40 ts ∧
  (∀ e ∈ cols, e.Sm 40 ∧ e.cs.length = cols.length) ∧ ∀ S', Kp [] S S' → Q (comb cols ts rhs).d S'
theorem getD_mem {α : Type} {l : List α} {i : Nat} {d : α} (h : i < l.length) : l.getD i d ∈ l := by
  simp only [List.getD, List.getElem?_eq_getElem h, Option.getD_some]
  exact List.getElem_mem h
theorem combined_ok {C : Cfg} (hC : Mono C) : DefOk C spCombined 3 8 A.B_combined := by
  rintro ds S Q X ⟨x, y, ts, cols, rhs, rfl, hx, ex, hy, ey, hl, ht, hc, kq⟩
  refine ⟨rfl, ?_⟩
  unfold A.B_combined
  walk_at "w"
  refine v_itm hy ey fun st hst _ => ?_
  refine comp_map' (f := fun _ => .int 0) hst (by simp only [lim]; omega) (fun e he => ?_) ?_
  · show wpE _ _ _ _ _ _
    walk_at "w"
    exact ⟨rfl, rfl⟩
  refine l_mt (by simp [lim]; omega) fun l hn => ?_
  walk_at "w"
  have e0 : (cols.map fun _ : Eqn => D.int 0) = (List.replicate cols.length 0).map .int := by rw [List.map_const', List.map_replicate]
  rw [e0]
  refine s_for ?_
  walk_at "w"
  have kp0 : Kp [] S (put S l (.lst ((List.replicate cols.length 0).map .int))) := Kp.refl.nw hn
  refine v_itm hx (items_keep kp0 (by simp) ex) fun st hst hk => ?_
  have hxl := items_ne ex hn
  have hyl := items_ne ey hn
  have hlen : ∀ ts : Terms, (comb cols ts rhs).cs.length = cols.length := by
    intro ts
    unfold comb
    suffices h : ∀ (l : List Int), l.length = cols.length → (ts.foldl (fun l q => l.set q.1 (q.2 * (cols.getD q.1 Eqn.z).cs.getD q.1 0)) l).length = cols.length from h _ (by simp)
    intro l hl
    induction ts generalizing l with
    | nil => exact hl
    | cons a ts ih => exact ih _ (by simpa using hl)
  refine loop_mapS (fun pre ρ' S' => Kp [l] (put S l (.lst ((List.replicate cols.length 0).map .int))) S' ∧ S' l = some (.lst ((comb cols pre rhs).cs.map .int)) ∧ ∃ x5 x6, ρ' = [some x, some y, some (.int rhs), some (.int (comb cols pre rhs).c), some (.ref l), x5, x6, none]) ⟨.refl, put_same, none, none, rfl⟩ (fun _ _ S' h => hk S' _ h.1 (by simpa using hxl)) ?_ ?_
  · rintro pre ⟨v, c⟩ suf ρ' S' e ⟨kp, hS, x5, x6, rfl⟩
    have hv := ht.2 (v, c) (by rw [e]; simp)
    have hm := hc _ (getD_mem (d := Eqn.z) hv.1)
    have ey' := items_keep kp (by simpa using hyl) (items_keep kp0 (by simp) ey)
    refine ⟨_, rfl, rfl, ?_⟩
    show wpSs _ _ _ [_, _, _, _, _, some (.int (v : Int)), some (.int c), _] _
    walk_at "w"
    refine i_itm hy ey' (atI_eqn hv.1) ?_
    walk_at "w"
    refine b_mul (Sm.mul hv.2 hm.1.c (by decide)) ?_
    walk_at "w"
    refine i_itm hy ey' (atI_eqn hv.1) ?_
    walk_at "w"
    refine i_tup (atI_int (by rw [hm.2]; exact hv.1)) ?_
    refine b_mul (Sm.mul hv.2 (sm_getD hm.1.cs (by decide)) (by decide)) ?_
    walk_at "w"
    refine k_iset hS (ixN_nat (by rw [List.length_map, hlen]; exact hv.1)) ?_
    refine ⟨kp.up (by simp), ?_, some (.int (v : Int)), some (.int c), ?_⟩
    · rw [put_same, set_int]
      simp [comb, List.foldl_append]
    · simp [comb, List.foldl_append]
  · rintro ρ' S' ⟨kp, hS, x5, x6, rfl⟩
    walk_at "w"
    refine .of (kq S' ?_)
    intro b o h1 h2
    exact kp b o (kp0 b o h1 h2) (by simp only [List.mem_cons, List.not_mem_nil, or_false]; rintro rfl; rw [hn] at h1; cases h1)
end Py

set_option Elab.async false
set_option linter.all false
set_option maxRecDepth 100000
namespace Py
/-! Tb2: the tableau: its methods that only read. -/
local macro_rules | `(tactic| walk_at "w") => `(tactic| (repeat (first
  | with_reducible refine ss_cons ?_ | with_reducible refine ss_nil ?_ | with_reducible refine s_asg ?_ | with_reducible refine s_iset ?_ | with_reducible refine s_ret ?_ | with_reducible refine s_exp ?_ | with_reducible refine s_unp ?_ | with_reducible refine s_fset ?_
  | with_reducible refine e_var rfl ?_ | with_reducible refine e_int ?_ | with_reducible refine e_bl ?_ | with_reducible refine e_non ?_ | with_reducible refine e_str ?_ | with_reducible refine e_bin ?_ | with_reducible refine e_cmp ?_ | with_reducible refine e_idx ?_ | with_reducible refine e_neg ?_ | with_reducible refine e_blt ?_ | with_reducible refine e_and ?_ | with_reducible refine e_or ?_ | with_reducible refine e_not ?_
  | with_reducible refine e_tup ?_ | with_reducible refine e_lst ?_ | with_reducible refine e_call ?_ | with_reducible refine e_fld ?_ | with_reducible refine e_bme ?_ | with_reducible refine e_ite ?_ | with_reducible refine e_cls ?_ | with_reducible refine e_slc ?_ | with_reducible refine o_no ?_ | with_reducible refine o_yes ?_ | with_reducible refine e_comp ?_ | with_reducible refine w_of ?_ | with_reducible refine w_rng1 ?_ | with_reducible refine v_tup ?_ | with_reducible refine v_lst ?_
  | with_reducible refine es_nil ?_ | with_reducible refine es_cons ?_ | with_reducible refine and1 ?_ | with_reducible refine or1 ?_ | with_reducible refine and2 ?_ | with_reducible refine or2 ?_ | with_reducible refine e_meth ?_ | with_reducible refine e_new ?_
  | with_reducible refine k_neg ?_ | with_reducible refine b_add ?_ | with_reducible refine b_sub ?_ | with_reducible refine c_lt ?_ | with_reducible refine c_le ?_ | with_reducible refine c_gt ?_ | with_reducible refine c_ge ?_ | with_reducible refine c_eqI ?_ | with_reducible refine c_neI ?_
  | with_reducible refine i_ref (by assumption) rfl ?_ | with_reducible refine i_tup rfl ?_ | with_reducible refine i_lst rfl ?_ | with_reducible refine t_lenT ?_ | with_reducible refine t_lenL ?_ | with_reducible refine t_lenR (by assumption) ?_ | with_reducible refine t_int ?_ | with_reducible refine t_abs ?_ | with_reducible refine t_gcd ?_ | with_reducible refine t_tupT ?_ | with_reducible refine t_tupL ?_ | with_reducible refine t_tupR (by assumption) ?_ | with_reducible refine t_lstT ?_ | with_reducible refine t_lstL ?_ | with_reducible refine t_lstR (by assumption) ?_ | with_reducible refine t_lstS ?_
  | with_reducible refine t_isiT ?_ | with_reducible refine t_isiI ?_ | with_reducible refine t_isiB ?_ | with_reducible refine t_isiS ?_
  | with_reducible refine k_int ?_ | with_reducible refine k_len (Nat.le_of_ble_eq_true rfl) ?_ | with_reducible refine l_fz (Nat.le_of_ble_eq_true rfl) ?_ | with_reducible refine k_ift ?_ | with_reducible refine k_iff ?_ | with_reducible refine k_ifNT ?_ | with_reducible refine k_ifNF ?_ | with_reducible refine k_boolT ?_ | with_reducible refine k_boolF ?_)))
structure TabS where
  lows : List Int
  highs : List Int
  R : Nat
  places : List Nat
  cols : List Eqn
  aim : Eqn
  slacks : List Eqn
def natsD (l : List Nat) : List D := l.map fun (q : Nat) => D.int (q : Int)
def tabNames : List String := ["lows", "highs", "row_many", "places", "column_rows", "aim_row", "slack_rows"]
structure TabAt (S : Store) (t : Nat) (T : TabS) (fs : List (String × D)) (pD cD sD : D) : Prop where
  ob : S t = some (.ins "Tableau" fs)
  lo : fs.lookup "lows" = some (intsD T.lows)
  hi : fs.lookup "highs" = some (intsD T.highs)
  R : fs.lookup "row_many" = some (.int (T.R : Int))
  p : fs.lookup "places" = some pD
  pi : itemsOf S pD = some (natsD T.places)
  ps : seqD pD
  c : fs.lookup "column_rows" = some cD
  ci : itemsOf S cD = some (T.cols.map Eqn.d)
  cq : seqD cD
  a : fs.lookup "aim_row" = some T.aim.d
  s : fs.lookup "slack_rows" = some sD
  si : itemsOf S sD = some (T.slacks.map Eqn.d)
  sq : seqD sD
  no : ∀ m, m ∉ tabNames → fs.lookup m = none
structure TabS.Ok (T : TabS) : Prop where
  l : T.lows.length = T.cols.length
  h : T.highs.length = T.cols.length
  p : T.places.length = T.cols.length
  s : T.slacks.length = T.R
  m : T.cols.length ≤ 100
  r : T.R ≤ 1000
  lo : ∀ z ∈ T.lows, Sm 1000 z
  hi : ∀ z ∈ T.highs, Sm 1000 z
  c : ∀ e ∈ T.cols, e.Sm 1000000 ∧ e.cs.length = T.cols.length
/-- a tableau stands at t -/
def Tb (S : Store) (t : Nat) (T : TabS) : Prop := T.Ok ∧ ∃ fs pD cD sD, TabAt S t T fs pD cD sD
def spFree : Sp := fun ds S Q _ => ∃ t T, ds = [.ref t] ∧ Tb S t T ∧ Q (.tup (natsD T.places)) S
theorem free_ok {C : Cfg} : DefOk C spFree 1 1 A.B_Tableau_free := by
  rintro ds S Q X ⟨t, T, rfl, ⟨hT, fs, pD, cD, sD, h⟩, kq⟩
  refine ⟨rfl, ?_⟩
  unfold A.B_Tableau_free
  walk_at "w"
  refine f_ref h.ob h.p ?_
  walk_at "w"
  exact t_tupI h.pi (.of kq)
def spAimEq : Sp := fun ds S Q _ => ∃ t T, ds = [.ref t] ∧ Tb S t T ∧ Q T.aim.d S
theorem aimeq_ok {C : Cfg} : DefOk C spAimEq 1 1 A.B_Tableau_aim_equation := by
  rintro ds S Q X ⟨t, T, rfl, ⟨hT, fs, pD, cD, sD, h⟩, kq⟩
  refine ⟨rfl, ?_⟩
  unfold A.B_Tableau_aim_equation
  walk_at "w"
  exact f_ref h.ob h.a (.of kq)
def spColEq : Sp := fun ds S Q _ => ∃ (t : Nat) (T : TabS) (j : Nat), ds = [.ref t, .int j] ∧ Tb S t T ∧ j < T.cols.length ∧ Q (T.cols.getD j Eqn.z).d S
theorem coleq_ok {C : Cfg} : DefOk C spColEq 2 2 A.B_Tableau_column_equation := by
  rintro ds S Q X ⟨t, T, j, rfl, ⟨hT, fs, pD, cD, sD, h⟩, hj, kq⟩
  refine ⟨rfl, ?_⟩
  unfold A.B_Tableau_column_equation
  walk_at "w"
  refine f_ref h.ob h.c ?_
  walk_at "w"
  exact i_itm h.cq h.ci (atI_eqn hj) (.of kq)
/-- the equation of the q-th slack -/
def TabS.slack (T : TabS) (q : Nat) : Eqn :=
  if q < T.R then T.slacks.getD q Eqn.z else
    if (q - T.R) % 2 = 1 then ⟨(T.cols.getD ((q - T.R) / 2) Eqn.z).s, (T.cols.getD ((q - T.R) / 2) Eqn.z).c - (T.cols.getD ((q - T.R) / 2) Eqn.z).s * T.lows.getD ((q - T.R) / 2) 0, (T.cols.getD ((q - T.R) / 2) Eqn.z).cs⟩
    else ⟨(T.cols.getD ((q - T.R) / 2) Eqn.z).s, (T.cols.getD ((q - T.R) / 2) Eqn.z).s * T.highs.getD ((q - T.R) / 2) 0 - (T.cols.getD ((q - T.R) / 2) Eqn.z).c, (T.cols.getD ((q - T.R) / 2) Eqn.z).cs.map fun z => -z⟩
def spSlackEq : Sp := fun ds S Q _ => ∃ (t : Nat) (T : TabS) (q : Nat), ds = [.ref t, .int q] ∧ Tb S t T ∧ q < T.R + 2 * T.cols.length ∧ Q (T.slack q).d S
theorem slackeq_ok {C : Cfg} : DefOk C spSlackEq 2 7 A.B_Tableau_slack_equation := by
  rintro ds S Q X ⟨t, T, q, rfl, ⟨hT, fs, pD, cD, sD, h⟩, hq, kq⟩
  refine ⟨rfl, ?_⟩
  unfold A.B_Tableau_slack_equation
  refine ss_cons (s_ifs ?_)
  walk_at "w"
  refine f_ref h.ob h.R ?_
  walk_at "w"
  refine k_if (fun hl => ?_) (fun hl => ?_)
  · have hl' : q < T.R := by omega
    walk_at "w"
    refine f_ref h.ob h.s ?_
    walk_at "w"
    refine i_itm h.sq h.si (atI_eqn (by rw [hT.s]; exact hl')) (.of ?_)
    simpa [TabS.slack, hl'] using kq
  · have hl' : ¬ q < T.R := by omega
    have hj : (q - T.R) / 2 < T.cols.length := by omega
    have e : ((q : Int) - (T.R : Int)) = ((q - T.R : Nat) : Int) := by omega
    have hc := hT.c _ (getD_mem (d := Eqn.z) hj)
    walk_at "w"
    refine f_ref h.ob h.R ?_
    walk_at "w"
    refine b_fdiv ⟨by decide, by decide⟩ ?_
    rw [e, two_div]
    walk_at "w"
    refine f_ref h.ob h.c ?_
    walk_at "w"
    refine i_itm h.cq h.ci (atI_eqn hj) ?_
    refine ⟨_, rfl, rfl, ?_⟩
    generalize he : T.cols.getD ((q - T.R) / 2) Eqn.z = col at *
    show wpSs _ _ _ [some (.ref t), some (.int q), some (.int ((q - T.R) / 2 : Nat)), some (.int col.s), some (.int col.c), some (intsD col.cs), none] _
    walk_at "w"
    refine s_ifs ?_
    walk_at "w"
    refine f_ref h.ob h.R ?_
    walk_at "w"
    refine b_mod (by decide) ?_
    rw [e, two_mod]
    walk_at "w"
    refine k_if (fun hm => ?_) (fun hm => ?_)
    · have hm' : (q - T.R) % 2 = 1 := by omega
      walk_at "w"
      refine f_ref h.ob h.lo ?_
      walk_at "w"
      refine i_tup (atI_int (by rw [hT.l]; exact hj)) ?_
      refine b_mul (Sm.mul hc.1.s (sm_getD hT.lo (by decide)) (by decide)) ?_
      walk_at "w"
      refine .of ?_
      have : T.slack q = ⟨col.s, col.c - col.s * T.lows.getD ((q - T.R) / 2) 0, col.cs⟩ := by
        unfold TabS.slack; rw [if_neg hl', if_pos hm', he]
      rw [this] at kq; exact kq
    · have hm' : ¬ (q - T.R) % 2 = 1 := by omega
      walk_at "w"
      refine f_ref h.ob h.hi ?_
      walk_at "w"
      refine i_tup (atI_int (by rw [hT.h]; exact hj)) ?_
      refine b_mul (Sm.mul hc.1.s (sm_getD hT.hi (by decide)) (by decide)) ?_
      walk_at "w"
      have hm := hT.m
      refine comp_map' (f := fun z => .int (-z)) trivial (by rw [hc.2]; simp only [lim]; omega) (fun z hz => ?_) ?_
      · show wpE _ _ _ _ _ _
        walk_at "w"
        exact ⟨rfl, rfl⟩
      · refine l_fz (by rw [List.length_map, hc.2]; simp only [lim]; omega) ?_
        walk_at "w"
        refine .of ?_
        have : T.slack q = ⟨col.s, col.s * T.highs.getD ((q - T.R) / 2) 0 - col.c, col.cs.map fun z => -z⟩ := by
          unfold TabS.slack; rw [if_neg hl', if_neg hm', he]
        rw [this] at kq
        simpa [Eqn.d, intsD, List.map_map, Function.comp_def] using kq
/-! ### ratio -/
def ratioOf (t b : Int) : Int × Int :=
  let g : Int := (Nat.gcd t.natAbs b.natAbs : Nat)
  let g' := if b < 0 then -g else g
  (t.fdiv g', b.fdiv g')
def ratD (r : Int × Int) : D := .tup [.int r.1, .int r.2]
def spRatio : Sp := fun ds S Q _ => ∃ t b : Int, ds = [.int t, .int b] ∧ b ≠ 0 ∧ Sm 8000 b ∧ Q (ratD (ratioOf t b)) S
theorem ratio_ok {C : Cfg} : DefOk C spRatio 2 3 A.B_ratio := by
  rintro ds S Q X ⟨t, b, rfl, hb, hs, kq⟩
  refine ⟨rfl, ?_⟩
  unfold A.B_ratio
  walk_at "w"
  have hg0 : (Nat.gcd t.natAbs b.natAbs) ≠ 0 := by
    intro h; have := (Nat.gcd_eq_zero_iff.mp h).2; omega
  have hg1 : Nat.gcd t.natAbs b.natAbs ≤ b.natAbs := Nat.gcd_le_right _ (by omega)
  have hg2 := log2_le (b := 8000) (Nat.lt_of_lt_of_le (Nat.lt_of_le_of_lt hg1 hs) (Nat.pow_le_pow_right (by decide) (by decide)))
  generalize hg : Nat.gcd t.natAbs b.natAbs = g at *
  refine s_ifs ?_
  walk_at "w"
  refine k_if (fun h => ?_) (fun h => ?_)
  · walk_at "w"
    have hd : divOk t (-(g : Int)) ∧ divOk b (-(g : Int)) := ⟨⟨by omega, by simp; omega⟩, ⟨by omega, by simp; omega⟩⟩
    refine b_fdiv hd.1 ?_
    walk_at "w"
    refine b_fdiv hd.2 ?_
    walk_at "w"
    refine .of ?_
    have e : ratioOf t b = (t.fdiv (-(g : Int)), b.fdiv (-(g : Int))) := by
      unfold ratioOf; simp only [hg, if_pos h]
    rw [e] at kq; exact kq
  · walk_at "w"
    have hd : divOk t (g : Int) ∧ divOk b (g : Int) := ⟨⟨by omega, by simp; omega⟩, ⟨by omega, by simp; omega⟩⟩
    refine b_fdiv hd.1 ?_
    walk_at "w"
    refine b_fdiv hd.2 ?_
    walk_at "w"
    refine .of ?_
    have e : ratioOf t b = (t.fdiv (g : Int), b.fdiv (g : Int)) := by
      unfold ratioOf; simp only [hg, if_neg h]
    rw [e] at kq; exact kq
def TabS.corner (T : TabS) : List (Int × Int) := T.cols.map fun e => ratioOf e.c e.s
def spCorner : Sp := fun ds S Q _ => ∃ t T, ds = [.ref t] ∧ Tb S t T ∧ (∀ e ∈ T.cols, e.s ≠ 0 ∧ Sm 8000 e.s) ∧ Q (.tup (T.corner.map ratD)) S
theorem corner_ok {C : Cfg} {nr : Nat} (hr : C.fn nr = spRatio) : DefOk C spCorner 1 4 (A.B_Tableau_corner nr) := by
  rintro ds S Q X ⟨t, T, rfl, ⟨hT, fs, pD, cD, sD, h⟩, hs, kq⟩
  refine ⟨rfl, ?_⟩
  unfold A.B_Tableau_corner
  walk_at "w"
  refine f_ref h.ob h.c ?_
  refine v_itm h.cq h.ci fun st hst _ => ?_
  have hm := hT.m
  refine comp_map' (f := fun e => ratD (ratioOf e.c e.s)) hst (by simp only [lim]; omega) (fun e he => ?_) ?_
  · refine ⟨_, rfl, rfl, ?_⟩
    walk_at "w"
    rw [hr]
    exact ⟨e.c, e.s, rfl, (hs e he).1, (hs e he).2, rfl, rfl⟩
  · refine l_fz (by rw [List.length_map]; simp only [lim]; omega) ?_
    walk_at "w"
    refine .of ?_
    simpa [TabS.corner, List.map_map, Function.comp_def] using kq
end Py

set_option Elab.async false
set_option linter.all false
set_option maxRecDepth 100000
namespace Py
/-! Tb3: a new tableau. -/
local macro_rules | `(tactic| walk_at "w") => `(tactic| (repeat (first
  | with_reducible refine ss_cons ?_ | with_reducible refine ss_nil ?_ | with_reducible refine s_asg ?_ | with_reducible refine s_iset ?_ | with_reducible refine s_ret ?_ | with_reducible refine s_exp ?_ | with_reducible refine s_unp ?_ | with_reducible refine s_fset ?_
  | with_reducible refine e_var rfl ?_ | with_reducible refine e_int ?_ | with_reducible refine e_bl ?_ | with_reducible refine e_non ?_ | with_reducible refine e_str ?_ | with_reducible refine e_bin ?_ | with_reducible refine e_cmp ?_ | with_reducible refine e_idx ?_ | with_reducible refine e_neg ?_ | with_reducible refine e_blt ?_ | with_reducible refine e_and ?_ | with_reducible refine e_or ?_ | with_reducible refine e_not ?_
  | with_reducible refine e_tup ?_ | with_reducible refine e_lst ?_ | with_reducible refine e_call ?_ | with_reducible refine e_fld ?_ | with_reducible refine e_bme ?_ | with_reducible refine e_ite ?_ | with_reducible refine e_cls ?_ | with_reducible refine e_slc ?_ | with_reducible refine o_no ?_ | with_reducible refine o_yes ?_ | with_reducible refine e_comp ?_ | with_reducible refine w_of ?_ | with_reducible refine w_rng1 ?_ | with_reducible refine v_tup ?_ | with_reducible refine v_lst ?_
  | with_reducible refine es_nil ?_ | with_reducible refine es_cons ?_ | with_reducible refine and1 ?_ | with_reducible refine or1 ?_ | with_reducible refine and2 ?_ | with_reducible refine or2 ?_ | with_reducible refine e_meth ?_ | with_reducible refine e_new ?_
  | with_reducible refine k_neg ?_ | with_reducible refine b_add ?_ | with_reducible refine b_sub ?_ | with_reducible refine c_lt ?_ | with_reducible refine c_le ?_ | with_reducible refine c_gt ?_ | with_reducible refine c_ge ?_ | with_reducible refine c_eqI ?_ | with_reducible refine c_neI ?_
  | with_reducible refine i_ref (by assumption) rfl ?_ | with_reducible refine i_tup rfl ?_ | with_reducible refine i_lst rfl ?_ | with_reducible refine t_lenT ?_ | with_reducible refine t_lenL ?_ | with_reducible refine t_lenR (by assumption) ?_ | with_reducible refine t_int ?_ | with_reducible refine t_abs ?_ | with_reducible refine t_gcd ?_ | with_reducible refine t_tupT ?_ | with_reducible refine t_tupL ?_ | with_reducible refine t_tupR (by assumption) ?_ | with_reducible refine t_lstT ?_ | with_reducible refine t_lstL ?_ | with_reducible refine t_lstR (by assumption) ?_ | with_reducible refine t_lstS ?_
  | with_reducible refine t_isiT ?_ | with_reducible refine t_isiI ?_ | with_reducible refine t_isiB ?_ | with_reducible refine t_isiS ?_
  | with_reducible refine k_int ?_ | with_reducible refine k_len (Nat.le_of_ble_eq_true rfl) ?_ | with_reducible refine l_fz (Nat.le_of_ble_eq_true rfl) ?_ | with_reducible refine k_ift ?_ | with_reducible refine k_iff ?_ | with_reducible refine k_ifNT ?_ | with_reducible refine k_ifNF ?_ | with_reducible refine k_boolT ?_ | with_reducible refine k_boolF ?_)))
def coefsL (m : Nat) (ts : Terms) : List Int := ts.foldl (fun l q => l.set q.1 q.2) (List.replicate m 0)
theorem coefsL_len (m : Nat) (ts : Terms) : (coefsL m ts).length = m := by
  unfold coefsL
  suffices h : ∀ l : List Int, l.length = m → (ts.foldl (fun l q => l.set q.1 q.2) l).length = m from h _ (by simp)
  intro l hl
  induction ts generalizing l with
  | nil => exact hl
  | cons a ts ih => exact ih _ (by simpa using hl)
def Prg.fh (p : Prg) (j : Nat) : Bool := decide (0 ≤ (coefsL p.m p.aim).getD j 0)
def Prg.place (p : Prg) (j : Nat) : Nat := p.R + 2 * j + (if p.fh j = true then 0 else 1)
def Prg.col (p : Prg) (j : Nat) : Eqn := ⟨1, if p.fh j = true then p.highs.getD j 0 else p.lows.getD j 0, (List.replicate p.m 0).set j (if p.fh j = true then -1 else 1)⟩
def Prg.cols (p : Prg) : List Eqn := (List.range p.m).map p.col
def Prg.tab (p : Prg) : TabS := ⟨p.lows, p.highs, p.R, (List.range p.m).map p.place, p.cols, comb p.cols p.aim 0, p.rows.map fun r => comb p.cols (r.1.map fun q => (q.1, -q.2)) r.2⟩
theorem Prg.cols_len (p : Prg) : p.cols.length = p.m := by simp [Prg.cols]
theorem Prg.col_ok {p : Prg} (P : POk p) : ∀ e ∈ p.cols, e.Sm 40 ∧ e.cs.length = p.m ∧ e.s = 1 := by
  intro e he
  obtain ⟨j, hj, rfl⟩ := List.mem_map.mp he
  refine ⟨⟨show (1 : Int).natAbs < 2 ^ 40 by decide, ?_, ?_⟩, by simp [Prg.col], rfl⟩
  · show Sm 40 (if p.fh j = true then p.highs.getD j 0 else p.lows.getD j 0)
    split
    · exact sm_getD P.hi (by decide)
    · exact sm_getD P.lo (by decide)
  · intro z hz
    rcases List.mem_or_eq_of_mem_set hz with h | rfl
    · rw [List.eq_of_mem_replicate h]; exact show (0 : Int).natAbs < 2 ^ 40 by decide
    · split
      · exact show (-1 : Int).natAbs < 2 ^ 40 by decide
      · exact show (1 : Int).natAbs < 2 ^ 40 by decide
theorem Prg.tab_ok {p : Prg} (P : POk p) : p.tab.Ok := by
  have hm := p.cols_len
  have h1 := P.m2
  refine ⟨?_, ?_, ?_, ?_, ?_, ?_, fun z hz => (P.lo z hz).mono (by decide), fun z hz => (P.hi z hz).mono (by decide), fun e he => ?_⟩
  · show p.lows.length = p.cols.length; rw [hm]; rfl
  · show p.highs.length = p.cols.length; rw [hm]; exact P.h
  · show ((List.range p.m).map p.place).length = p.cols.length; rw [hm]; simp
  · show (p.rows.map _).length = p.R; simp [Prg.R]
  · show p.cols.length ≤ 100; omega
  · exact P.r2
  · obtain ⟨a, b, c⟩ := Prg.col_ok P e he
    exact ⟨⟨a.s.mono (by decide), a.c.mono (by decide), fun z hz => (a.cs z hz).mono (by decide)⟩, by rw [b]; exact hm.symm⟩
def spInit (F : String → String → Bool) : Sp := fun ds S Q _ => ∃ (t : Nat) (p : Prg), ds = [.ref t, intsD p.lows, intsD p.highs, .tup (p.rows.map rowD), termsD p.aim] ∧ POk p ∧ S t = some (.ins "Tableau" []) ∧ (∀ f ∈ tabNames, F "Tableau" f = true) ∧
  ∀ S', Kp [t] S S' → (∃ fs P Cc Ss, TabAt S' t p.tab fs (.lst P) (.lst Cc) (.lst Ss)) → Q .non S'
theorem init_ok {C : Cfg} {nc : Nat} (hC : Mono C) (hc : C.fn nc = spCombined) : DefOk C (spInit C.fld) 5 16 (A.B_Tableau___init__ nc) := by
  rintro ds S Q X ⟨t, p, rfl, P, ht, hf, kq⟩
  refine ⟨rfl, ?_⟩
  have hm2 := P.m2
  have hr2 := P.r2
  have ht0 : ∀ {b : Nat}, S b = none → t ≠ b := fun h z => by subst z; rw [ht] at h; cases h
  unfold A.B_Tableau___init__
  walk_at "w"
  rw [show ((p.lows.map D.int).length : Int) = (p.m : Nat) by simp [Prg.m]]
  refine comp_map' (f := fun _ => .int 0) trivial (show p.m ≤ lim by simp only [lim]; omega) (fun e he => ?_) ?_
  · show wpE _ _ _ _ _ _
    walk_at "w"
    exact ⟨rfl, rfl⟩
  have e0 : (p.lows.map fun _ => D.int 0) = (List.replicate p.m 0).map .int := by rw [List.map_const', List.map_replicate]; rfl
  rw [e0]
  refine l_mt (by simp [lim]; omega) fun ac hac => ?_
  walk_at "w"
  have nta := ht0 hac
  -- the aim's coefficients
  refine s_mid hC (fun ρ' S' => S' ac = some (.lst ((coefsL p.m p.aim).map .int)) ∧ Kp [] S S' ∧ ∃ x8 x9, ρ' = [some (.ref t), some (intsD p.lows), some (intsD p.highs), some (.tup (p.rows.map rowD)), some (termsD p.aim), some (.int (p.m : Nat)), some (.ref ac), none, x8, x9, none, none, none, none, none, none]) ?_ ?_
  · refine s_for ?_
    walk_at "w"
    refine loop_map (fun pre ρ' S' => S' ac = some (.lst ((coefsL p.m pre).map .int)) ∧ Kp [] S S' ∧ ∃ x8 x9, ρ' = [some (.ref t), some (intsD p.lows), some (intsD p.highs), some (.tup (p.rows.map rowD)), some (termsD p.aim), some (.int (p.m : Nat)), some (.ref ac), none, x8, x9, none, none, none, none, none, none])
      ⟨put_same, Kp.refl.nw hac, none, none, rfl⟩ ?_ (fun _ _ h => h)
    rintro pre ⟨v, c⟩ suf ρ' S' e ⟨hS, kp, x8, x9, rfl⟩
    have hv := P.aim.2 (v, c) (by rw [e]; simp)
    refine ⟨_, rfl, rfl, ?_⟩
    show wpSs _ _ _ [_, _, _, _, _, _, _, _, some (.int (v : Int)), some (.int c), _, _, _, _, _, _] _
    walk_at "w"
    refine k_iset hS (ixN_nat (by rw [List.length_map, coefsL_len]; exact hv.1)) ?_
    refine ⟨?_, kp.upN hac, _, _, rfl⟩
    rw [put_same, set_int]
    simp [coefsL, List.foldl_append]
  rintro ρ' S1 ⟨hac1, kp1, x8, x9, rfl⟩
  have ht1 := kp1 _ _ ht (by simp)
  walk_at "w"
  refine k_fset ht1 (hf _ (by decide)) (by decide) ?_
  walk_at "w"
  refine k_fset put_same (hf _ (by decide)) (by simp [fput]) ?_
  walk_at "w"
  rw [show ((p.rows.map rowD).length : Int) = (p.R : Nat) by simp [Prg.R]]
  refine k_fset put_same (hf _ (by decide)) (by simp [fput]) ?_
  walk_at "w"
  generalize h2 : put _ t _ = S2
  have ht2 : S2 t = some (.ins "Tableau" [("lows", intsD p.lows), ("highs", intsD p.highs), ("row_many", .int (p.R : Nat))]) := by rw [← h2, put_same]; simp [fput]
  have hac2 : S2 ac = some (.lst ((coefsL p.m p.aim).map .int)) := by rw [← h2, put_ne nta.symm, put_ne nta.symm, put_ne nta.symm]; exact hac1
  have kp2 : Kp [t] S S2 := by rw [← h2]; exact (((kp1.mono (by simp)).up (by simp)).up (by simp)).up (by simp)
  clear h2 kp1 ht1 hac1
  refine l_mt (Nat.le_of_ble_eq_true rfl) fun pl hpl => ?_
  walk_at "w"
  have ntp : t ≠ pl := fun z => by subst z; rw [ht2] at hpl; cases hpl
  have nap : ac ≠ pl := fun z => by subst z; rw [hac2] at hpl; cases hpl
  have spl : S pl = none := by
    cases e : S pl with
    | none => rfl
    | some o => have := kp2 _ _ e (by simpa using ntp.symm); rw [hpl] at this; cases this
  refine k_fset (by rw [put_ne ntp]; exact ht2) (hf _ (by decide)) (by simp) ?_
  walk_at "w"
  generalize h3 : put _ t _ = S3
  have ht3 : S3 t = some (.ins "Tableau" [("lows", intsD p.lows), ("highs", intsD p.highs), ("row_many", .int (p.R : Nat)), ("places", .ref pl)]) := by rw [← h3, put_same]; simp [fput]
  have hac3 : S3 ac = some (.lst ((coefsL p.m p.aim).map .int)) := by rw [← h3, put_ne nta.symm, put_ne nap]; exact hac2
  have hpl3 : S3 pl = some (.lst []) := by rw [← h3, put_ne ntp.symm, put_same]
  have kp3 : Kp [t] S S3 := by rw [← h3]; exact (kp2.upN spl).up (by simp)
  clear h3 kp2 ht2 hac2 hpl
  refine l_mt (Nat.le_of_ble_eq_true rfl) fun cr hcr => ?_
  walk_at "w"
  have ntc : t ≠ cr := fun z => by subst z; rw [ht3] at hcr; cases hcr
  have nacr : ac ≠ cr := fun z => by subst z; rw [hac3] at hcr; cases hcr
  have npc : pl ≠ cr := fun z => by subst z; rw [hpl3] at hcr; cases hcr
  have scr : S cr = none := by
    cases e : S cr with
    | none => rfl
    | some o => have := kp3 _ _ e (by simpa using ntc.symm); rw [hcr] at this; cases this
  refine k_fset (by rw [put_ne ntc]; exact ht3) (hf _ (by decide)) (by simp) ?_
  walk_at "w"
  generalize h4 : put _ t _ = S4
  have ht4 : S4 t = some (.ins "Tableau" [("lows", intsD p.lows), ("highs", intsD p.highs), ("row_many", .int (p.R : Nat)), ("places", .ref pl), ("column_rows", .ref cr)]) := by rw [← h4, put_same]; simp [fput]
  have hac4 : S4 ac = some (.lst ((coefsL p.m p.aim).map .int)) := by rw [← h4, put_ne nta.symm, put_ne nacr]; exact hac3
  have hpl4 : S4 pl = some (.lst []) := by rw [← h4, put_ne ntp.symm, put_ne npc]; exact hpl3
  have hcr4 : S4 cr = some (.lst []) := by rw [← h4, put_ne ntc.symm, put_same]
  have kp4 : Kp [t] S S4 := by rw [← h4]; exact (kp3.upN scr).up (by simp)
  clear h4 kp3 ht3 hac3 hpl3 hcr
  -- the columns
  refine s_mid hC (fun ρ' S' => S' t = some (.ins "Tableau" [("lows", intsD p.lows), ("highs", intsD p.highs), ("row_many", .int (p.R : Nat)), ("places", .ref pl), ("column_rows", .ref cr)]) ∧
    S' pl = some (.lst (natsD p.tab.places)) ∧ S' cr = some (.lst (p.cols.map Eqn.d)) ∧ Kp [t] S S' ∧ ∃ x7 x8 x9 x10 x11, ρ' = [some (.ref t), some (intsD p.lows), some (intsD p.highs), some (.tup (p.rows.map rowD)), some (termsD p.aim), some (.int (p.m : Nat)), some (.ref ac), x7, x8, x9, x10, x11, none, none, none, none]) ?_ ?_
  · refine s_for ?_
    walk_at "w"
    refine ⟨by omega, by omega, ?_⟩
    refine loop_rng (fun i ρ' S' => S' t = some (.ins "Tableau" [("lows", intsD p.lows), ("highs", intsD p.highs), ("row_many", .int (p.R : Nat)), ("places", .ref pl), ("column_rows", .ref cr)]) ∧
      S' pl = some (.lst (natsD ((List.range i).map p.place))) ∧ S' cr = some (.lst (((List.range i).map p.col).map Eqn.d)) ∧ S' ac = some (.lst ((coefsL p.m p.aim).map .int)) ∧ Kp [t] S S' ∧
      ∃ x7 x8 x9 x10 x11, ρ' = [some (.ref t), some (intsD p.lows), some (intsD p.highs), some (.tup (p.rows.map rowD)), some (termsD p.aim), some (.int (p.m : Nat)), some (.ref ac), x7, x8, x9, x10, x11, none, none, none, none])
      ⟨ht4, hpl4, hcr4, hac4, kp4, _, _, _, _, _, rfl⟩ ?_ ?_
    · rintro i ρ' S5 hi ⟨h1, h2, h3, h4, kp, x7, x8, x9, x10, x11, rfl⟩
      have hi' : i < p.m := by omega
      show wpSs _ _ _ [_, _, _, _, _, _, _, some (.int (i : Int)), _, _, _, _, _, _, _, _] _
      walk_at "w"
      refine i_ref h4 (atI_int (by rw [coefsL_len]; exact hi')) ?_
      walk_at "w"
      refine comp_map' (f := fun _ => .int 0) trivial (show p.m ≤ lim by simp only [lim]; omega) (fun e he => ?_) ?_
      · show wpE _ _ _ _ _ _
        walk_at "w"
        exact ⟨rfl, rfl⟩
      rw [e0]
      refine l_mt (by simp [lim]; omega) fun un hun => ?_
      have ntu : t ≠ un := fun z => by subst z; rw [h1] at hun; cases hun
      have npu : pl ≠ un := fun z => by subst z; rw [h2] at hun; cases hun
      have ncu : cr ≠ un := fun z => by subst z; rw [h3] at hun; cases hun
      have nau : ac ≠ un := fun z => by subst z; rw [h4] at hun; cases hun
      have sun : S un = none := by
        cases e : S un with
        | none => rfl
        | some o => have := kp _ _ e (by simpa using ntu.symm); rw [hun] at this; cases this
      have hb : decide (0 ≤ (coefsL p.m p.aim).getD i 0) = p.fh i := rfl
      rw [hb]
      walk_at "w"
      have h1 : put S5 un (.lst ((List.replicate p.m 0).map .int)) t = _ := (put_ne ntu).trans h1
      have h2 : put S5 un (.lst ((List.replicate p.m 0).map .int)) pl = _ := (put_ne npu).trans h2
      have h3 : put S5 un (.lst ((List.replicate p.m 0).map .int)) cr = _ := (put_ne ncu).trans h3
      have h4 : put S5 un (.lst ((List.replicate p.m 0).map .int)) ac = _ := (put_ne nau).trans h4
      have h5 : put S5 un (.lst ((List.replicate p.m 0).map .int)) un = _ := put_same
      have kp := kp.upN (o := .lst ((List.replicate p.m 0).map .int)) sun
      generalize put S5 un (.lst ((List.replicate p.m 0).map .int)) = S6 at *
      cases hfh : p.fh i
      · walk_at "w"
        refine k_iset h5 (ixN_nat (by simp; omega)) ?_
        rw [set_int]
        walk_at "w"
        have g1 : put S6 un (.lst (((List.replicate p.m 0).set i 1).map .int)) t = _ := (put_ne ntu).trans h1
        have g2 : put S6 un (.lst (((List.replicate p.m 0).set i 1).map .int)) pl = _ := (put_ne npu).trans h2
        have g3 : put S6 un (.lst (((List.replicate p.m 0).set i 1).map .int)) cr = _ := (put_ne ncu).trans h3
        have g4 : put S6 un (.lst (((List.replicate p.m 0).set i 1).map .int)) ac = _ := (put_ne nau).trans h4
        have g5 : put S6 un (.lst (((List.replicate p.m 0).set i 1).map .int)) un = _ := put_same
        have kq6 := kp.upN (o := .lst (((List.replicate p.m 0).set i 1).map .int)) sun
        generalize put S6 un (.lst (((List.replicate p.m 0).set i 1).map .int)) = S7 at *
        refine f_ref g1 (d := .ref pl) (by simp [List.lookup]) ?_
        refine k_recv g2 ?_
        walk_at "w"
        refine f_ref g1 (d := .int (p.R : Nat)) (by simp [List.lookup]) ?_
        walk_at "w"
        refine b_mul (small_mul (by omega) (by omega) (by omega) (by omega)) ?_
        walk_at "w"
        refine m_app g2 (by simp [natsD, lim]; omega) ?_
        walk_at "w"
        have j1 : put S7 pl (.lst (natsD ((List.range i).map p.place) ++ [.int ((p.R : Nat) + 2 * (i : Int) + 1)])) t = _ := (put_ne ntp).trans g1
        have j2 : put S7 pl (.lst (natsD ((List.range i).map p.place) ++ [.int ((p.R : Nat) + 2 * (i : Int) + 1)])) pl = some (.lst (natsD ((List.range (i + 1)).map p.place))) := by
          rw [put_same, List.range_succ, List.map_append]; simp [natsD, Prg.place, hfh]
        have j3 : put S7 pl (.lst (natsD ((List.range i).map p.place) ++ [.int ((p.R : Nat) + 2 * (i : Int) + 1)])) cr = _ := (put_ne npc.symm).trans g3
        have j4 : put S7 pl (.lst (natsD ((List.range i).map p.place) ++ [.int ((p.R : Nat) + 2 * (i : Int) + 1)])) ac = _ := (put_ne nap).trans g4
        have j5 : put S7 pl (.lst (natsD ((List.range i).map p.place) ++ [.int ((p.R : Nat) + 2 * (i : Int) + 1)])) un = _ := (put_ne npu.symm).trans g5
        have kq7 := kq6.upN (o := .lst (natsD ((List.range i).map p.place) ++ [.int ((p.R : Nat) + 2 * (i : Int) + 1)])) spl
        generalize put S7 pl (.lst (natsD ((List.range i).map p.place) ++ [.int ((p.R : Nat) + 2 * (i : Int) + 1)])) = S8 at *
        refine f_ref j1 (d := .ref cr) (by simp [List.lookup]) ?_
        refine k_recv j3 ?_
        walk_at "w"
        refine i_tup (atI_int (by exact hi')) ?_
        walk_at "w"
        refine m_app j3 (by simp [lim]; omega) ?_
        refine ⟨(put_ne ntc).trans j1, (put_ne npc).trans j2, ?_, (put_ne nacr).trans j4, kq7.upN scr, _, _, _, _, _, rfl⟩
        rw [put_same, List.range_succ, List.map_append, List.map_append]
        simp [Prg.col, hfh]
      · walk_at "w"
        refine k_iset h5 (ixN_nat (by simp; omega)) ?_
        rw [set_int]
        walk_at "w"
        have g1 : put S6 un (.lst (((List.replicate p.m 0).set i (-1)).map .int)) t = _ := (put_ne ntu).trans h1
        have g2 : put S6 un (.lst (((List.replicate p.m 0).set i (-1)).map .int)) pl = _ := (put_ne npu).trans h2
        have g3 : put S6 un (.lst (((List.replicate p.m 0).set i (-1)).map .int)) cr = _ := (put_ne ncu).trans h3
        have g4 : put S6 un (.lst (((List.replicate p.m 0).set i (-1)).map .int)) ac = _ := (put_ne nau).trans h4
        have g5 : put S6 un (.lst (((List.replicate p.m 0).set i (-1)).map .int)) un = _ := put_same
        have kq6 := kp.upN (o := .lst (((List.replicate p.m 0).set i (-1)).map .int)) sun
        generalize put S6 un (.lst (((List.replicate p.m 0).set i (-1)).map .int)) = S7 at *
        refine f_ref g1 (d := .ref pl) (by simp [List.lookup]) ?_
        refine k_recv g2 ?_
        walk_at "w"
        refine f_ref g1 (d := .int (p.R : Nat)) (by simp [List.lookup]) ?_
        walk_at "w"
        refine b_mul (small_mul (by omega) (by omega) (by omega) (by omega)) ?_
        walk_at "w"
        refine m_app g2 (by simp [natsD, lim]; omega) ?_
        walk_at "w"
        have j1 : put S7 pl (.lst (natsD ((List.range i).map p.place) ++ [.int ((p.R : Nat) + 2 * (i : Int) + 0)])) t = _ := (put_ne ntp).trans g1
        have j2 : put S7 pl (.lst (natsD ((List.range i).map p.place) ++ [.int ((p.R : Nat) + 2 * (i : Int) + 0)])) pl = some (.lst (natsD ((List.range (i + 1)).map p.place))) := by
          rw [put_same, List.range_succ, List.map_append]; simp [natsD, Prg.place, hfh]
        have j3 : put S7 pl (.lst (natsD ((List.range i).map p.place) ++ [.int ((p.R : Nat) + 2 * (i : Int) + 0)])) cr = _ := (put_ne npc.symm).trans g3
        have j4 : put S7 pl (.lst (natsD ((List.range i).map p.place) ++ [.int ((p.R : Nat) + 2 * (i : Int) + 0)])) ac = _ := (put_ne nap).trans g4
        have j5 : put S7 pl (.lst (natsD ((List.range i).map p.place) ++ [.int ((p.R : Nat) + 2 * (i : Int) + 0)])) un = _ := (put_ne npu.symm).trans g5
        have kq7 := kq6.upN (o := .lst (natsD ((List.range i).map p.place) ++ [.int ((p.R : Nat) + 2 * (i : Int) + 0)])) spl
        generalize put S7 pl (.lst (natsD ((List.range i).map p.place) ++ [.int ((p.R : Nat) + 2 * (i : Int) + 0)])) = S8 at *
        refine f_ref j1 (d := .ref cr) (by simp [List.lookup]) ?_
        refine k_recv j3 ?_
        walk_at "w"
        refine i_tup (atI_int (by rw [P.h]; exact hi')) ?_
        walk_at "w"
        refine m_app j3 (by simp [lim]; omega) ?_
        refine ⟨(put_ne ntc).trans j1, (put_ne npc).trans j2, ?_, (put_ne nacr).trans j4, kq7.upN scr, _, _, _, _, _, rfl⟩
        rw [put_same, List.range_succ, List.map_append, List.map_append]
        simp [Prg.col, hfh]
    · rintro ρ' S' ⟨h1, h2, h3, h4, kp, x7, x8, x9, x10, x11, rfl⟩
      have em : ((p.m : Nat) : Int).toNat = p.m := by omega
      rw [em] at h2 h3
      exact ⟨h1, h2, h3, kp, _, _, _, _, _, rfl⟩
  rintro ρ' S5 ⟨h1, h2, h3, kp, x7, x8, x9, x10, x11, rfl⟩
  clear ht4 hac4 hpl4 hcr4 kp4
  walk_at "w"
  refine f_ref h1 (d := .ref cr) (by simp [List.lookup]) ?_
  walk_at "w"
  rw [hc]
  have hcols := Prg.col_ok P
  have hcl := p.cols_len
  have spcols : ∀ e ∈ p.cols, e.Sm 40 ∧ e.cs.length = p.cols.length := fun e he => by
    obtain ⟨a, b, _⟩ := hcols e he
    exact ⟨a, by rw [b, hcl]⟩
  refine ⟨_, _, p.aim, p.cols, 0, rfl, trivial, rfl, trivial, by simp [itemsOf, h3], by omega, by rw [hcl]; exact P.aim, spcols, fun S6 kp6 => ?_⟩
  have g1 := kp6 _ _ h1 (by simp)
  have g2 := kp6 _ _ h2 (by simp)
  have g3 := kp6 _ _ h3 (by simp)
  have kq6 := kp.trans (kp6.mono (M' := [t]) (by simp))
  walk_at "w"
  refine k_fset g1 (hf _ (by decide)) (by simp) ?_
  walk_at "w"
  generalize h7 : put _ t _ = S7
  have k1 : S7 t = some (.ins "Tableau" [("lows", intsD p.lows), ("highs", intsD p.highs), ("row_many", .int (p.R : Nat)), ("places", .ref pl), ("column_rows", .ref cr), ("aim_row", (comb p.cols p.aim 0).d)]) := by rw [← h7, put_same]; simp [fput]
  have k2 : S7 pl = some (.lst (natsD p.tab.places)) := by rw [← h7]; exact (put_ne ntp.symm).trans g2
  have k3 : S7 cr = some (.lst (p.cols.map Eqn.d)) := by rw [← h7]; exact (put_ne ntc.symm).trans g3
  have kq7 : Kp [t] S S7 := by rw [← h7]; exact kq6.up (by simp)
  clear h7 g1 g2 g3 kq6 kp6 h1 h2 h3 kp
  refine l_mt (Nat.le_of_ble_eq_true rfl) fun sr hsr => ?_
  walk_at "w"
  have nts : t ≠ sr := fun z => by subst z; rw [k1] at hsr; cases hsr
  have nps : pl ≠ sr := fun z => by subst z; rw [k2] at hsr; cases hsr
  have ncs : cr ≠ sr := fun z => by subst z; rw [k3] at hsr; cases hsr
  have ssr : S sr = none := by
    cases e : S sr with
    | none => rfl
    | some o => have := kq7 _ _ e (by simpa using nts.symm); rw [hsr] at this; cases this
  refine k_fset (by rw [put_ne nts]; exact k1) (hf _ (by decide)) (by simp) ?_
  walk_at "w"
  generalize h8 : put _ t _ = S8
  have j1 : S8 t = some (.ins "Tableau" [("lows", intsD p.lows), ("highs", intsD p.highs), ("row_many", .int (p.R : Nat)), ("places", .ref pl), ("column_rows", .ref cr), ("aim_row", (comb p.cols p.aim 0).d), ("slack_rows", .ref sr)]) := by rw [← h8, put_same]; simp [fput]
  have j2 : S8 pl = some (.lst (natsD p.tab.places)) := by rw [← h8]; exact (put_ne ntp.symm).trans ((put_ne nps).trans k2)
  have j3 : S8 cr = some (.lst (p.cols.map Eqn.d)) := by rw [← h8]; exact (put_ne ntc.symm).trans ((put_ne ncs).trans k3)
  have j4 : S8 sr = some (.lst []) := by rw [← h8]; exact (put_ne nts.symm).trans put_same
  have kq8 : Kp [t] S S8 := by rw [← h8]; exact (kq7.upN ssr).up (by simp)
  clear h8 k1 k2 k3 kq7
  refine s_mid hC (fun ρ' S' => S' t = some (.ins "Tableau" [("lows", intsD p.lows), ("highs", intsD p.highs), ("row_many", .int (p.R : Nat)), ("places", .ref pl), ("column_rows", .ref cr), ("aim_row", (comb p.cols p.aim 0).d), ("slack_rows", .ref sr)]) ∧
    S' pl = some (.lst (natsD p.tab.places)) ∧ S' cr = some (.lst (p.cols.map Eqn.d)) ∧ S' sr = some (.lst (p.tab.slacks.map Eqn.d)) ∧ Kp [t] S S') ?_ ?_
  · refine s_for ?_
    walk_at "w"
    refine loop_map (fun pre ρ' S' => S' t = some (.ins "Tableau" [("lows", intsD p.lows), ("highs", intsD p.highs), ("row_many", .int (p.R : Nat)), ("places", .ref pl), ("column_rows", .ref cr), ("aim_row", (comb p.cols p.aim 0).d), ("slack_rows", .ref sr)]) ∧
      S' pl = some (.lst (natsD p.tab.places)) ∧ S' cr = some (.lst (p.cols.map Eqn.d)) ∧ S' sr = some (.lst ((pre.map fun r : Terms × Int => comb p.cols (r.1.map fun q => (q.1, -q.2)) r.2).map Eqn.d)) ∧ Kp [t] S S' ∧
      ∃ x12 x13 x14, ρ' = [some (.ref t), some (intsD p.lows), some (intsD p.highs), some (.tup (p.rows.map rowD)), some (termsD p.aim), some (.int (p.m : Nat)), some (.ref ac), x7, x8, x9, x10, x11, x12, x13, x14, none]) ⟨j1, j2, j3, j4, kq8, _, _, _, rfl⟩ ?_ ?_
    · rintro pre ⟨ts, rhs⟩ suf ρ' S9 e ⟨i1, i2, i3, i4, kq9, x12, x13, x14, rfl⟩
      have hr := P.rows (ts, rhs) (by rw [e]; simp)
      have hpre : pre.length ≤ 1000 := by
        have h := congrArg List.length e
        simp only [List.length_append, List.length_cons] at h
        unfold Prg.R at hr2
        omega
      refine ⟨_, rfl, rfl, ?_⟩
      show wpSs _ _ _ [_, _, _, _, _, _, _, _, _, _, _, _, some (termsD ts), some (.int rhs), _, _] _
      walk_at "w"
      have hle : ts.length ≤ lim := by have h : ts.length ≤ p.m := hr.1.len; simp only [lim]; omega
      refine comp_map' (f := fun p => tmD (p.1, -p.2)) trivial hle (fun p hp => ?_) ?_
      · refine ⟨_, rfl, rfl, ?_⟩
        walk_at "w"
        exact ⟨rfl, rfl⟩
      refine l_fz (by rw [List.length_map]; exact hle) ?_
      have en : (ts.map fun p : Nat × Int => tmD (p.1, -p.2)) = (ts.map fun p => (p.1, -p.2)).map tmD := by simp [List.map_map, Function.comp]
      rw [en]
      walk_at "w"
      refine f_ref i1 (d := .ref sr) (by simp [List.lookup]) ?_
      refine k_recv i4 ?_
      walk_at "w"
      refine f_ref i1 (d := .ref cr) (by simp [List.lookup]) ?_
      walk_at "w"
      rw [hc]
      refine ⟨_, _, ts.map fun p => (p.1, -p.2), p.cols, rhs, rfl, trivial, rfl, trivial, by simp [itemsOf, i3], by omega, by rw [hcl]; exact hr.1.map (fun c => -c) (fun c h => h.neg), spcols, fun S10 kp10 => ?_⟩
      have i1 := kp10 _ _ i1 (by simp)
      have i2 := kp10 _ _ i2 (by simp)
      have i3 := kp10 _ _ i3 (by simp)
      have i4 := kp10 _ _ i4 (by simp)
      walk_at "w"
      refine m_app i4 (by simp [lim]; omega) ?_
      refine ⟨(put_ne nts).trans i1, (put_ne nps).trans i2, (put_ne ncs).trans i3, by rw [put_same, List.map_append, List.map_append]; rfl, (kq9.trans (kp10.mono (M' := [t]) (by simp))).upN ssr, _, _, _, rfl⟩
    · rintro ρ' S9 ⟨i1, i2, i3, i4, kq9, _⟩
      exact ⟨i1, i2, i3, i4, kq9⟩
  rintro ρ' S9 ⟨i1, i2, i3, i4, kq9⟩
  show Fin Q .non S9
  -- what was built is frozen
  refine ⟨.non, fun b => if b = t then some (.ins "Tableau" [("lows", intsD p.lows), ("highs", intsD p.highs), ("row_many", .int (p.R : Nat)), ("places", .lst (natsD p.tab.places)), ("column_rows", .lst (p.cols.map Eqn.d)), ("aim_row", (comb p.cols p.aim 0).d), ("slack_rows", .lst (p.tab.slacks.map Eqn.d))]) else if b = pl ∨ b = cr ∨ b = sr then none else S9 b, .same _, ?_, kq _ ?_ ?_⟩
  · intro b o hb
    by_cases e : b = t
    · subst e
      dsimp only at hb
      rw [if_pos rfl] at hb
      cases hb
      have z : ∀ {x : Nat}, x ≠ b → (x = pl ∨ x = cr ∨ x = sr) → (if x = b then some (Obj.ins "Tableau" [("lows", intsD p.lows), ("highs", intsD p.highs), ("row_many", .int (p.R : Nat)), ("places", .lst (natsD p.tab.places)), ("column_rows", .lst (p.cols.map Eqn.d)), ("aim_row", (comb p.cols p.aim 0).d), ("slack_rows", .lst (p.tab.slacks.map Eqn.d))]) else if x = pl ∨ x = cr ∨ x = sr then none else S9 x) = none := fun h1 h2 => by rw [if_neg h1, if_pos h2]
      refine ⟨_, i1, rfl, .cons (.same _) (.cons (.same _) (.cons (.same _) (.cons (.frz i2 (z ntp.symm (.inl rfl)) (FrL.same _)) (.cons (.frz i3 (z ntc.symm (.inr (.inl rfl))) (FrL.same _)) (.cons (.same _) (.cons (.frz i4 (z nts.symm (.inr (.inr rfl))) (FrL.same _)) .nil))))))⟩
    · dsimp only at hb
      rw [if_neg e] at hb
      split at hb
      · cases hb
      · exact ⟨o, hb, .same o⟩
  · intro b o hb hn
    have e : b ≠ t := by simpa using hn
    dsimp only
    rw [if_neg e, if_neg]
    · exact kq9 b o hb hn
    · rintro (rfl | rfl | rfl)
      · rw [spl] at hb; cases hb
      · rw [scr] at hb; cases hb
      · rw [ssr] at hb; cases hb
  · refine ⟨_, natsD p.tab.places, p.cols.map Eqn.d, p.tab.slacks.map Eqn.d, if_pos rfl, by simp [List.lookup, Prg.tab], by simp [List.lookup, Prg.tab], by simp [List.lookup, Prg.tab], by simp [List.lookup], rfl, trivial, by simp [List.lookup], rfl, trivial, by simp [List.lookup, Prg.tab], by simp [List.lookup], rfl, trivial, ?_⟩
    intro m hm
    simp only [tabNames, List.mem_cons, List.not_mem_nil, or_false, not_or] at hm
    obtain ⟨a1, a2, a3, a4, a5, a6, a7⟩ := hm
    simp [List.lookup, beq_eq_false_iff_ne.mpr a1, beq_eq_false_iff_ne.mpr a2, beq_eq_false_iff_ne.mpr a3, beq_eq_false_iff_ne.mpr a4, beq_eq_false_iff_ne.mpr a5, beq_eq_false_iff_ne.mpr a6, beq_eq_false_iff_ne.mpr a7]
end Py

set_option Elab.async false
set_option linter.all false
set_option maxRecDepth 100000
namespace Py
/-! Tb4: what the equations of a new tableau say. -/
theorem getD_set {l : List Int} {v i : Nat} {x : Int} (hv : v < l.length) : (l.set v x).getD i 0 = if i = v then x else l.getD i 0 := by
  simp only [List.getD, List.getElem?_set]
  by_cases h : v = i
  · subst h; simp [hv]
  · have : ¬ i = v := fun z => h z.symm
    simp [h, this]
theorem getD_zeros {m i : Nat} : (List.replicate m (0 : Int)).getD i 0 = 0 := by
  simp only [List.getD, List.getElem?_replicate]
  split <;> rfl
theorem dot_zeros {m : Nat} {sl : List Int} : ∀ n, dotTo (List.replicate m 0) sl n = 0
  | 0 => rfl
  | n + 1 => by rw [dotTo, dot_zeros n, getD_zeros]; simp
theorem dot_set {cs sl : List Int} {v : Nat} {x : Int} (hv : v < cs.length) (h0 : cs.getD v 0 = 0) : ∀ n, dotTo (cs.set v x) sl n = dotTo cs sl n + if v < n then x * sl.getD v 0 else 0
  | 0 => by simp [dotTo]
  | n + 1 => by
    rw [dotTo, dotTo, dot_set hv h0 n, getD_set hv]
    by_cases h : n = v
    · subst h
      rw [if_pos rfl, if_neg (Nat.lt_irrefl _), if_pos (Nat.lt_succ_self _), h0]; simp
    · rw [if_neg h]
      by_cases h2 : v < n
      · rw [if_pos h2, if_pos (by omega)]; omega
      · rw [if_neg h2, if_neg (by omega)]; omega
theorem dot_neg {cs sl : List Int} : ∀ n, dotTo (cs.map fun z => -z) sl n = -dotTo cs sl n
  | 0 => rfl
  | n + 1 => by
    rw [dotTo, dotTo, dot_neg n]
    have : (cs.map fun z => -z).getD n 0 = -(cs.getD n 0) := by
      simp only [List.getD, List.getElem?_map]
      cases cs[n]? <;> simp
    rw [this, Int.neg_mul]; omega
def Prg.sval (p : Prg) (q : Nat) (pt : List Int) : Int := (p.ineq q).2 - tsum (p.ineq q).1 pt
def Prg.sls (p : Prg) (pt : List Int) : List Int := (List.range p.m).map fun k => p.sval (p.place k) pt
section
variable {p : Prg} {pt : List Int}
theorem Prg.place_lt {k : Nat} (h : k < p.m) : p.place k < p.R + 2 * p.m := by unfold Prg.place; split <;> omega
theorem sls_get {k : Nat} (h : k < p.m) : (p.sls pt).getD k 0 = p.sval (p.place k) pt := by
  simp [Prg.sls, List.getD, h]
theorem sval_hi {j : Nat} : p.sval (p.R + 2 * j) pt = p.highs.getD j 0 - pt.getD j 0 := by
  have h1 : ¬ p.R + 2 * j < p.R := by omega
  have h2 : p.R + 2 * j - p.R = 2 * j := by omega
  simp [Prg.sval, Prg.ineq, h1, h2, tsum]
theorem sval_lo {j : Nat} : p.sval (p.R + 2 * j + 1) pt = pt.getD j 0 - p.lows.getD j 0 := by
  have h1 : ¬ p.R + 2 * j + 1 < p.R := by omega
  have h2 : p.R + 2 * j + 1 - p.R = 2 * j + 1 := by omega
  have h3 : (2 * j + 1) % 2 = 1 := by omega
  have h4 : (2 * j + 1) / 2 = j := by omega
  simp [Prg.sval, Prg.ineq, h1, h2, h3, h4, tsum]
  omega
/-- the j-th column's sign -/
def Prg.sgn (p : Prg) (j : Nat) : Int := if p.fh j = true then -1 else 1
theorem base_says {k : Nat} (h : k < p.m) : (p.col k).c + p.sgn k * (p.sls pt).getD k 0 = pt.getD k 0 := by
  rw [sls_get h]
  unfold Prg.place Prg.col Prg.sgn
  cases p.fh k with
  | true => simp only [if_true]; rw [Nat.add_zero, sval_hi]; omega
  | false => simp only [Bool.false_eq_true, if_false]; rw [sval_lo]; omega
theorem col_cs {j : Nat} : (p.col j).cs = (List.replicate p.m 0).set j (p.sgn j) := rfl
theorem col_says {j : Nat} (h : j < p.m) : (p.col j).s * pt.getD j 0 = (p.col j).c + dotTo (p.col j).cs (p.sls pt) p.m := by
  rw [col_cs, dot_set (by simpa using h) getD_zeros, dot_zeros, if_pos h]
  have := base_says (pt := pt) h
  show 1 * _ = _
  omega
theorem cols_get {j : Nat} (h : j < p.m) : p.cols.getD j Eqn.z = p.col j := by simp [Prg.cols, List.getD, h]
theorem tsum_app {ts : Terms} {q : Nat × Int} : tsum (ts ++ [q]) pt = tsum ts pt + q.2 * pt.getD q.1 0 := by simp [tsum, List.foldl_append]
theorem comb_says {rhs : Int} : ∀ (n : Nat) (ts : Terms), ts.length = n → (ts.map (·.1)).Pairwise (· < ·) → (∀ q ∈ ts, q.1 < p.m) →
    (comb p.cols ts rhs).cs.length = p.m ∧ (∀ v, v ∉ ts.map (·.1) → (comb p.cols ts rhs).cs.getD v 0 = 0) ∧ (comb p.cols ts rhs).c + dotTo (comb p.cols ts rhs).cs (p.sls pt) p.m = rhs + tsum ts pt
  | 0, ts, hn, _, _ => by
    have : ts = [] := List.length_eq_zero_iff.mp hn
    subst this
    refine ⟨by simp [comb, Prg.cols_len], fun v _ => ?_, ?_⟩
    · show (List.replicate p.cols.length (0 : Int)).getD v 0 = 0
      exact getD_zeros
    · show rhs + dotTo (List.replicate p.cols.length 0) _ _ = _
      rw [dot_zeros]; simp [tsum]
  | n + 1, ts, hn, hp, hm => by
    obtain ⟨pre, q, rfl⟩ : ∃ pre q, ts = pre ++ [q] := ⟨ts.dropLast, ts.getLast (by intro h; subst h; cases hn), (List.dropLast_concat_getLast _).symm⟩
    rw [List.map_append, List.pairwise_append] at hp
    obtain ⟨i1, i2, i3⟩ := comb_says n pre (by simpa using hn) hp.1 (fun q hq => hm q (by simp [hq]))
    have hq : q.1 < p.m := hm q (by simp)
    have hnot : q.1 ∉ pre.map (·.1) := fun h => by
      have := hp.2.2 _ h q.1 (by simp)
      omega
    have ecs : (comb p.cols (pre ++ [q]) rhs).cs = (comb p.cols pre rhs).cs.set q.1 (q.2 * p.sgn q.1) := by
      have e1 : (comb p.cols (pre ++ [q]) rhs).cs = (comb p.cols pre rhs).cs.set q.1 (q.2 * (p.cols.getD q.1 Eqn.z).cs.getD q.1 0) := by simp [comb, List.foldl_append]
      rw [e1, cols_get hq, col_cs, getD_set (by simpa using hq), if_pos rfl]
    have ec : (comb p.cols (pre ++ [q]) rhs).c = (comb p.cols pre rhs).c + q.2 * (p.col q.1).c := by
      have e1 : (comb p.cols (pre ++ [q]) rhs).c = (comb p.cols pre rhs).c + q.2 * (p.cols.getD q.1 Eqn.z).c := by simp [comb, List.foldl_append]
      rw [e1, cols_get hq]
    refine ⟨by rw [ecs, List.length_set]; exact i1, fun v hv => ?_, ?_⟩
    · simp only [List.map_append, List.mem_append, not_or, List.map_cons, List.map_nil, List.mem_cons, List.not_mem_nil, or_false] at hv
      rw [ecs, getD_set (by rw [i1]; exact hq), if_neg hv.2]
      exact i2 v hv.1
    · rw [ecs, ec, dot_set (by rw [i1]; exact hq) (i2 _ hnot), if_pos hq, tsum_app, ← base_says (pt := pt) hq, Int.mul_add, Int.mul_assoc]
      omega
theorem tsum_neg {ts : Terms} : tsum (ts.map fun q => (q.1, -q.2)) pt = -tsum ts pt := by
  unfold tsum
  suffices h : ∀ a : Int, (ts.map fun q => (q.1, -q.2)).foldl (fun t p => t + p.2 * pt.getD p.1 0) (-a) = -(ts.foldl (fun t p => t + p.2 * pt.getD p.1 0) a) by simpa using h 0
  induction ts with
  | nil => intro a; rfl
  | cons q ts ih =>
    intro a
    simp only [List.map_cons, List.foldl_cons]
    rw [← ih, Int.neg_mul]
    congr 1
    omega
theorem aim_says (P : POk p) : p.tab.aim.s * tsum p.aim pt = p.tab.aim.c + dotTo p.tab.aim.cs (p.sls pt) p.m := by
  have := (comb_says (pt := pt) (rhs := 0) _ p.aim rfl P.aim.1 (fun q hq => (P.aim.2 q hq).1)).2.2
  show 1 * _ = (comb p.cols p.aim 0).c + dotTo (comb p.cols p.aim 0).cs _ _
  omega
theorem rowcomb_says {r : Terms × Int} (h : TOkB p.m 40 r.1) : r.2 - tsum r.1 pt = (comb p.cols (r.1.map fun q => (q.1, -q.2)) r.2).c + dotTo (comb p.cols (r.1.map fun q => (q.1, -q.2)) r.2).cs (p.sls pt) p.m := by
  have h2 : TOkB p.m 40 (r.1.map fun q => (q.1, -q.2)) := h.map (fun c => -c) fun c hc => hc.neg
  have := (comb_says (pt := pt) (rhs := r.2) _ _ rfl h2.1 (fun q hq => (h2.2 q hq).1)).2.2
  rw [this, tsum_neg]
  omega
theorem tab_slack_s (P : POk p) {q : Nat} (hq : q < p.R + 2 * p.m) : (p.tab.slack q).s = 1 ∧ (p.tab.slack q).cs.length = p.m ∧ p.sval q pt = (p.tab.slack q).c + dotTo (p.tab.slack q).cs (p.sls pt) p.m := by
  have hR : p.tab.R = p.R := rfl
  unfold TabS.slack
  rw [hR]
  split
  · rename_i h
    have h' : q < p.rows.length := h
    have e : p.tab.slacks.getD q Eqn.z = comb p.cols ((p.rows.getD q ([], 0)).1.map fun q => (q.1, -q.2)) (p.rows.getD q ([], 0)).2 := by
      show (p.rows.map _).getD q Eqn.z = _
      simp [List.getD, h']
    have hr := P.rows _ (getD_mem (d := ([], 0)) h')
    have ei : p.ineq q = p.rows.getD q ([], 0) := by unfold Prg.ineq; rw [if_pos h]
    rw [e]
    refine ⟨rfl, ?_, ?_⟩
    · have h2 : TOkB p.m 40 ((p.rows.getD q ([], 0)).1.map fun q => (q.1, -q.2)) := hr.1.map (fun c => -c) fun c hc => hc.neg
      exact (comb_says (pt := []) _ _ rfl h2.1 (fun q hq => (h2.2 q hq).1)).1
    · unfold Prg.sval
      rw [ei]
      exact rowcomb_says hr.1
  · rename_i h
    have hj : (q - p.R) / 2 < p.m := by omega
    have ec : p.tab.cols.getD ((q - p.R) / 2) Eqn.z = p.col ((q - p.R) / 2) := cols_get hj
    rw [ec]
    have cs := col_says (pt := pt) hj
    have hs : (p.col ((q - p.R) / 2)).s = 1 := rfl
    rw [hs] at cs ⊢
    have hl : (p.col ((q - p.R) / 2)).cs.length = p.m := by simp [Prg.col]
    split
    · rename_i h2
      have eq : q = p.R + 2 * ((q - p.R) / 2) + 1 := by omega
      refine ⟨rfl, hl, ?_⟩
      have := sval_lo (p := p) (pt := pt) (j := (q - p.R) / 2)
      rw [← eq] at this
      rw [this]
      show _ = (p.col ((q - p.R) / 2)).c - 1 * p.lows.getD ((q - p.R) / 2) 0 + dotTo (p.col ((q - p.R) / 2)).cs _ _
      omega
    · rename_i h2
      have eq : q = p.R + 2 * ((q - p.R) / 2) := by omega
      refine ⟨rfl, by simpa using hl, ?_⟩
      have := sval_hi (p := p) (pt := pt) (j := (q - p.R) / 2)
      rw [← eq] at this
      rw [this]
      show _ = 1 * p.highs.getD ((q - p.R) / 2) 0 - (p.col ((q - p.R) / 2)).c + dotTo ((p.col ((q - p.R) / 2)).cs.map fun z => -z) _ _
      rw [dot_neg]
      omega
theorem low_one {e : Eqn} (h : e.s = 1) : e.low = true := by
  unfold Eqn.low gcdAll
  rw [h]
  have : ∀ l : List Int, l.foldl (fun g n => Nat.gcd g n.natAbs) 1 = 1 := by
    intro l
    induction l with
    | nil => rfl
    | cons a l ih => simpa using ih
  simp [this]
/-! sizes -/
theorem fold_sm {α : Type} (f : α → Int) {B : Nat} : ∀ (l : List α) (a : Int), (∀ x ∈ l, (f x).natAbs ≤ B) → (l.foldl (fun t x => t + f x) a).natAbs ≤ a.natAbs + l.length * B
  | [], a, _ => by simp
  | x :: l, a, h => by
    have h1 := fold_sm f l (a + f x) fun y hy => h y (by simp [hy])
    have h2 := h x (by simp)
    have h3 := Int.natAbs_add_le a (f x)
    rw [List.foldl_cons, List.length_cons, Nat.add_mul, Nat.one_mul]
    omega
theorem tsum_sm {m : Nat} {ts : Terms} (h : TOkB m 40 ts) (hm : m ≤ 60) (hp : ∀ z ∈ pt, Sm 60 z) : Sm 110 (tsum ts pt) := by
  have h1 := fold_sm (fun q : Nat × Int => q.2 * pt.getD q.1 0) (B := 2 ^ 100) ts 0 fun q hq => sm_prod (h.2 q hq).2 (sm_getD hp (by decide))
  have h2 := h.len
  have h3 : ts.length * 2 ^ 100 ≤ 60 * 2 ^ 100 := Nat.mul_le_mul_right _ (by omega)
  show (tsum ts pt).natAbs < 2 ^ 110
  unfold tsum
  simp only [Int.natAbs_zero] at h1
  omega
theorem sval_sm (P : POk p) (hp : ∀ z ∈ pt, Sm 60 z) {q : Nat} (hq : q < p.R + 2 * p.m) : Sm 120 (p.sval q pt) := by
  have h1 := P.ineq hq
  have h2 := tsum_sm h1.1 P.m2 hp
  have h3 := h1.2
  unfold Sm at *
  unfold Prg.sval
  omega
theorem comb_sm (P : POk p) {ts : Terms} {rhs : Int} (h : TOkB p.m 40 ts) (hr : Sm 60 rhs) : (comb p.cols ts rhs).Sm 110 := by
  refine ⟨show (1 : Int).natAbs < 2 ^ 110 by decide, ?_, ?_⟩
  · have h1 := fold_sm (fun q : Nat × Int => q.2 * (p.cols.getD q.1 Eqn.z).c) (B := 2 ^ 80) ts rhs fun q hq => by
      refine sm_prod (c := 40) (h.2 q hq).2 ?_
      exact (Prg.col_ok P _ (getD_mem (by rw [Prg.cols_len]; exact (h.2 q hq).1))).1.c
    have h2 := h.len
    have hm := P.m2
    have h3 : ts.length * 2 ^ 80 ≤ 60 * 2 ^ 80 := Nat.mul_le_mul_right _ (by omega)
    show (ts.foldl (fun t q => t + q.2 * (p.cols.getD q.1 Eqn.z).c) rhs).natAbs < 2 ^ 110
    unfold Sm at hr
    omega
  · have key : ∀ (ts : Terms) (l : List Int), TOkB p.m 40 ts ∨ (∀ q ∈ ts, q.1 < p.m ∧ Sm 40 q.2) → (∀ z ∈ l, Sm 110 z) → ∀ z ∈ ts.foldl (fun l q => l.set q.1 (q.2 * (p.cols.getD q.1 Eqn.z).cs.getD q.1 0)) l, Sm 110 z := by
      intro ts
      induction ts with
      | nil => intro l _ h; exact h
      | cons q ts ih =>
        intro l ht hl
        have hq : ∀ x ∈ q :: ts, x.1 < p.m ∧ Sm 40 x.2 := ht.elim (fun h => h.2) id
        refine ih _ (.inr fun x hx => hq x (by simp [hx])) fun z hz => ?_
        rcases List.mem_or_eq_of_mem_set hz with h | rfl
        · exact hl z h
        · have h0 := hq q (by simp)
          have h1 := sm_prod h0.2 (sm_getD (j := q.1) (Prg.col_ok P _ (getD_mem (d := Eqn.z) (by rw [Prg.cols_len]; exact h0.1))).1.cs (by decide))
          show Int.natAbs _ < 2 ^ 110
          have : (2 : Nat) ^ (40 + 40) < 2 ^ 110 := by decide
          omega
    exact key ts _ (.inl h) fun z hz => by rw [List.eq_of_mem_replicate hz]; exact show (0 : Int).natAbs < 2 ^ 110 by decide
theorem col_sm (P : POk p) {j : Nat} (h : j < p.m) : (p.col j).Sm 40 := (Prg.col_ok P _ (List.mem_map.mpr ⟨j, List.mem_range.mpr h, rfl⟩)).1
theorem slack_sm (P : POk p) {q : Nat} (hq : q < p.R + 2 * p.m) : (p.tab.slack q).Sm 120 := by
  have hR : p.tab.R = p.R := rfl
  unfold TabS.slack
  rw [hR]
  split
  · rename_i h
    have h' : q < p.rows.length := h
    have e : p.tab.slacks.getD q Eqn.z = comb p.cols ((p.rows.getD q ([], 0)).1.map fun q => (q.1, -q.2)) (p.rows.getD q ([], 0)).2 := by
      show (p.rows.map _).getD q Eqn.z = _
      simp [List.getD, h']
    have hr := P.rows _ (getD_mem (d := ([], 0)) h')
    rw [e]
    have := comb_sm P (hr.1.map (fun c => -c) fun c hc => hc.neg) hr.2
    exact ⟨this.s.mono (by decide), this.c.mono (by decide), fun z hz => (this.cs z hz).mono (by decide)⟩
  · have hj : (q - p.R) / 2 < p.m := by omega
    have ec : p.tab.cols.getD ((q - p.R) / 2) Eqn.z = p.col ((q - p.R) / 2) := cols_get hj
    rw [ec]
    have c := col_sm P hj
    have hs : (p.col ((q - p.R) / 2)).s = 1 := rfl
    have l1 := sm_getD (j := (q - p.R) / 2) P.lo (by decide)
    have l2 := sm_getD (j := (q - p.R) / 2) P.hi (by decide)
    have c2 := c.c
    split
    · refine ⟨c.s.mono (by decide), ?_, fun z hz => (c.cs z hz).mono (by decide)⟩
      show Int.natAbs _ < 2 ^ 120
      rw [hs]
      show Int.natAbs ((p.col ((q - p.R) / 2)).c - 1 * p.lows.getD ((q - p.R) / 2) 0) < 2 ^ 120
      unfold Sm at l1 c2
      omega
    · refine ⟨c.s.mono (by decide), ?_, fun z hz => ?_⟩
      · show Int.natAbs _ < 2 ^ 120
        rw [hs]
        show Int.natAbs (1 * p.highs.getD ((q - p.R) / 2) 0 - (p.col ((q - p.R) / 2)).c) < 2 ^ 120
        unfold Sm at l2 c2
        omega
      · obtain ⟨y, hy, rfl⟩ := List.mem_map.mp hz
        exact ((c.cs y hy).mono (by decide)).neg
end
end Py

set_option Elab.async false
set_option linter.all false
set_option maxRecDepth 100000
namespace Py
/-! Mo: the promises let a wish be weakened. -/
def MonoSp (f : Sp) : Prop := ∀ ds S (Q Q' : Post) (E E' : Exc → Store → Prop), (∀ d S, Q d S → Q' d S) → (∀ x S, E x S → E' x S) → f ds S Q E → f ds S Q' E'
theorem mo_draw : MonoSp spDraw := fun ds S Q Q' E E' hq he ⟨a, b, c, h1, h2, h3, h4, h5, k⟩ => ⟨a, b, c, h1, h2, h3, h4, h5, fun v S' a b c d => hq _ _ (k v S' a b c d)⟩
theorem mo_tape : MonoSp spTape := fun ds S Q Q' E E' hq he ⟨a, h1, h2, h3, k⟩ => ⟨a, h1, h2, h3, fun v S' a b c => hq _ _ (k v S' a b c)⟩
theorem mo_common : MonoSp spCommon := fun ds S Q Q' E E' hq he ⟨a, b, h1, h2, k⟩ => ⟨a, b, h1, h2, hq _ _ k⟩
theorem mo_whole : MonoSp spWhole := fun ds S Q Q' E E' hq he ⟨a, h1, k⟩ => ⟨a, h1, hq _ _ k⟩
theorem mo_count : MonoSp spCount := fun ds S Q Q' E E' hq he ⟨a, h1, h2, k⟩ => ⟨a, h1, h2, hq _ _ k⟩
theorem mo_ineq : MonoSp spIneq := fun ds S Q Q' E E' hq he ⟨a, b, h1, h2, h3, k⟩ => ⟨a, b, h1, h2, h3, hq _ _ k⟩
theorem mo_sum : MonoSp spSum := fun ds S Q Q' E E' hq he ⟨a, b, c, h1, h2, h3, h4, k⟩ => ⟨a, b, c, h1, h2, h3, h4, hq _ _ k⟩
theorem mo_slack : MonoSp spSlack := fun ds S Q Q' E E' hq he ⟨a, b, c, h1, h2, h3, h4, h5, k⟩ => ⟨a, b, c, h1, h2, h3, h4, h5, hq _ _ k⟩
theorem mo_terms : MonoSp spTerms := fun ds S Q Q' E E' hq he ⟨a, b, c, h1, h2, h3, h4, k⟩ => ⟨a, b, c, h1, h2, h3, h4, fun v S' a b c => hq _ _ (k v S' a b c)⟩
theorem mo_rhs : MonoSp spRhs := fun ds S Q Q' E E' hq he ⟨a, b, c, d, e, f, g, h1, h2, h3, h4, h5, h6, h7, h8, h9, h10, h11, k⟩ => ⟨a, b, c, d, e, f, g, h1, h2, h3, h4, h5, h6, h7, h8, h9, h10, h11, fun v S' a b c => hq _ _ (k v S' a b c)⟩
theorem mo_program : MonoSp spProgram := fun ds S Q Q' E E' hq he ⟨a, b, c, d, h1, h2, h3, h4, h5, h6, k⟩ => ⟨a, b, c, d, h1, h2, h3, h4, h5, h6, fun v S' a b c d e => hq _ _ (k v S' a b c d e)⟩
theorem mo_equation : MonoSp spEquation := fun ds S Q Q' E E' hq he ⟨a, h1, h2, h3, k⟩ => ⟨a, h1, h2, h3, hq _ _ k⟩
theorem mo_says : MonoSp spSays := fun ds S Q Q' E E' hq he ⟨a, b, c, h1, h2, h3, h4, h5, h6, k⟩ => ⟨a, b, c, h1, h2, h3, h4, h5, h6, hq _ _ k⟩
theorem mo_combined : MonoSp spCombined := fun ds S Q Q' E E' hq he ⟨a, b, c, d, e, h1, h2, h3, h4, h5, h6, h7, h8, k⟩ => ⟨a, b, c, d, e, h1, h2, h3, h4, h5, h6, h7, h8, fun S' a => hq _ _ (k S' a)⟩
theorem mo_free : MonoSp spFree := fun ds S Q Q' E E' hq he ⟨a, b, h1, h2, k⟩ => ⟨a, b, h1, h2, hq _ _ k⟩
theorem mo_aimeq : MonoSp spAimEq := fun ds S Q Q' E E' hq he ⟨a, b, h1, h2, k⟩ => ⟨a, b, h1, h2, hq _ _ k⟩
theorem mo_coleq : MonoSp spColEq := fun ds S Q Q' E E' hq he ⟨a, b, c, h1, h2, h3, k⟩ => ⟨a, b, c, h1, h2, h3, hq _ _ k⟩
theorem mo_slackeq : MonoSp spSlackEq := fun ds S Q Q' E E' hq he ⟨a, b, c, h1, h2, h3, k⟩ => ⟨a, b, c, h1, h2, h3, hq _ _ k⟩
theorem mo_ratio : MonoSp spRatio := fun ds S Q Q' E E' hq he ⟨a, b, h1, h2, h3, k⟩ => ⟨a, b, h1, h2, h3, hq _ _ k⟩
theorem mo_corner : MonoSp spCorner := fun ds S Q Q' E E' hq he ⟨a, b, h1, h2, h3, k⟩ => ⟨a, b, h1, h2, h3, hq _ _ k⟩
theorem mo_init {F : String → String → Bool} : MonoSp (spInit F) := fun ds S Q Q' E E' hq he ⟨a, b, h1, h2, h3, h4, k⟩ => ⟨a, b, h1, h2, h3, h4, fun S' a b => hq _ _ (k S' a b)⟩
theorem mo_bot : MonoSp fun _ _ _ _ => False := fun ds S Q Q' E E' hq he h => h
end Py

set_option Elab.async false
set_option maxRecDepth 100000
namespace k41
open Py
/-! numbers of the defs: 0 combined, 1 Tableau.__init__, 2 ratio, 3 Tableau.corner, 4 Tableau.free, 5 Tableau.aim_equation, 6 Tableau.column_equation, 7 Tableau.slack_equation, 8 _law_count, 9 _law_common, 10 _law_whole, 11 _law_equation, 12 _law_says, 13 _law_inequality, 14 _law_sum, 15 _law_slack, 16 _law_agrees, 17 _law_draw, 18 _law_any_point, 19 _law_rhs, 20 _law_terms, 21 _law_program, 22 _law_tape, 23 law -/
def levs : List Nat := [1, 2, 1, 2, 1, 1, 1, 1, 1, 1, 1, 2, 1, 1, 1, 2, 3, 1, 2, 2, 2, 3, 1, 4]
def N_combined : List String := ["terms", "start", "rhs", "constant", "coefs", "v", "c", "_"]
def B_combined : Sts := (.cons (.asg 3 (.var 2))
  (.cons (.asg 4 (.comp true (.cst (.int 0)) (.nm 7) (.of (.var 1)) .no))
  (.cons (.for (.tp [5, 6]) (.of (.var 0)) (.cons (.asg 3 (.bin .add (.var 3) (.bin .mul (.var 6) (.idx (.idx (.var 1) (.var 5)) (.cst (.int 1))))))
  (.cons (.iset (.var 4) (.var 5) (.bin .mul (.var 6) (.idx (.idx (.idx (.var 1) (.var 5)) (.cst (.int 2))) (.var 5))))
  .nil)))
  (.cons (.ret (.tup (.cons (.cst (.int 1)) (.cons (.var 3) (.cons (.blt .tuple false (.cons (.var 4) .nil)) .nil)))))
  .nil))))
def N_Tableau___init__ : List String := ["self", "lows", "highs", "rows", "aim", "many", "aim_coefs", "j", "v", "c", "from_high", "unit", "terms", "rhs", "opposite", "_"]
def B_Tableau___init__ : Sts := (.cons (.asg 5 (.blt .len false (.cons (.var 1) .nil)))
  (.cons (.asg 6 (.comp true (.cst (.int 0)) (.nm 15) (.of (.var 1)) .no))
  (.cons (.for (.tp [8, 9]) (.of (.var 4)) (.cons (.iset (.var 6) (.var 8) (.var 9))
  .nil))
  (.cons (.fset (.var 0) "lows" (.blt .tuple false (.cons (.var 1) .nil)))
  (.cons (.fset (.var 0) "highs" (.blt .tuple false (.cons (.var 2) .nil)))
  (.cons (.fset (.var 0) "row_many" (.blt .len false (.cons (.var 3) .nil)))
  (.cons (.fset (.var 0) "places" (.lst true .nil))
  (.cons (.fset (.var 0) "column_rows" (.lst true .nil))
  (.cons (.for (.nm 7) (.rng1 (.var 5)) (.cons (.asg 10 (.cmp .ge (.idx (.var 6) (.var 7)) (.cst (.int 0))))
  (.cons (.asg 11 (.comp true (.cst (.int 0)) (.nm 15) (.of (.var 1)) .no))
  (.cons (.iset (.var 11) (.var 7) (.ite (.var 10) (.neg (.cst (.int 1))) (.cst (.int 1))))
  (.cons (.exp (.bme (.fld (.var 0) "places") .append (.cons (.bin .add (.bin .add (.fld (.var 0) "row_many") (.bin .mul (.cst (.int 2)) (.var 7))) (.ite (.var 10) (.cst (.int 0)) (.cst (.int 1)))) .nil)))
  (.cons (.exp (.bme (.fld (.var 0) "column_rows") .append (.cons (.tup (.cons (.cst (.int 1)) (.cons (.ite (.var 10) (.idx (.var 2) (.var 7)) (.idx (.var 1) (.var 7))) (.cons (.blt .tuple false (.cons (.var 11) .nil)) .nil)))) .nil)))
  .nil))))))
  (.cons (.fset (.var 0) "aim_row" (.call 0 (.cons (.var 4) (.cons (.fld (.var 0) "column_rows") (.cons (.cst (.int 0)) .nil)))))
  (.cons (.fset (.var 0) "slack_rows" (.lst true .nil))
  (.cons (.for (.tp [12, 13]) (.of (.var 3)) (.cons (.asg 14 (.comp false (.tup (.cons (.var 8) (.cons (.neg (.var 9)) .nil))) (.tp [8, 9]) (.of (.var 12)) .no))
  (.cons (.exp (.bme (.fld (.var 0) "slack_rows") .append (.cons (.call 0 (.cons (.var 14) (.cons (.fld (.var 0) "column_rows") (.cons (.var 13) .nil)))) .nil)))
  .nil)))
  .nil))))))))))))
def N_ratio : List String := ["top", "bottom", "common"]
def B_ratio : Sts := (.cons (.asg 2 (.blt .gcd false (.cons (.var 0) (.cons (.var 1) .nil))))
  (.cons (.ifs (.cmp .lt (.var 1) (.cst (.int 0))) (.cons (.asg 2 (.neg (.var 2)))
  .nil) .nil)
  (.cons (.ret (.tup (.cons (.bin .fdiv (.var 0) (.var 2)) (.cons (.bin .fdiv (.var 1) (.var 2)) .nil))))
  .nil)))
def N_Tableau_corner : List String := ["self", "scale", "constant", "_"]
def B_Tableau_corner : Sts := (.cons (.ret (.blt .tuple false (.cons (.comp false (.call 2 (.cons (.var 2) (.cons (.var 1) .nil))) (.tp [1, 2, 3]) (.of (.fld (.var 0) "column_rows")) .no) .nil)))
  .nil)
def N_Tableau_free : List String := ["self"]
def B_Tableau_free : Sts := (.cons (.ret (.blt .tuple false (.cons (.fld (.var 0) "places") .nil)))
  .nil)
def N_Tableau_aim_equation : List String := ["self"]
def B_Tableau_aim_equation : Sts := (.cons (.ret (.fld (.var 0) "aim_row"))
  .nil)
def N_Tableau_column_equation : List String := ["self", "j"]
def B_Tableau_column_equation : Sts := (.cons (.ret (.idx (.fld (.var 0) "column_rows") (.var 1)))
  .nil)
def N_Tableau_slack_equation : List String := ["self", "q", "j", "scale", "constant", "coefs", "coef"]
def B_Tableau_slack_equation : Sts := (.cons (.ifs (.cmp .lt (.var 1) (.fld (.var 0) "row_many")) (.cons (.ret (.idx (.fld (.var 0) "slack_rows") (.var 1)))
  .nil) .nil)
  (.cons (.asg 2 (.bin .fdiv (.bin .sub (.var 1) (.fld (.var 0) "row_many")) (.cst (.int 2))))
  (.cons (.unp [3, 4, 5] (.idx (.fld (.var 0) "column_rows") (.var 2)))
  (.cons (.ifs (.cmp .eq (.bin .mod (.bin .sub (.var 1) (.fld (.var 0) "row_many")) (.cst (.int 2))) (.cst (.int 1))) (.cons (.ret (.tup (.cons (.var 3) (.cons (.bin .sub (.var 4) (.bin .mul (.var 3) (.idx (.fld (.var 0) "lows") (.var 2)))) (.cons (.var 5) .nil)))))
  .nil) .nil)
  (.cons (.ret (.tup (.cons (.var 3) (.cons (.bin .sub (.bin .mul (.var 3) (.idx (.fld (.var 0) "highs") (.var 2))) (.var 4)) (.cons (.blt .tuple false (.cons (.comp false (.neg (.var 6)) (.nm 6) (.of (.var 5)) .no) .nil)) .nil)))))
  .nil)))))
def N__law_count : List String := ["_law_program_here"]
def B__law_count : Sts := (.cons (.ret (.bin .add (.blt .len false (.cons (.idx (.var 0) (.cst (.int 2))) .nil)) (.bin .mul (.cst (.int 2)) (.blt .len false (.cons (.idx (.var 0) (.cst (.int 0))) .nil)))))
  .nil)
def N__law_common : List String := ["_law_a", "_law_b", "_law_k", "_law_rest"]
def B__law_common : Sts := (.cons (.asg 0 (.blt .abs false (.cons (.var 0) .nil)))
  (.cons (.asg 1 (.blt .abs false (.cons (.var 1) .nil)))
  (.cons (.for (.nm 2) (.rng1 (.cst (.int 4000))) (.cons (.ifs (.cmp .eq (.var 1) (.cst (.int 0))) (.cons (.ret (.var 0))
  .nil) .nil)
  (.cons (.asg 3 (.bin .mod (.blt .int false (.cons (.var 0) .nil)) (.var 1)))
  (.cons (.asg 0 (.var 1))
  (.cons (.asg 1 (.var 3))
  .nil)))))
  (.cons (.ret (.var 0))
  .nil))))
def N__law_whole : List String := ["_law_x"]
def B__law_whole : Sts := (.cons (.ret (.and (.cons (.blt .isinst false (.cons (.var 0) (.cons (.cls "int") .nil))) (.cons (.not (.blt .isinst false (.cons (.var 0) (.cons (.cls "bool") .nil)))) .nil))))
  .nil)
def N__law_equation : List String := ["_law_told", "_law_many", "_law_numbers", "_law_common_here", "_law_n"]
def B__law_equation : Sts := (.cons (.ifs (.or (.cons (.not (.blt .isinst false (.cons (.var 0) (.cons (.cls "tuple") .nil)))) (.cons (.cmp .ne (.blt .len false (.cons (.var 0) .nil)) (.cst (.int 3))) (.cons (.not (.blt .isinst false (.cons (.idx (.var 0) (.cst (.int 2))) (.cons (.cls "tuple") .nil)))) (.cons (.cmp .ne (.blt .len false (.cons (.idx (.var 0) (.cst (.int 2))) .nil)) (.var 1)) .nil))))) (.cons (.ret (.cst (.bl false)))
  .nil) .nil)
  (.cons (.asg 2 (.bin .add (.lst false (.cons (.idx (.var 0) (.cst (.int 0))) (.cons (.idx (.var 0) (.cst (.int 1))) .nil))) (.blt .list false (.cons (.idx (.var 0) (.cst (.int 2))) .nil))))
  (.cons (.asg 3 (.cst (.int 0)))
  (.cons (.for (.nm 4) (.of (.var 2)) (.cons (.ifs (.not (.call 10 (.cons (.var 4) .nil))) (.cons (.ret (.cst (.bl false)))
  .nil) .nil)
  (.cons (.asg 3 (.call 9 (.cons (.var 3) (.cons (.var 4) .nil))))
  .nil)))
  (.cons (.ret (.and (.cons (.cmp .ge (.idx (.var 0) (.cst (.int 0))) (.cst (.int 1))) (.cons (.cmp .eq (.var 3) (.cst (.int 1))) .nil))))
  .nil)))))
def N__law_says : List String := ["_law_told", "_law_worth", "_law_slacks", "_law_total", "_law_k"]
def B__law_says : Sts := (.cons (.asg 3 (.idx (.var 0) (.cst (.int 1))))
  (.cons (.for (.nm 4) (.rng1 (.blt .len false (.cons (.var 2) .nil))) (.cons (.asg 3 (.bin .add (.var 3) (.bin .mul (.idx (.idx (.var 0) (.cst (.int 2))) (.var 4)) (.idx (.var 2) (.var 4)))))
  .nil))
  (.cons (.ret (.cmp .eq (.bin .mul (.idx (.var 0) (.cst (.int 0))) (.var 1)) (.var 3)))
  .nil)))
def N__law_inequality : List String := ["_law_program_here", "_law_q", "_law_rows", "_law_j"]
def B__law_inequality : Sts := (.cons (.asg 2 (.idx (.var 0) (.cst (.int 2))))
  (.cons (.ifs (.cmp .lt (.var 1) (.blt .len false (.cons (.var 2) .nil))) (.cons (.ret (.idx (.var 2) (.var 1)))
  .nil) .nil)
  (.cons (.asg 3 (.bin .fdiv (.bin .sub (.var 1) (.blt .len false (.cons (.var 2) .nil))) (.cst (.int 2))))
  (.cons (.ifs (.cmp .eq (.bin .mod (.blt .int false (.cons (.bin .sub (.var 1) (.blt .len false (.cons (.var 2) .nil))) .nil)) (.cst (.int 2))) (.cst (.int 0))) (.cons (.ret (.tup (.cons (.tup (.cons (.tup (.cons (.var 3) (.cons (.cst (.int 1)) .nil))) .nil)) (.cons (.idx (.idx (.var 0) (.cst (.int 1))) (.var 3)) .nil))))
  .nil) .nil)
  (.cons (.ret (.tup (.cons (.tup (.cons (.tup (.cons (.var 3) (.cons (.neg (.cst (.int 1))) .nil))) .nil)) (.cons (.neg (.idx (.idx (.var 0) (.cst (.int 0))) (.var 3))) .nil))))
  .nil)))))
def N__law_sum : List String := ["_law_terms_here", "_law_point", "_law_total", "_law_v", "_law_c"]
def B__law_sum : Sts := (.cons (.asg 2 (.cst (.int 0)))
  (.cons (.for (.tp [3, 4]) (.of (.var 0)) (.cons (.asg 2 (.bin .add (.var 2) (.bin .mul (.var 4) (.idx (.var 1) (.var 3)))))
  .nil))
  (.cons (.ret (.var 2))
  .nil)))
def N__law_slack : List String := ["_law_program_here", "_law_q", "_law_point", "_law_terms_here", "_law_rhs_here"]
def B__law_slack : Sts := (.cons (.unp [3, 4] (.call 13 (.cons (.var 0) (.cons (.var 1) .nil))))
  (.cons (.ret (.bin .sub (.var 4) (.call 14 (.cons (.var 3) (.cons (.var 2) .nil)))))
  .nil))
def N__law_agrees : List String := ["_law_tableau", "_law_program_here", "_law_places", "_law_point", "_law_many", "_law_slacks", "_law_told", "_law_j", "_law_q"]
def B__law_agrees : Sts := (.cons (.asg 4 (.blt .len false (.cons (.idx (.var 1) (.cst (.int 0))) .nil)))
  (.cons (.ifs (.cmp .ne (.meth (.var 0) "free" [("Tableau", 4)] .nil) (.blt .tuple false (.cons (.var 2) .nil))) (.cons (.ret (.cst (.bl false)))
  .nil) .nil)
  (.cons (.asg 5 (.comp false (.call 15 (.cons (.var 1) (.cons (.var 8) (.cons (.var 3) .nil)))) (.nm 8) (.of (.var 2)) .no))
  (.cons (.asg 6 (.meth (.var 0) "aim_equation" [("Tableau", 5)] .nil))
  (.cons (.ifs (.or (.cons (.not (.call 11 (.cons (.var 6) (.cons (.var 4) .nil)))) (.cons (.not (.call 12 (.cons (.var 6) (.cons (.call 14 (.cons (.idx (.var 1) (.cst (.int 3))) (.cons (.var 3) .nil))) (.cons (.var 5) .nil))))) .nil))) (.cons (.ret (.cst (.bl false)))
  .nil) .nil)
  (.cons (.for (.nm 7) (.rng1 (.var 4)) (.cons (.asg 6 (.meth (.var 0) "column_equation" [("Tableau", 6)] (.cons (.var 7) .nil)))
  (.cons (.ifs (.or (.cons (.not (.call 11 (.cons (.var 6) (.cons (.var 4) .nil)))) (.cons (.not (.call 12 (.cons (.var 6) (.cons (.idx (.var 3) (.var 7)) (.cons (.var 5) .nil))))) .nil))) (.cons (.ret (.cst (.bl false)))
  .nil) .nil)
  .nil)))
  (.cons (.for (.nm 8) (.rng1 (.call 8 (.cons (.var 1) .nil))) (.cons (.asg 6 (.meth (.var 0) "slack_equation" [("Tableau", 7)] (.cons (.var 8) .nil)))
  (.cons (.ifs (.or (.cons (.not (.call 11 (.cons (.var 6) (.cons (.var 4) .nil)))) (.cons (.not (.call 12 (.cons (.var 6) (.cons (.call 15 (.cons (.var 1) (.cons (.var 8) (.cons (.var 3) .nil)))) (.cons (.var 5) .nil))))) .nil))) (.cons (.ret (.cst (.bl false)))
  .nil) .nil)
  .nil)))
  (.cons (.ret (.cst (.bl true)))
  .nil))))))))
def N__law_draw : List String := ["_law_tape_here", "_law_many", "_law_digit", "_law_cells", "_law_k", "_law_cell"]
def B__law_draw : Sts := (.cons (.ifs (.cmp .lt (.idx (.var 0) (.cst (.int 2))) (.var 1)) (.cons (.asg 3 (.idx (.var 0) (.cst (.int 0))))
  (.cons (.asg 4 (.idx (.var 0) (.cst (.int 1))))
  (.cons (.asg 5 (.cst (.int 0)))
  (.cons (.ifs (.cmp .lt (.var 4) (.blt .len false (.cons (.var 3) .nil))) (.cons (.asg 5 (.idx (.var 3) (.var 4)))
  .nil) .nil)
  (.cons (.ifs (.cmp .lt (.var 5) (.cst (.int 0))) (.cons (.asg 5 (.bin .sub (.bin .mul (.neg (.cst (.int 2))) (.var 5)) (.cst (.int 1))))
  .nil) .nil)
  (.cons (.ifs (.cmp .lt (.var 5) (.bin .pow (.cst (.int 10)) (.cst (.int 9)))) (.cons (.asg 5 (.bin .mod (.blt .int false (.cons (.bin .add (.bin .add (.bin .mul (.var 5) (.cst (.int 48271))) (.bin .mul (.var 4) (.cst (.int 69621)))) (.cst (.int 12345))) .nil)) (.cst (.int 2147483647))))
  (.cons (.asg 5 (.bin .mod (.blt .int false (.cons (.bin .add (.bin .add (.bin .mul (.var 5) (.cst (.int 16807))) (.bin .mul (.var 4) (.cst (.int 39373)))) (.cst (.int 6789))) .nil)) (.cst (.int 2147483629))))
  .nil)) .nil)
  (.cons (.iset (.var 0) (.cst (.int 1)) (.bin .add (.var 4) (.cst (.int 1))))
  (.cons (.iset (.var 0) (.cst (.int 2)) (.var 5))
  .nil)))))))) .nil)
  (.cons (.asg 2 (.bin .mod (.blt .int false (.cons (.idx (.var 0) (.cst (.int 2))) .nil)) (.var 1)))
  (.cons (.iset (.var 0) (.cst (.int 2)) (.bin .fdiv (.idx (.var 0) (.cst (.int 2))) (.var 1)))
  (.cons (.ret (.var 2))
  .nil))))
def N__law_any_point : List String := ["_law_tape_here", "_law_program_here", "_law_point", "_law_j"]
def B__law_any_point : Sts := (.cons (.asg 2 (.lst true .nil))
  (.cons (.for (.nm 3) (.rng1 (.blt .len false (.cons (.idx (.var 1) (.cst (.int 0))) .nil))) (.cons (.ifs (.cmp .eq (.call 17 (.cons (.var 0) (.cons (.cst (.int 3)) .nil))) (.cst (.int 0))) (.cons (.exp (.bme (.var 2) .append (.cons (.bin .sub (.call 17 (.cons (.var 0) (.cons (.cst (.int 2000001)) .nil))) (.cst (.int 1000000))) .nil)))
  .nil) (.cons (.exp (.bme (.var 2) .append (.cons (.bin .add (.idx (.idx (.var 1) (.cst (.int 0))) (.var 3)) (.call 17 (.cons (.var 0) (.cons (.bin .add (.bin .sub (.idx (.idx (.var 1) (.cst (.int 1))) (.var 3)) (.idx (.idx (.var 1) (.cst (.int 0))) (.var 3))) (.cst (.int 1))) .nil)))) .nil)))
  .nil))
  .nil))
  (.cons (.ret (.blt .tuple false (.cons (.var 2) .nil)))
  .nil)))
def N__law_rhs : List String := ["_law_tape_here", "_law_terms_here", "_law_base", "_law_large", "_law_total", "_law_v", "_law_c"]
def B__law_rhs : Sts := (.cons (.ifs (.cmp .eq (.call 17 (.cons (.var 0) (.cons (.cst (.int 5)) .nil))) (.cst (.int 0))) (.cons (.ret (.bin .sub (.bin .add (.bin .mul (.bin .sub (.call 17 (.cons (.var 0) (.cons (.cst (.int 16)) .nil))) (.cst (.int 6))) (.var 3)) (.call 17 (.cons (.var 0) (.cons (.cst (.int 3)) .nil)))) (.cst (.int 1))))
  .nil) .nil)
  (.cons (.asg 4 (.call 17 (.cons (.var 0) (.cons (.cst (.int 4)) .nil))))
  (.cons (.for (.tp [5, 6]) (.of (.var 1)) (.cons (.asg 4 (.bin .add (.var 4) (.bin .mul (.var 6) (.idx (.var 2) (.var 5)))))
  .nil))
  (.cons (.ret (.var 4))
  .nil))))
def N__law_terms : List String := ["_law_tape_here", "_law_many", "_law_terms_here", "_law_v", "_law_c"]
def B__law_terms : Sts := (.cons (.asg 2 (.lst true .nil))
  (.cons (.for (.nm 3) (.rng1 (.var 1)) (.cons (.asg 4 (.bin .sub (.call 17 (.cons (.var 0) (.cons (.cst (.int 7)) .nil))) (.cst (.int 3))))
  (.cons (.ifs (.cmp .ne (.var 4) (.cst (.int 0))) (.cons (.exp (.bme (.var 2) .append (.cons (.tup (.cons (.var 3) (.cons (.var 4) .nil))) .nil)))
  .nil) .nil)
  .nil)))
  (.cons (.ret (.blt .tuple false (.cons (.var 2) .nil)))
  .nil)))
def N__law_program : List String := ["_law_tape_here", "_law_most", "_law_rows", "_law_many", "_law_large", "_law_lows", "_law_highs", "_law_base", "_law_j", "_law_found", "_law_i", "_law_low", "_law_terms_here", "_law_v", "_law_c"]
def B__law_program : Sts := (.cons (.asg 3 (.bin .add (.cst (.int 1)) (.call 17 (.cons (.var 0) (.cons (.var 1) .nil)))))
  (.cons (.asg 4 (.cst (.int 1)))
  (.cons (.ifs (.cmp .eq (.call 17 (.cons (.var 0) (.cons (.cst (.int 6)) .nil))) (.cst (.int 0))) (.cons (.asg 4 (.bin .add (.cst (.int 1)) (.call 17 (.cons (.var 0) (.cons (.cst (.int 1000000)) .nil)))))
  .nil) .nil)
  (.cons (.asg 5 (.lst true .nil))
  (.cons (.asg 6 (.lst true .nil))
  (.cons (.asg 7 (.lst true .nil))
  (.cons (.for (.nm 8) (.rng1 (.var 3)) (.cons (.asg 11 (.bin .sub (.bin .mul (.bin .sub (.call 17 (.cons (.var 0) (.cons (.cst (.int 7)) .nil))) (.cst (.int 3))) (.var 4)) (.call 17 (.cons (.var 0) (.cons (.cst (.int 2)) .nil)))))
  (.cons (.exp (.bme (.var 5) .append (.cons (.var 11) .nil)))
  (.cons (.exp (.bme (.var 6) .append (.cons (.bin .add (.var 11) (.bin .mul (.call 17 (.cons (.var 0) (.cons (.cst (.int 5)) .nil))) (.var 4))) .nil)))
  (.cons (.exp (.bme (.var 7) .append (.cons (.bin .add (.var 11) (.call 17 (.cons (.var 0) (.cons (.bin .add (.bin .sub (.idx (.var 6) (.var 8)) (.var 11)) (.cst (.int 1))) .nil)))) .nil)))
  .nil)))))
  (.cons (.asg 9 (.lst true .nil))
  (.cons (.for (.nm 10) (.rng1 (.call 17 (.cons (.var 0) (.cons (.bin .add (.var 2) (.cst (.int 1))) .nil)))) (.cons (.asg 12 (.call 20 (.cons (.var 0) (.cons (.var 3) .nil))))
  (.cons (.ifs (.cmp .eq (.call 17 (.cons (.var 0) (.cons (.cst (.int 5)) .nil))) (.cst (.int 0))) (.cons (.asg 12 (.blt .tuple false (.cons (.comp false (.tup (.cons (.var 13) (.cons (.bin .mul (.var 14) (.var 4)) .nil))) (.tp [13, 14]) (.of (.var 12)) .no) .nil)))
  .nil) .nil)
  (.cons (.exp (.bme (.var 9) .append (.cons (.tup (.cons (.var 12) (.cons (.call 19 (.cons (.var 0) (.cons (.var 12) (.cons (.var 7) (.cons (.var 4) .nil))))) .nil))) .nil)))
  (.cons (.ifs (.cmp .eq (.call 17 (.cons (.var 0) (.cons (.cst (.int 6)) .nil))) (.cst (.int 0))) (.cons (.asg 12 (.blt .tuple false (.cons (.comp false (.tup (.cons (.var 13) (.cons (.neg (.var 14)) .nil))) (.tp [13, 14]) (.of (.var 12)) .no) .nil)))
  (.cons (.exp (.bme (.var 9) .append (.cons (.tup (.cons (.var 12) (.cons (.call 19 (.cons (.var 0) (.cons (.var 12) (.cons (.var 7) (.cons (.var 4) .nil))))) .nil))) .nil)))
  .nil)) .nil)
  .nil)))))
  (.cons (.ret (.lst false (.cons (.blt .tuple false (.cons (.var 5) .nil)) (.cons (.blt .tuple false (.cons (.var 6) .nil)) (.cons (.blt .tuple false (.cons (.var 9) .nil)) (.cons (.call 20 (.cons (.var 0) (.cons (.var 3) .nil))) .nil))))))
  .nil))))))))))
def N__law_tape : List String := ["_law_script"]
def B__law_tape : Sts := (.cons (.ret (.lst true (.cons (.blt .list false (.cons (.var 0) .nil)) (.cons (.cst (.int 0)) (.cons (.cst (.int 0)) .nil)))))
  .nil)
def N_law : List String := ["_law_script", "_law_tape_here", "_law_program_here", "_law_many", "_law_rows", "_law_coefs", "_law_places", "_law_corner", "_law_j", "_law_tableau", "_law_other", "_law_part", "_law_k", "_law_v", "_law_c", "_law_x"]
def B_law : Sts := (.cons (.asg 1 (.call 22 (.cons (.var 0) .nil)))
  (.cons (.asg 2 (.call 21 (.cons (.var 1) (.cons (.cst (.int 4)) (.cons (.cst (.int 5)) .nil)))))
  (.cons (.asg 3 (.blt .len false (.cons (.idx (.var 2) (.cst (.int 0))) .nil)))
  (.cons (.asg 4 (.blt .len false (.cons (.idx (.var 2) (.cst (.int 2))) .nil)))
  (.cons (.asg 5 (.comp true (.cst (.int 0)) (.nm 15) (.of (.idx (.var 2) (.cst (.int 0)))) .no))
  (.cons (.for (.tp [13, 14]) (.of (.idx (.var 2) (.cst (.int 3)))) (.cons (.iset (.var 5) (.var 13) (.var 14))
  .nil))
  (.cons (.asg 6 (.lst true .nil))
  (.cons (.asg 7 (.lst true .nil))
  (.cons (.for (.nm 8) (.rng1 (.var 3)) (.cons (.ifs (.cmp .lt (.idx (.var 5) (.var 8)) (.cst (.int 0))) (.cons (.exp (.bme (.var 6) .append (.cons (.bin .add (.bin .add (.var 4) (.bin .mul (.cst (.int 2)) (.var 8))) (.cst (.int 1))) .nil)))
  (.cons (.exp (.bme (.var 7) .append (.cons (.tup (.cons (.idx (.idx (.var 2) (.cst (.int 0))) (.var 8)) (.cons (.cst (.int 1)) .nil))) .nil)))
  .nil)) (.cons (.exp (.bme (.var 6) .append (.cons (.bin .add (.var 4) (.bin .mul (.cst (.int 2)) (.var 8))) .nil)))
  (.cons (.exp (.bme (.var 7) .append (.cons (.tup (.cons (.idx (.idx (.var 2) (.cst (.int 1))) (.var 8)) (.cons (.cst (.int 1)) .nil))) .nil)))
  .nil)))
  .nil))
  (.cons (.asg 9 (.new "Tableau" 1 (.cons (.idx (.var 2) (.cst (.int 0))) (.cons (.idx (.var 2) (.cst (.int 1))) (.cons (.idx (.var 2) (.cst (.int 2))) (.cons (.idx (.var 2) (.cst (.int 3))) .nil))))))
  (.cons (.asg 10 (.new "Tableau" 1 (.cons (.idx (.var 2) (.cst (.int 1))) (.cons (.idx (.var 2) (.cst (.int 1))) (.cons (.tup .nil) (.cons (.tup (.cons (.tup (.cons (.cst (.int 0)) (.cons (.cst (.int 5)) .nil))) .nil)) .nil))))))
  (.cons (.ifs (.or (.cons (.cmp .ne (.meth (.var 9) "free" [("Tableau", 4)] .nil) (.blt .tuple false (.cons (.var 6) .nil))) (.cons (.cmp .ne (.meth (.var 9) "corner" [("Tableau", 3)] .nil) (.blt .tuple false (.cons (.var 7) .nil))) .nil))) (.cons (.ret (.cst (.bl false)))
  .nil) .nil)
  (.cons (.for (.nm 11) (.of (.meth (.var 9) "corner" [("Tableau", 3)] .nil)) (.cons (.ifs (.or (.cons (.not (.call 10 (.cons (.idx (.var 11) (.cst (.int 0))) .nil))) (.cons (.not (.call 10 (.cons (.idx (.var 11) (.cst (.int 1))) .nil))) .nil))) (.cons (.ret (.cst (.bl false)))
  .nil) .nil)
  .nil))
  (.cons (.for (.nm 12) (.rng1 (.cst (.int 3))) (.cons (.ifs (.not (.call 16 (.cons (.var 9) (.cons (.var 2) (.cons (.var 6) (.cons (.call 18 (.cons (.var 1) (.cons (.var 2) .nil))) .nil)))))) (.cons (.ret (.cst (.bl false)))
  .nil) .nil)
  .nil))
  (.cons (.ret (.cmp .eq (.blt .len false (.cons (.meth (.var 10) "free" [("Tableau", 4)] .nil) .nil)) (.var 3)))
  .nil)))))))))))))))
end k41

set_option Elab.async false
set_option linter.all false
set_option maxRecDepth 100000
namespace k41
open Py
local macro_rules | `(tactic| walk_at "w") => `(tactic| (repeat (first
  | with_reducible refine ss_cons ?_ | with_reducible refine ss_nil ?_ | with_reducible refine s_asg ?_ | with_reducible refine s_iset ?_ | with_reducible refine s_ret ?_ | with_reducible refine s_exp ?_ | with_reducible refine s_unp ?_ | with_reducible refine s_fset ?_
  | with_reducible refine e_var rfl ?_ | with_reducible refine e_int ?_ | with_reducible refine e_bl ?_ | with_reducible refine e_non ?_ | with_reducible refine e_str ?_ | with_reducible refine e_bin ?_ | with_reducible refine e_cmp ?_ | with_reducible refine e_idx ?_ | with_reducible refine e_neg ?_ | with_reducible refine e_blt ?_ | with_reducible refine e_and ?_ | with_reducible refine e_or ?_ | with_reducible refine e_not ?_
  | with_reducible refine e_tup ?_ | with_reducible refine e_lst ?_ | with_reducible refine e_call ?_ | with_reducible refine e_fld ?_ | with_reducible refine e_bme ?_ | with_reducible refine e_ite ?_ | with_reducible refine e_cls ?_ | with_reducible refine e_slc ?_ | with_reducible refine o_no ?_ | with_reducible refine o_yes ?_ | with_reducible refine e_comp ?_ | with_reducible refine w_of ?_ | with_reducible refine w_rng1 ?_ | with_reducible refine v_tup ?_ | with_reducible refine v_lst ?_
  | with_reducible refine es_nil ?_ | with_reducible refine es_cons ?_ | with_reducible refine and1 ?_ | with_reducible refine or1 ?_ | with_reducible refine and2 ?_ | with_reducible refine or2 ?_ | with_reducible refine e_meth ?_ | with_reducible refine e_new ?_
  | with_reducible refine k_neg ?_ | with_reducible refine b_add ?_ | with_reducible refine b_sub ?_ | with_reducible refine c_lt ?_ | with_reducible refine c_le ?_ | with_reducible refine c_gt ?_ | with_reducible refine c_ge ?_ | with_reducible refine c_eqI ?_ | with_reducible refine c_neI ?_
  | with_reducible refine i_ref (by assumption) rfl ?_ | with_reducible refine i_tup rfl ?_ | with_reducible refine i_lst rfl ?_ | with_reducible refine t_lenT ?_ | with_reducible refine t_lenL ?_ | with_reducible refine t_lenR (by assumption) ?_ | with_reducible refine t_int ?_ | with_reducible refine t_abs ?_ | with_reducible refine t_gcd ?_ | with_reducible refine t_tupT ?_ | with_reducible refine t_tupL ?_ | with_reducible refine t_tupR (by assumption) ?_ | with_reducible refine t_lstT ?_ | with_reducible refine t_lstL ?_ | with_reducible refine t_lstR (by assumption) ?_ | with_reducible refine t_lstS ?_
  | with_reducible refine t_isiT ?_ | with_reducible refine t_isiI ?_ | with_reducible refine t_isiB ?_ | with_reducible refine t_isiS ?_
  | with_reducible refine k_int ?_ | with_reducible refine k_len (Nat.le_of_ble_eq_true rfl) ?_ | with_reducible refine l_fz (Nat.le_of_ble_eq_true rfl) ?_ | with_reducible refine k_ift ?_ | with_reducible refine k_iff ?_ | with_reducible refine k_ifNT ?_ | with_reducible refine k_ifNF ?_ | with_reducible refine k_boolT ?_ | with_reducible refine k_boolF ?_)))
/-! W41: the defs of k41. -/
def TbF (S : Store) (t : Nat) (T : TabS) : Prop := T.Ok ∧ ∃ fs P Cc Ss, TabAt S t T fs (.lst P) (.lst Cc) (.lst Ss)
theorem TbF.tb {S : Store} {t : Nat} {T : TabS} (h : TbF S t T) : Tb S t T := let ⟨a, fs, P, Cc, Ss, b⟩ := h; ⟨a, fs, _, _, _, b⟩
theorem TbF.keep {S S' : Store} {M : List Nat} {t : Nat} {T : TabS} (h : TbF S t T) (k : Kp M S S') (n : t ∉ M) : TbF S' t T := by
  obtain ⟨a, fs, P, Cc, Ss, b⟩ := h
  exact ⟨a, fs, P, Cc, Ss, ⟨k _ _ b.ob n, b.lo, b.hi, b.R, b.p, b.pi, b.ps, b.c, b.ci, b.cq, b.a, b.s, b.si, b.sq, b.no⟩⟩
def spPoint : Sp := fun ds S Q _ => ∃ (a k : Nat) (p : Prg), ds = [.ref a, p.d] ∧ POk p ∧ tapeOk S a k ∧ k ≤ 10 ^ 28 ∧ ∀ pt S', pt.length = p.m → (∀ z ∈ pt, Sm 60 z) → tapeOk S' a (k + 200) → Kp [a] S S' → Q (intsD pt) S'
def spAgrees : Sp := fun ds S Q _ => ∃ (t pr : Nat) (p : Prg) (pt : List Int), ds = [.ref t, p.d, .ref pr, intsD pt] ∧ POk p ∧ TbF S t p.tab ∧ S pr = some (.lst (natsD p.tab.places)) ∧ pt.length = p.m ∧ (∀ z ∈ pt, Sm 60 z) ∧ Q (.bl true) S
def spLaw : Sp := fun ds S Q _ => ∃ ns : List Int, ds = [.scr ns] ∧ ns.length ≤ 63 ∧ (∀ z ∈ ns, z.natAbs.log2 ≤ 2000000) ∧ S = (fun _ => none) ∧ ∀ S', Q (.bl true) S'
def fldF : String → String → Bool := fun c f => c == "Tableau" && tabNames.contains f
def fnF : Nat → Sp
  | 0 => spCombined | 1 => spInit fldF | 2 => spRatio | 3 => spCorner | 4 => spFree | 5 => spAimEq | 6 => spColEq | 7 => spSlackEq | 8 => spCount | 9 => spCommon | 10 => spWhole | 11 => spEquation | 12 => spSays | 13 => spIneq | 14 => spSum | 15 => spSlack
  | 16 => spAgrees | 17 => spDraw | 18 => spPoint | 19 => spRhs | 20 => spTerms | 21 => spProgram | 22 => spTape | 23 => spLaw | _ => fun _ _ _ _ => False
def C : Cfg := ⟨fnF, fun _ => .non, fun _ _ => false, fldF⟩
theorem mo_point : MonoSp spPoint := fun ds S Q Q' E E' hq he ⟨a, b, c, h1, h2, h3, h4, k⟩ => ⟨a, b, c, h1, h2, h3, h4, fun v S' a b c d => hq _ _ (k v S' a b c d)⟩
theorem mo_agrees : MonoSp spAgrees := fun ds S Q Q' E E' hq he ⟨a, b, c, d, h1, h2, h3, h4, h5, h6, k⟩ => ⟨a, b, c, d, h1, h2, h3, h4, h5, h6, hq _ _ k⟩
theorem mo_law : MonoSp spLaw := fun ds S Q Q' E E' hq he ⟨a, h1, h2, h3, h4, k⟩ => ⟨a, h1, h2, h3, h4, fun S' => hq _ _ (k S')⟩
theorem mono : Mono C := by
  intro f
  match f with
  | 0 => exact mo_combined
  | 1 => exact mo_init
  | 2 => exact mo_ratio
  | 3 => exact mo_corner
  | 4 => exact mo_free
  | 5 => exact mo_aimeq
  | 6 => exact mo_coleq
  | 7 => exact mo_slackeq
  | 8 => exact mo_count
  | 9 => exact mo_common
  | 10 => exact mo_whole
  | 11 => exact mo_equation
  | 12 => exact mo_says
  | 13 => exact mo_ineq
  | 14 => exact mo_sum
  | 15 => exact mo_slack
  | 16 => exact mo_agrees
  | 17 => exact mo_draw
  | 18 => exact mo_point
  | 19 => exact mo_rhs
  | 20 => exact mo_terms
  | 21 => exact mo_program
  | 22 => exact mo_tape
  | 23 => exact mo_law
  | n + 24 => exact mo_bot
theorem W_combined : DefOk C (C.fn 0) 3 8 B_combined := combined_ok mono
theorem W_Tableau___init__ : DefOk C (C.fn 1) 5 16 B_Tableau___init__ := init_ok (nc := 0) mono rfl
theorem W_ratio : DefOk C (C.fn 2) 2 3 B_ratio := ratio_ok
theorem W_Tableau_corner : DefOk C (C.fn 3) 1 4 B_Tableau_corner := corner_ok (nr := 2) rfl
theorem W_Tableau_free : DefOk C (C.fn 4) 1 1 B_Tableau_free := free_ok
theorem W_Tableau_aim_equation : DefOk C (C.fn 5) 1 1 B_Tableau_aim_equation := aimeq_ok
theorem W_Tableau_column_equation : DefOk C (C.fn 6) 2 2 B_Tableau_column_equation := coleq_ok
theorem W_Tableau_slack_equation : DefOk C (C.fn 7) 2 7 B_Tableau_slack_equation := slackeq_ok
theorem W__law_count : DefOk C (C.fn 8) 1 1 B__law_count := count_ok
theorem W__law_common : DefOk C (C.fn 9) 2 4 B__law_common := common_ok
theorem W__law_whole : DefOk C (C.fn 10) 1 1 B__law_whole := whole_ok
theorem W__law_equation : DefOk C (C.fn 11) 2 5 B__law_equation := equation_ok (nc := 9) (nw := 10) rfl rfl
theorem W__law_says : DefOk C (C.fn 12) 3 5 B__law_says := says_ok
theorem W__law_inequality : DefOk C (C.fn 13) 2 4 B__law_inequality := ineq_ok
theorem W__law_sum : DefOk C (C.fn 14) 2 5 B__law_sum := sum_ok
theorem W__law_slack : DefOk C (C.fn 15) 3 5 B__law_slack := slack_ok (ni := 13) (ns := 14) rfl rfl
theorem W__law_draw : DefOk C (C.fn 17) 2 6 B__law_draw := draw_ok mono
theorem W__law_rhs : DefOk C (C.fn 19) 4 7 B__law_rhs := rhs_ok (nd := 17) mono rfl
theorem W__law_terms : DefOk C (C.fn 20) 2 5 B__law_terms := terms_ok (nd := 17) mono rfl
theorem W__law_program : DefOk C (C.fn 21) 3 15 B__law_program := program_ok (nd := 17) (nr := 19) (nt := 20) mono rfl rfl rfl
theorem W__law_tape : DefOk C (C.fn 22) 1 1 B__law_tape := tape_ok
theorem W__law_any_point : DefOk C (C.fn 18) 2 4 B__law_any_point := by
  rintro ds S Q X ⟨a, k, p, rfl, P, tp, hk, kq⟩
  refine ⟨rfl, ?_⟩
  have hm2 := P.m2
  unfold B__law_any_point
  walk_at "w"
  refine l_mt (Nat.le_of_ble_eq_true rfl) fun l hl => ?_
  have nl : a ≠ l := fun z => tp.there (z ▸ hl)
  walk_at "w"
  refine s_mid mono (fun ρ' S' => ∃ (pt : List Int) (x3 : Option D), ρ' = [some (.ref a), some p.d, some (.ref l), x3] ∧ pt.length = p.m ∧ (∀ z ∈ pt, Sm 60 z) ∧ S' l = some (.lst (pt.map .int)) ∧ tapeOk S' a (k + 200) ∧ Kp [a] S S') ?_ ?_
  · refine s_for ?_
    walk_at "w"
    rw [show ((p.lows.map D.int).length : Int) = (p.m : Nat) by simp [Prg.m]]
    refine ⟨by omega, by omega, ?_⟩
    refine loop_rng (fun i ρ' S' => ∃ (pt : List Int) (x3 : Option D), ρ' = [some (.ref a), some p.d, some (.ref l), x3] ∧ pt.length = i ∧ (∀ z ∈ pt, Sm 60 z) ∧ S' l = some (.lst (pt.map .int)) ∧ tapeOk S' a (k + 2 * i) ∧ Kp [a] S S')
      ⟨[], none, rfl, rfl, by simp, put_same, tp.put nl, Kp.refl.nw hl⟩ ?_ ?_
    · rintro i ρ' S1 hi ⟨pt, x3, rfl, hpl, hp, hS, tp1, kp1⟩
      have hi' : i < p.m := by omega
      have hil : i < p.lows.length := hi'
      have hih : i < p.highs.length := by rw [P.h]; exact hi'
      show wpSs _ _ _ [_, _, _, some (.int (i : Int))] _
      refine ss_cons (s_ifs ?_)
      walk_at "w"
      refine k_draw (nd := 17) rfl tp1 (by omega) (by decide) (by decide) fun v S2 h0 h1 tp2 kp2 => ?_
      walk_at "w"
      have hS2 : S2 l = some (.lst (pt.map .int)) := kp2 _ _ hS (by simpa using nl.symm)
      have app : ∀ {l : List Int} {w : Int}, (∀ z ∈ l, Sm 60 z) → Sm 60 w → ∀ z ∈ l ++ [w], Sm 60 z := fun h1 h2 z hz => by
        rcases List.mem_append.mp hz with hz | hz
        · exact h1 z hz
        · simp only [List.mem_cons, List.not_mem_nil, or_false] at hz
          subst hz
          exact h2
      refine k_if (fun h => ?_) (fun h => ?_)
      · walk_at "w"
        refine k_recv hS2 ?_
        walk_at "w"
        refine k_draw (nd := 17) rfl tp2 (by omega) (by decide) (by decide) fun u S3 u0 u1 tp3 kp3 => ?_
        walk_at "w"
        have hS3 := kp3 _ _ hS2 (by simpa using nl.symm)
        refine m_app hS3 (by simp [lim]; omega) ?_
        exact ⟨pt ++ [u - 1000000], _, rfl, by simp [hpl], app hp (show (u - 1000000).natAbs < 2 ^ 60 by omega), by rw [put_same, List.map_append]; rfl, (tp3.put nl).mono (by omega), ((kp1.trans kp2).trans kp3).upN hl⟩
      · walk_at "w"
        refine k_recv hS2 ?_
        walk_at "w"
        refine i_tup (atI_int hil) ?_
        walk_at "w"
        refine i_tup (atI_int hih) ?_
        walk_at "w"
        refine i_tup (atI_int hil) ?_
        walk_at "w"
        have b1 := sm_getD (j := i) P.lo (by decide)
        have b2 := sm_getD (j := i) P.hi (by decide)
        have b3 := P.lh i hi'
        unfold Sm at b1 b2
        refine k_draw (nd := 17) rfl tp2 (by omega) (by omega) (by omega) fun u S3 u0 u1 tp3 kp3 => ?_
        walk_at "w"
        have hS3 := kp3 _ _ hS2 (by simpa using nl.symm)
        refine m_app hS3 (by simp [lim]; omega) ?_
        exact ⟨pt ++ [p.lows.getD i 0 + u], _, rfl, by simp [hpl], app hp (show (p.lows.getD i 0 + u).natAbs < 2 ^ 60 by omega), by rw [put_same, List.map_append]; rfl, (tp3.put nl).mono (by omega), ((kp1.trans kp2).trans kp3).upN hl⟩
    · rintro ρ' S1 ⟨pt, x3, rfl, hpl, hp, hS, tp1, kp1⟩
      have em : ((p.m : Nat) : Int).toNat = p.m := by omega
      rw [em] at hpl tp1
      exact ⟨pt, x3, rfl, hpl, hp, hS, tp1.mono (by omega), kp1⟩
  rintro ρ' S' ⟨pt, x3, rfl, hpl, hp, hS, tp1, kp1⟩
  walk_at "w"
  exact .of (kq pt S' hpl hp tp1 kp1)
theorem sls_len {p : Prg} {pt : List Int} : (p.sls pt).length = p.m := by simp [Prg.sls]
theorem sls_sm {p : Prg} {pt : List Int} (P : POk p) (hp : ∀ z ∈ pt, Sm 60 z) : ∀ z ∈ p.sls pt, Sm 1000000 z := by
  intro z hz
  obtain ⟨k, hk, rfl⟩ := List.mem_map.mp hz
  exact (sval_sm P hp (Prg.place_lt (List.mem_range.mp hk))).mono (by decide)
theorem Eqn.Sm.mono {e : Eqn} {a b : Nat} (h : e.Sm a) (k : a ≤ b) : e.Sm b := ⟨h.s.mono k, h.c.mono k, fun z hz => (h.cs z hz).mono k⟩
theorem pl_nats {l : List Nat} : Pl (.tup (natsD l)) := ⟨pureL_all.mpr (by simp [natsD, D.pure]), flatL_all.mpr (by simp [natsD, D.flat])⟩
theorem W__law_agrees : DefOk C (C.fn 16) 4 9 B__law_agrees := by
  rintro ds S Q X ⟨t, pr, p, pt, rfl, P, T, hpr, hpl, hp, kq⟩
  refine ⟨rfl, ?_⟩
  have hm2 := P.m2
  have hr2 := P.r2
  obtain ⟨TO, fs, PD, CD, SD, A⟩ := id T
  have tb := T.tb
  have hp1 : ∀ z ∈ pt, Sm 1000000 z := fun z hz => (hp z hz).mono (by decide)
  have sl1 := sls_len (p := p) (pt := pt)
  have sl2 := sls_sm P hp
  have hcl := p.cols_len
  unfold B__law_agrees
  walk_at "w"
  rw [show ((p.lows.map D.int).length : Int) = (p.m : Nat) by simp [Prg.m]]
  refine s_ifs ?_
  walk_at "w"
  refine ⟨t, "Tableau", fs, 4, rfl, A.ob, A.no _ (by decide), rfl, ?_⟩
  walk_at "w"
  refine ⟨t, p.tab, rfl, tb, ?_⟩
  walk_at "w"
  refine c_neTs pl_nats ?_
  walk_at "w"
  refine v_ref hpr ?_
  refine comp_map' (xs := p.tab.places) (f := fun q => .int (p.sval q pt)) hpr (by show ((List.range p.m).map p.place).length ≤ lim; simp [lim]; omega) (fun q hq => ?_) ?_
  · show wpE _ _ _ _ _ _
    walk_at "w"
    obtain ⟨k, hk, rfl⟩ := List.mem_map.mp hq
    exact ⟨p, p.place k, pt, P, rfl, Prg.place_lt (List.mem_range.mp hk), hpl, hp1, rfl, rfl⟩
  have es : (p.tab.places.map fun q => D.int (p.sval q pt)) = (p.sls pt).map .int := by
    show ((List.range p.m).map p.place).map _ = ((List.range p.m).map _).map _
    rw [List.map_map, List.map_map]; rfl
  rw [es]
  refine l_fz (by simp [sl1, lim]; omega) ?_
  walk_at "w"
  refine ⟨t, "Tableau", fs, 5, rfl, A.ob, A.no _ (by decide), rfl, ?_⟩
  walk_at "w"
  refine ⟨t, p.tab, rfl, tb, ?_⟩
  walk_at "w"
  -- the aim
  have ha := comb_sm P P.aim (show Sm 60 0 by show (0 : Int).natAbs < 2 ^ 60; decide)
  have hal : p.tab.aim.cs.length = p.m := (comb_says (pt := []) (rhs := 0) _ p.aim rfl P.aim.1 (fun q hq => (P.aim.2 q hq).1)).1
  have hsm := tsum_sm P.aim hm2 hp
  refine s_ifs ?_
  walk_at "w"
  refine ⟨p.tab.aim, by rw [hal], by omega, Eqn.Sm.mono ha (by decide), ?_⟩
  rw [low_one rfl]
  walk_at "w"
  refine ⟨p.m, p.aim, pt, rfl, P.aim, hpl, hp1, ?_⟩
  walk_at "w"
  refine ⟨p.tab.aim, _, p.sls pt, rfl, by rw [sl1, hal], by omega, Eqn.Sm.mono ha (by decide), hsm.mono (by decide), sl2, ?_⟩
  rw [sl1, decide_eq_true (aim_says P)]
  walk_at "w"
  -- the columns
  refine s_mid mono (fun ρ' S' => S' = S ∧ ∃ x6 x7, ρ' = [some (.ref t), some p.d, some (.ref pr), some (intsD pt), some (.int (p.m : Nat)), some (.lst ((p.sls pt).map .int)), x6, x7, none]) ?_ ?_
  · refine s_for ?_
    walk_at "w"
    refine ⟨by omega, by omega, ?_⟩
    refine loop_rng (fun i ρ' S' => S' = S ∧ ∃ x6 x7, ρ' = [some (.ref t), some p.d, some (.ref pr), some (intsD pt), some (.int (p.m : Nat)), some (.lst ((p.sls pt).map .int)), x6, x7, none]) ⟨rfl, _, _, rfl⟩ ?_ (fun _ _ h => h)
    rintro j ρ' S' hj ⟨rfl, x6, x7, rfl⟩
    have hj' : j < p.m := by omega
    show wpSs _ _ _ [_, _, _, _, _, _, _, some (.int (j : Int)), _] _
    walk_at "w"
    refine ⟨t, "Tableau", fs, 6, rfl, A.ob, A.no _ (by decide), rfl, ?_⟩
    walk_at "w"
    refine ⟨t, p.tab, j, rfl, tb, by show j < p.cols.length; omega, ?_⟩
    have ec : p.tab.cols.getD j Eqn.z = p.col j := cols_get hj'
    rw [ec]
    have hc := col_sm P hj'
    have hcl : (p.col j).cs.length = p.m := by simp [Prg.col]
    walk_at "w"
    refine s_ifs ?_
    walk_at "w"
    refine ⟨p.col j, by rw [hcl], by omega, Eqn.Sm.mono hc (by decide), ?_⟩
    rw [low_one rfl]
    walk_at "w"
    refine i_tup (atI_int (by omega)) ?_
    walk_at "w"
    refine ⟨p.col j, _, p.sls pt, rfl, by rw [sl1, hcl], by omega, Eqn.Sm.mono hc (by decide), (sm_getD hp (by decide)).mono (by decide), sl2, ?_⟩
    rw [sl1, decide_eq_true (col_says hj')]
    walk_at "w"
    exact ⟨rfl, _, _, rfl⟩
  rintro ρ' S' ⟨rfl, x6, x7, rfl⟩
  walk_at "w"
  refine s_mid mono (fun ρ' S2 => S2 = S' ∧ ∃ x6 x8, ρ' = [some (.ref t), some p.d, some (.ref pr), some (intsD pt), some (.int (p.m : Nat)), some (.lst ((p.sls pt).map .int)), x6, x7, x8]) ?_ ?_
  · refine s_for ?_
    walk_at "w"
    refine ⟨p, P, rfl, ?_⟩
    refine ⟨_, rfl, by omega, by omega, ?_⟩
    refine loop_rng (fun i ρ' S2 => S2 = S' ∧ ∃ x6 x8, ρ' = [some (.ref t), some p.d, some (.ref pr), some (intsD pt), some (.int (p.m : Nat)), some (.lst ((p.sls pt).map .int)), x6, x7, x8]) ⟨rfl, _, _, rfl⟩ ?_ (fun _ _ h => h)
    rintro q ρ' S2 hq ⟨rfl, x6, x8, rfl⟩
    have hq' : q < p.R + 2 * p.m := by omega
    show wpSs _ _ _ [_, _, _, _, _, _, _, _, some (.int (q : Int))] _
    walk_at "w"
    refine ⟨t, "Tableau", fs, 7, rfl, A.ob, A.no _ (by decide), rfl, ?_⟩
    walk_at "w"
    refine ⟨t, p.tab, q, rfl, tb, by show q < p.R + 2 * p.cols.length; omega, ?_⟩
    obtain ⟨e1, e2, e3⟩ := tab_slack_s (pt := pt) P hq'
    have hc := slack_sm P hq'
    walk_at "w"
    refine s_ifs ?_
    walk_at "w"
    refine ⟨p.tab.slack q, by rw [e2], by omega, Eqn.Sm.mono hc (by decide), ?_⟩
    rw [low_one e1]
    walk_at "w"
    refine ⟨p, q, pt, P, rfl, hq', hpl, hp1, ?_⟩
    walk_at "w"
    refine ⟨p.tab.slack q, _, p.sls pt, rfl, by rw [sl1, e2], by omega, Eqn.Sm.mono hc (by decide), (sval_sm P hp hq').mono (by decide), sl2, ?_⟩
    have e4 : (p.tab.slack q).s * ((p.ineq q).2 - tsum (p.ineq q).1 pt) = (p.tab.slack q).c + dotTo (p.tab.slack q).cs (p.sls pt) p.m := by
      rw [e1, Int.one_mul]; exact e3
    rw [sl1, decide_eq_true e4]
    walk_at "w"
    exact ⟨rfl, _, _, rfl⟩
  rintro ρ' S2 ⟨rfl, x6, x8, rfl⟩
  walk_at "w"
  exact .of kq
/-! ### law -/
theorem ratio_one {c : Int} : ratioOf c 1 = (c, 1) := by
  unfold ratioOf
  simp
theorem corner_eq {p : Prg} : p.tab.corner.map ratD = (List.range p.m).map fun j => ratD ((p.col j).c, 1) := by
  show ((((List.range p.m).map p.col).map fun e => ratioOf e.c e.s)).map ratD = _
  rw [List.map_map, List.map_map]
  refine List.map_congr_left fun j _ => ?_
  show ratD (ratioOf (p.col j).c 1) = _
  rw [ratio_one]
theorem pl_rats {l : List (Int × Int)} : Pl (.tup (l.map ratD)) := ⟨pureL_all.mpr (fun d hd => by obtain ⟨x, _, rfl⟩ := List.mem_map.mp hd; rfl), flatL_all.mpr (fun d hd => by obtain ⟨x, _, rfl⟩ := List.mem_map.mp hd; rfl)⟩
theorem W_law : DefOk C (C.fn 23) 1 16 B_law := by
  rintro ds S Q X ⟨ns, rfl, h1, h2, rfl, kq⟩
  refine ⟨rfl, ?_⟩
  unfold B_law
  walk_at "w"
  refine ⟨ns, rfl, h1, h2, fun a S1 tp1 _ _ => ?_⟩
  walk_at "w"
  refine ⟨a, 0, 4, 5, rfl, tp1, by decide, by decide, by decide, by decide, fun p S2 P hm4 hr10 tp2 _ => ?_⟩
  have hm2 := P.m2
  have hr2 := P.r2
  have hm1 := P.m1
  walk_at "w"
  rw [show ((p.lows.map D.int).length : Int) = (p.m : Nat) by simp [Prg.m], show ((p.rows.map rowD).length : Int) = (p.R : Nat) by simp [Prg.R]]
  refine comp_map' (f := fun _ => .int 0) trivial (show p.m ≤ lim by simp only [lim]; omega) (fun e he => ?_) ?_
  · show wpE _ _ _ _ _ _
    walk_at "w"
    exact ⟨rfl, rfl⟩
  have e0 : (p.lows.map fun _ => D.int 0) = (List.replicate p.m 0).map .int := by rw [List.map_const', List.map_replicate]; rfl
  rw [e0]
  refine l_mt (by simp [lim]; omega) fun ac hac => ?_
  have nac : a ≠ ac := fun z => tp2.there (z ▸ hac)
  walk_at "w"
  refine s_mid mono (fun ρ' S' => S' ac = some (.lst ((coefsL p.m p.aim).map .int)) ∧ tapeOk S' a 100000 ∧ ∃ x13 x14, ρ' = [some (.scr ns), some (.ref a), some p.d, some (.int (p.m : Nat)), some (.int (p.R : Nat)), some (.ref ac), none, none, none, none, none, none, none, x13, x14, none]) ?_ ?_
  · refine s_for ?_
    walk_at "w"
    refine loop_map (fun pre ρ' S' => S' ac = some (.lst ((coefsL p.m pre).map .int)) ∧ tapeOk S' a 100000 ∧ ∃ x13 x14, ρ' = [some (.scr ns), some (.ref a), some p.d, some (.int (p.m : Nat)), some (.int (p.R : Nat)), some (.ref ac), none, none, none, none, none, none, none, x13, x14, none])
      ⟨put_same, (tp2.put nac).mono (by omega), none, none, rfl⟩ ?_ (fun _ _ h => h)
    rintro pre ⟨v, c⟩ suf ρ' S' e ⟨hS, tp, x8, x9, rfl⟩
    have hv := P.aim.2 (v, c) (by rw [e]; simp)
    refine ⟨_, rfl, rfl, ?_⟩
    show wpSs _ _ _ [_, _, _, _, _, _, _, _, _, _, _, _, _, some (.int (v : Int)), some (.int c), _] _
    walk_at "w"
    refine k_iset hS (ixN_nat (by rw [List.length_map, coefsL_len]; exact hv.1)) ?_
    refine ⟨?_, tp.put nac, _, _, rfl⟩
    rw [put_same, set_int]
    simp [coefsL, List.foldl_append]
  rintro ρ' S3 ⟨hac3, tp3, x13, x14, rfl⟩
  walk_at "w"
  refine l_mt (Nat.le_of_ble_eq_true rfl) fun pl hpl => ?_
  walk_at "w"
  have nap : a ≠ pl := fun z => tp3.there (z ▸ hpl)
  have ncp : ac ≠ pl := fun z => by subst z; rw [hac3] at hpl; cases hpl
  refine l_mt (Nat.le_of_ble_eq_true rfl) fun co hco => ?_
  walk_at "w"
  have npc : pl ≠ co := fun z => by subst z; rw [put_same] at hco; cases hco
  have hco' : S3 co = none := by rw [put_ne npc.symm] at hco; exact hco
  have nao : a ≠ co := fun z => tp3.there (z ▸ hco')
  have nco : ac ≠ co := fun z => by subst z; rw [hac3] at hco'; cases hco'
  refine s_mid mono (fun ρ' S' => S' pl = some (.lst (natsD p.tab.places)) ∧ S' co = some (.lst ((List.range p.m).map fun j => ratD ((p.col j).c, 1))) ∧ tapeOk S' a 100000 ∧ ∃ x8, ρ' = [some (.scr ns), some (.ref a), some p.d, some (.int (p.m : Nat)), some (.int (p.R : Nat)), some (.ref ac), some (.ref pl), some (.ref co), x8, none, none, none, none, x13, x14, none]) ?_ ?_
  · refine s_for ?_
    walk_at "w"
    refine ⟨by omega, by omega, ?_⟩
    refine loop_rng (fun i ρ' S' => S' pl = some (.lst (natsD ((List.range i).map p.place))) ∧ S' co = some (.lst ((List.range i).map fun j => ratD ((p.col j).c, 1))) ∧ S' ac = some (.lst ((coefsL p.m p.aim).map .int)) ∧ tapeOk S' a 100000 ∧ ∃ x8, ρ' = [some (.scr ns), some (.ref a), some p.d, some (.int (p.m : Nat)), some (.int (p.R : Nat)), some (.ref ac), some (.ref pl), some (.ref co), x8, none, none, none, none, x13, x14, none])
      ⟨(put_ne npc).trans put_same, put_same, by rw [put_ne nco, put_ne ncp]; exact hac3, (tp3.put nap).put nao, none, rfl⟩ ?_ ?_
    · rintro i ρ' S4 hi ⟨q1, q2, q3, tp4, x8, rfl⟩
      have hi' : i < p.m := by omega
      have hil : i < p.lows.length := hi'
      have hih : i < p.highs.length := by rw [P.h]; exact hi'
      show wpSs _ _ _ [_, _, _, _, _, _, _, _, some (.int (i : Int)), _, _, _, _, _, _, _] _
      refine ss_cons (s_ifs ?_)
      walk_at "w"
      refine i_ref q3 (atI_int (by rw [coefsL_len]; exact hi')) ?_
      walk_at "w"
      refine k_if (fun h => ?_) (fun h => ?_)
      · have hf : p.fh i = false := by unfold Prg.fh; exact decide_eq_false (by omega)
        walk_at "w"
        refine k_recv q1 ?_
        walk_at "w"
        refine b_mul (small_mul (by omega) (by omega) (by omega) (by omega)) ?_
        walk_at "w"
        refine m_app q1 (by simp [natsD, lim]; omega) ?_
        walk_at "w"
        refine k_recv ((put_ne npc.symm).trans q2) ?_
        walk_at "w"
        refine i_tup (atI_int hil) ?_
        walk_at "w"
        refine m_app ((put_ne npc.symm).trans q2) (by simp [lim]; omega) ?_
        refine ⟨?_, ?_, by rw [put_ne nco, put_ne ncp]; exact q3, (tp4.put nap).put nao, _, rfl⟩
        · rw [put_ne npc, put_same, List.range_succ, List.map_append]; simp [natsD, Prg.place, hf]
        · rw [put_same, List.range_succ, List.map_append]; simp [Prg.col, hf, ratD]
      · have hf : p.fh i = true := by unfold Prg.fh; exact decide_eq_true (by omega)
        walk_at "w"
        refine k_recv q1 ?_
        walk_at "w"
        refine b_mul (small_mul (by omega) (by omega) (by omega) (by omega)) ?_
        walk_at "w"
        refine m_app q1 (by simp [natsD, lim]; omega) ?_
        walk_at "w"
        refine k_recv ((put_ne npc.symm).trans q2) ?_
        walk_at "w"
        refine i_tup (atI_int hih) ?_
        walk_at "w"
        refine m_app ((put_ne npc.symm).trans q2) (by simp [lim]; omega) ?_
        refine ⟨?_, ?_, by rw [put_ne nco, put_ne ncp]; exact q3, (tp4.put nap).put nao, _, rfl⟩
        · rw [put_ne npc, put_same, List.range_succ, List.map_append]; simp [natsD, Prg.place, hf]
        · rw [put_same, List.range_succ, List.map_append]; simp [Prg.col, hf, ratD]
    · rintro ρ' S4 ⟨q1, q2, q3, tp4, x8, rfl⟩
      have em : ((p.m : Nat) : Int).toNat = p.m := by omega
      rw [em] at q1 q2
      exact ⟨q1, q2, tp4, x8, rfl⟩
  rintro ρ' S4 ⟨q1, q2, tp4, x8, rfl⟩
  clear hpl hco hco' hac3 tp3 tp2 tp1 hac
  walk_at "w"
  intro tb htb
  have nat : a ≠ tb := fun z => tp4.there (z ▸ htb)
  have npt : pl ≠ tb := fun z => by subst z; rw [q1] at htb; cases htb
  have nct : co ≠ tb := fun z => by subst z; rw [q2] at htb; cases htb
  have hfl : ∀ f ∈ tabNames, fldF "Tableau" f = true := fun f hf => by simpa [fldF] using hf
  refine ⟨tb, p, rfl, P, put_same, hfl, fun S5 kp5 ⟨fs, PD, CD, SD, A⟩ => ⟨rfl, ?_⟩⟩
  have T5 : TbF S5 tb p.tab := ⟨Prg.tab_ok P, fs, PD, CD, SD, A⟩
  have q1' := kp5 _ _ ((put_ne npt).trans q1) (by simpa using npt)
  have q2' := kp5 _ _ ((put_ne nct).trans q2) (by simpa using nct)
  have tp5 := (tp4.put nat).keep (by simpa using nat) kp5
  clear q1 q2 tp4 kp5 htb A
  walk_at "w"
  intro t2 ht2
  have na2 : a ≠ t2 := fun z => tp5.there (z ▸ ht2)
  have np2 : pl ≠ t2 := fun z => by subst z; rw [q1'] at ht2; cases ht2
  have nc2 : co ≠ t2 := fun z => by subst z; rw [q2'] at ht2; cases ht2
  have nt2 : tb ≠ t2 := fun z => by subst z; obtain ⟨_, _, _, _, _, A⟩ := T5; rw [A.ob] at ht2; cases ht2
  have P2 : POk ⟨p.highs, p.highs, [], [(0, 5)]⟩ := by
    have hh := P.h
    refine ⟨by show 1 ≤ p.highs.length; omega, by show p.highs.length ≤ 60; omega, rfl, Nat.zero_le _, P.hi, P.hi, fun j _ => Int.le_refl _, fun r hr => (by cases hr), ⟨by simp, fun q hq => ?_⟩⟩
    simp only [List.mem_cons, List.not_mem_nil, or_false] at hq
    subst hq
    exact ⟨by show 0 < p.highs.length; omega, show (5 : Int).natAbs < 2 ^ 40 by decide⟩
  refine ⟨t2, ⟨p.highs, p.highs, [], [(0, 5)]⟩, rfl, P2, put_same, hfl, fun S6 kp6 ⟨fs2, PD2, CD2, SD2, A2⟩ => ⟨rfl, ?_⟩⟩
  have U6 : TbF S6 t2 (Prg.tab ⟨p.highs, p.highs, [], [(0, 5)]⟩) := ⟨Prg.tab_ok P2, fs2, PD2, CD2, SD2, A2⟩
  have T6 : TbF S6 tb p.tab := (T5.keep (S' := put S5 t2 (.ins "Tableau" [])) (M := []) (Kp.refl.nw ht2) (by simp)).keep kp6 (by simpa using nt2)
  have q1 := kp6 _ _ ((put_ne np2).trans q1') (by simpa using np2)
  have q2 := kp6 _ _ ((put_ne nc2).trans q2') (by simpa using nc2)
  have tp6 := (tp5.put na2).keep (by simpa using na2) kp6
  clear q1' q2' tp5 kp6 ht2 A2 T5
  obtain ⟨TO, gs, GP, GC, GS, A⟩ := id T6
  walk_at "w"
  refine s_ifs ?_
  walk_at "w"
  refine ⟨tb, "Tableau", gs, 4, rfl, A.ob, A.no _ (by decide), rfl, ?_⟩
  walk_at "w"
  refine ⟨tb, p.tab, rfl, T6.tb, ?_⟩
  walk_at "w"
  refine c_neTs pl_nats ?_
  walk_at "w"
  refine ⟨tb, "Tableau", gs, 3, rfl, A.ob, A.no _ (by decide), rfl, ?_⟩
  walk_at "w"
  have hs8 : ∀ e ∈ p.tab.cols, e.s ≠ 0 ∧ Sm 8000 e.s := fun e he => by
    obtain ⟨h1, _, h2⟩ := Prg.col_ok P e he
    exact ⟨by rw [h2]; decide, h1.s.mono (by decide)⟩
  refine ⟨tb, p.tab, rfl, T6.tb, hs8, ?_⟩
  rw [corner_eq]
  walk_at "w"
  refine c_neTs (by rw [← corner_eq]; exact pl_rats) ?_
  walk_at "w"
  refine s_mid mono (fun ρ' S' => S' = S6 ∧ ∃ x11, ρ' = [some (.scr ns), some (.ref a), some p.d, some (.int (p.m : Nat)), some (.int (p.R : Nat)), some (.ref ac), some (.ref pl), some (.ref co), x8, some (.ref tb), some (.ref t2), x11, none, x13, x14, none]) ?_ ?_
  · refine s_for ?_
    walk_at "w"
    refine ⟨tb, "Tableau", gs, 3, rfl, A.ob, A.no _ (by decide), rfl, ?_⟩
    walk_at "w"
    refine ⟨tb, p.tab, rfl, T6.tb, hs8, ?_⟩
    walk_at "w"
    refine loop_map (fun pre ρ' S' => S' = S6 ∧ ∃ x11, ρ' = [some (.scr ns), some (.ref a), some p.d, some (.int (p.m : Nat)), some (.int (p.R : Nat)), some (.ref ac), some (.ref pl), some (.ref co), x8, some (.ref tb), some (.ref t2), x11, none, x13, x14, none]) ⟨rfl, _, rfl⟩ ?_ (fun _ _ h => h)
    rintro pre ⟨u, v⟩ suf ρ' S' e ⟨rfl, x11, rfl⟩
    show wpSs _ _ _ [_, _, _, _, _, _, _, _, _, _, _, some (.tup [.int u, .int v]), _, _, _, _] _
    refine ss_cons (s_ifs ?_)
    walk_at "w"
    refine ⟨u, rfl, ?_⟩
    walk_at "w"
    refine ⟨v, rfl, ?_⟩
    walk_at "w"
    exact ⟨rfl, _, rfl⟩
  rintro ρ' S' ⟨rfl, x11, rfl⟩
  walk_at "w"
  refine s_mid mono (fun ρ' S2 => TbF S2 t2 (Prg.tab ⟨p.highs, p.highs, [], [(0, 5)]⟩) ∧ ∃ x12, ρ' = [some (.scr ns), some (.ref a), some p.d, some (.int (p.m : Nat)), some (.int (p.R : Nat)), some (.ref ac), some (.ref pl), some (.ref co), x8, some (.ref tb), some (.ref t2), x11, x12, x13, x14, none]) ?_ ?_
  · refine s_for ?_
    walk_at "w"
    refine ⟨by decide, by decide, ?_⟩
    refine loop_rng (fun i ρ' S2 => (TbF S2 t2 (Prg.tab ⟨p.highs, p.highs, [], [(0, 5)]⟩) ∧ TbF S2 tb p.tab ∧ S2 pl = some (.lst (natsD p.tab.places)) ∧ tapeOk S2 a (100000 + 200 * i)) ∧ ∃ x12, ρ' = [some (.scr ns), some (.ref a), some p.d, some (.int (p.m : Nat)), some (.int (p.R : Nat)), some (.ref ac), some (.ref pl), some (.ref co), x8, some (.ref tb), some (.ref t2), x11, x12, x13, x14, none])
      ⟨⟨U6, T6, q1, tp6⟩, none, rfl⟩ ?_ (fun _ _ h => ⟨h.1.1, h.2⟩)
    rintro i ρ' S2 hi ⟨⟨U, V, q, tp⟩, x12, rfl⟩
    have hi3 : i < 3 := hi
    show wpSs _ _ _ [_, _, _, _, _, _, _, _, _, _, _, _, some (.int (i : Int)), _, _, _] _
    refine ss_cons (s_ifs ?_)
    walk_at "w"
    refine ⟨a, _, p, rfl, P, tp, by omega, fun pt S7 hpt hsm tp7 kp7 => ?_⟩
    walk_at "w"
    have V7 := V.keep kp7 (by simpa using nat.symm)
    have U7 := U.keep kp7 (by simpa using na2.symm)
    have q7 := kp7 _ _ q (by simpa using nap.symm)
    refine ⟨tb, pl, p, pt, rfl, P, V7, q7, hpt, hsm, ?_⟩
    walk_at "w"
    exact ⟨⟨U7, V7, q7, tp7.mono (by omega)⟩, _, rfl⟩
  rintro ρ' S2 ⟨U, x12, rfl⟩
  obtain ⟨UO, hs, HP, HC, HS, B⟩ := id U
  walk_at "w"
  refine ⟨t2, "Tableau", hs, 4, rfl, B.ob, B.no _ (by decide), rfl, ?_⟩
  walk_at "w"
  refine ⟨t2, _, rfl, U.tb, ?_⟩
  walk_at "w"
  refine .of ?_
  have hh := P.h
  have e : ((natsD (Prg.tab ⟨p.highs, p.highs, [], [(0, 5)]⟩).places).length : Int) = (p.m : Nat) := by
    show ((((List.range p.highs.length).map _).map _).length : Int) = _
    simp [hh]
  rw [decide_eq_true e]
  exact kq S2
theorem law_true : ∀ ns : List Int, ns.length ≤ 63 → (∀ z ∈ ns, z.natAbs.log2 ≤ 2000000) → C.fn 23 [.scr ns] (fun _ => none) (fun d _ => d = .bl true) fun _ _ => False := fun ns h1 h2 => ⟨ns, rfl, h1, h2, rfl, fun _ => rfl⟩
theorem fld_Tableau {f : String} (h : C.fld "Tableau" f = true) : f ∈ ["lows", "highs", "row_many", "places", "column_rows", "aim_row", "slack_rows"] := by
  have h' : fldF "Tableau" f = true := h
  simpa [fldF, tabNames] using h'
end k41

set_option Elab.async false
set_option linter.all false
set_option maxRecDepth 100000
namespace k41
open Py
theorem law_true2 : ∀ ns : List Int, ns.length ≤ 63 → (∀ z ∈ ns, PySem.Builtin.Int.intBits z ≤ 1048576) → C.fn 23 [.scr ns] (fun _ => none) (fun d _ => d = .bl true) fun _ _ => False :=
  fun ns h1 h2 => law_true ns h1 fun z hz => by
    have h := h2 z hz
    unfold PySem.Builtin.Int.intBits at h
    by_cases h0 : z = 0
    · subst h0; decide
    · rw [if_neg (by simpa using h0)] at h; omega
end k41
namespace k41
open PySem PySem.Spec PyProof.Rows L2 Py
def top (i : Nat) : Stmt := PySem.Challenge.pw_commonground_k41_new_tableau.main.body.getD i (.Pass ⟨0, 0, 0, 0⟩)
abbrev st_combined : Stmt := top 5
def row_combined : DRow := ⟨st_combined, "combined", "combined", ["terms", "start", "rhs", "constant", "coefs", "v", "c", "_"], ["terms", "start", "rhs"], B_combined⟩
abbrev st_Tableau___init__ : Stmt := inClass (top 6) 0
def row_Tableau___init__ : DRow := ⟨st_Tableau___init__, "__init__", "Tableau.__init__", ["self", "lows", "highs", "rows", "aim", "many", "aim_coefs", "j", "v", "c", "from_high", "unit", "terms", "rhs", "opposite", "_"], ["self", "lows", "highs", "rows", "aim"], B_Tableau___init__⟩
abbrev st_ratio : Stmt := top 3
def row_ratio : DRow := ⟨st_ratio, "ratio", "ratio", ["top", "bottom", "common"], ["top", "bottom"], B_ratio⟩
abbrev st_Tableau_corner : Stmt := inClass (top 6) 5
def row_Tableau_corner : DRow := ⟨st_Tableau_corner, "corner", "Tableau.corner", ["self", "scale", "constant", "_"], ["self"], B_Tableau_corner⟩
abbrev st_Tableau_free : Stmt := inClass (top 6) 1
def row_Tableau_free : DRow := ⟨st_Tableau_free, "free", "Tableau.free", ["self"], ["self"], B_Tableau_free⟩
abbrev st_Tableau_aim_equation : Stmt := inClass (top 6) 2
def row_Tableau_aim_equation : DRow := ⟨st_Tableau_aim_equation, "aim_equation", "Tableau.aim_equation", ["self"], ["self"], B_Tableau_aim_equation⟩
abbrev st_Tableau_column_equation : Stmt := inClass (top 6) 3
def row_Tableau_column_equation : DRow := ⟨st_Tableau_column_equation, "column_equation", "Tableau.column_equation", ["self", "j"], ["self", "j"], B_Tableau_column_equation⟩
abbrev st_Tableau_slack_equation : Stmt := inClass (top 6) 4
def row_Tableau_slack_equation : DRow := ⟨st_Tableau_slack_equation, "slack_equation", "Tableau.slack_equation", ["self", "q", "j", "scale", "constant", "coefs", "coef"], ["self", "q"], B_Tableau_slack_equation⟩
abbrev st__law_count : Stmt := top 16
def row__law_count : DRow := ⟨st__law_count, "_law_count", "_law_count", ["_law_program_here"], ["_law_program_here"], B__law_count⟩
abbrev st__law_common : Stmt := top 11
def row__law_common : DRow := ⟨st__law_common, "_law_common", "_law_common", ["_law_a", "_law_b", "_law_k", "_law_rest"], ["_law_a", "_law_b"], B__law_common⟩
abbrev st__law_whole : Stmt := top 10
def row__law_whole : DRow := ⟨st__law_whole, "_law_whole", "_law_whole", ["_law_x"], ["_law_x"], B__law_whole⟩
abbrev st__law_equation : Stmt := top 19
def row__law_equation : DRow := ⟨st__law_equation, "_law_equation", "_law_equation", ["_law_told", "_law_many", "_law_numbers", "_law_common_here", "_law_n"], ["_law_told", "_law_many"], B__law_equation⟩
abbrev st__law_says : Stmt := top 20
def row__law_says : DRow := ⟨st__law_says, "_law_says", "_law_says", ["_law_told", "_law_worth", "_law_slacks", "_law_total", "_law_k"], ["_law_told", "_law_worth", "_law_slacks"], B__law_says⟩
abbrev st__law_inequality : Stmt := top 15
def row__law_inequality : DRow := ⟨st__law_inequality, "_law_inequality", "_law_inequality", ["_law_program_here", "_law_q", "_law_rows", "_law_j"], ["_law_program_here", "_law_q"], B__law_inequality⟩
abbrev st__law_sum : Stmt := top 17
def row__law_sum : DRow := ⟨st__law_sum, "_law_sum", "_law_sum", ["_law_terms_here", "_law_point", "_law_total", "_law_v", "_law_c"], ["_law_terms_here", "_law_point"], B__law_sum⟩
abbrev st__law_slack : Stmt := top 18
def row__law_slack : DRow := ⟨st__law_slack, "_law_slack", "_law_slack", ["_law_program_here", "_law_q", "_law_point", "_law_terms_here", "_law_rhs_here"], ["_law_program_here", "_law_q", "_law_point"], B__law_slack⟩
abbrev st__law_agrees : Stmt := top 21
def row__law_agrees : DRow := ⟨st__law_agrees, "_law_agrees", "_law_agrees", ["_law_tableau", "_law_program_here", "_law_places", "_law_point", "_law_many", "_law_slacks", "_law_told", "_law_j", "_law_q"], ["_law_tableau", "_law_program_here", "_law_places", "_law_point"], B__law_agrees⟩
abbrev st__law_draw : Stmt := top 8
def row__law_draw : DRow := ⟨st__law_draw, "_law_draw", "_law_draw", ["_law_tape_here", "_law_many", "_law_digit", "_law_cells", "_law_k", "_law_cell"], ["_law_tape_here", "_law_many"], B__law_draw⟩
abbrev st__law_any_point : Stmt := top 22
def row__law_any_point : DRow := ⟨st__law_any_point, "_law_any_point", "_law_any_point", ["_law_tape_here", "_law_program_here", "_law_point", "_law_j"], ["_law_tape_here", "_law_program_here"], B__law_any_point⟩
abbrev st__law_rhs : Stmt := top 13
def row__law_rhs : DRow := ⟨st__law_rhs, "_law_rhs", "_law_rhs", ["_law_tape_here", "_law_terms_here", "_law_base", "_law_large", "_law_total", "_law_v", "_law_c"], ["_law_tape_here", "_law_terms_here", "_law_base", "_law_large"], B__law_rhs⟩
abbrev st__law_terms : Stmt := top 12
def row__law_terms : DRow := ⟨st__law_terms, "_law_terms", "_law_terms", ["_law_tape_here", "_law_many", "_law_terms_here", "_law_v", "_law_c"], ["_law_tape_here", "_law_many"], B__law_terms⟩
abbrev st__law_program : Stmt := top 14
def row__law_program : DRow := ⟨st__law_program, "_law_program", "_law_program", ["_law_tape_here", "_law_most", "_law_rows", "_law_many", "_law_large", "_law_lows", "_law_highs", "_law_base", "_law_j", "_law_found", "_law_i", "_law_low", "_law_terms_here", "_law_v", "_law_c"], ["_law_tape_here", "_law_most", "_law_rows"], B__law_program⟩
abbrev st__law_tape : Stmt := top 9
def row__law_tape : DRow := ⟨st__law_tape, "_law_tape", "_law_tape", ["_law_script"], ["_law_script"], B__law_tape⟩
abbrev st_law : Stmt := top 23
def row_law : DRow := ⟨st_law, "law", "law", ["_law_script", "_law_tape_here", "_law_program_here", "_law_many", "_law_rows", "_law_coefs", "_law_places", "_law_corner", "_law_j", "_law_tableau", "_law_other", "_law_part", "_law_k", "_law_v", "_law_c", "_law_x"], ["_law_script"], B_law⟩
def rows : List DRow := [row_combined, row_Tableau___init__, row_ratio, row_Tableau_corner, row_Tableau_free, row_Tableau_aim_equation, row_Tableau_column_equation, row_Tableau_slack_equation, row__law_count, row__law_common, row__law_whole, row__law_equation, row__law_says, row__law_inequality, row__law_sum, row__law_slack, row__law_agrees, row__law_draw, row__law_any_point, row__law_rhs, row__law_terms, row__law_program, row__law_tape, row_law]
def T : Tab where
  C := C
  fn := fun i => (([some "combined", none, some "ratio", none, none, none, none, none, some "_law_count", some "_law_common", some "_law_whole", some "_law_equation", some "_law_says", some "_law_inequality", some "_law_sum", some "_law_slack", some "_law_agrees", some "_law_draw", some "_law_any_point", some "_law_rhs", some "_law_terms", some "_law_program", some "_law_tape", some "law"] : List (Option String))[i]?).join
  mt := fun i => (([none, none, none, some ("Tableau", "corner"), some ("Tableau", "free"), some ("Tableau", "aim_equation"), some ("Tableau", "column_equation"), some ("Tableau", "slack_equation"), none, none, none, none, none, none, none, none, none, none, none, none, none, none, none, none] : List (Option (String × String)))[i]?).join
  nw := fun i => (([none, some "Tableau", none, none, none, none, none, none, none, none, none, none, none, none, none, none, none, none, none, none, none, none, none, none] : List (Option String))[i]?).join
  gl := fun i => ([] : List String)[i]?
  ar := fun _ => 0
  lev := fun i => levs.getD i 1000
  gcd := true
set_option maxHeartbeats 0 in
theorem rb_combined : rowB T 0 row_combined = true := by decide +kernel
theorem rb_Tableau___init__ : rowB T 1 row_Tableau___init__ = true := by decide +kernel
theorem rb_ratio : rowB T 2 row_ratio = true := by decide +kernel
theorem rb_Tableau_corner : rowB T 3 row_Tableau_corner = true := by decide +kernel
theorem rb_Tableau_free : rowB T 4 row_Tableau_free = true := by decide +kernel
theorem rb_Tableau_aim_equation : rowB T 5 row_Tableau_aim_equation = true := by decide +kernel
theorem rb_Tableau_column_equation : rowB T 6 row_Tableau_column_equation = true := by decide +kernel
theorem rb_Tableau_slack_equation : rowB T 7 row_Tableau_slack_equation = true := by decide +kernel
theorem rb__law_count : rowB T 8 row__law_count = true := by decide +kernel
theorem rb__law_common : rowB T 9 row__law_common = true := by decide +kernel
theorem rb__law_whole : rowB T 10 row__law_whole = true := by decide +kernel
theorem rb__law_equation : rowB T 11 row__law_equation = true := by decide +kernel
theorem rb__law_says : rowB T 12 row__law_says = true := by decide +kernel
theorem rb__law_inequality : rowB T 13 row__law_inequality = true := by decide +kernel
theorem rb__law_sum : rowB T 14 row__law_sum = true := by decide +kernel
theorem rb__law_slack : rowB T 15 row__law_slack = true := by decide +kernel
theorem rb__law_agrees : rowB T 16 row__law_agrees = true := by decide +kernel
theorem rb__law_draw : rowB T 17 row__law_draw = true := by decide +kernel
theorem rb__law_any_point : rowB T 18 row__law_any_point = true := by decide +kernel
theorem rb__law_rhs : rowB T 19 row__law_rhs = true := by decide +kernel
theorem rb__law_terms : rowB T 20 row__law_terms = true := by decide +kernel
theorem rb__law_program : rowB T 21 row__law_program = true := by decide +kernel
theorem rb__law_tape : rowB T 22 row__law_tape = true := by decide +kernel
theorem rb_law : rowB T 23 row_law = true := by decide +kernel
theorem rows_ok : ∀ i r, rows[i]? = some r → rowB T i r = true
  | 0, r, e => by obtain rfl : row_combined = r := Option.some.inj e; exact rb_combined
  | 1, r, e => by obtain rfl : row_Tableau___init__ = r := Option.some.inj e; exact rb_Tableau___init__
  | 2, r, e => by obtain rfl : row_ratio = r := Option.some.inj e; exact rb_ratio
  | 3, r, e => by obtain rfl : row_Tableau_corner = r := Option.some.inj e; exact rb_Tableau_corner
  | 4, r, e => by obtain rfl : row_Tableau_free = r := Option.some.inj e; exact rb_Tableau_free
  | 5, r, e => by obtain rfl : row_Tableau_aim_equation = r := Option.some.inj e; exact rb_Tableau_aim_equation
  | 6, r, e => by obtain rfl : row_Tableau_column_equation = r := Option.some.inj e; exact rb_Tableau_column_equation
  | 7, r, e => by obtain rfl : row_Tableau_slack_equation = r := Option.some.inj e; exact rb_Tableau_slack_equation
  | 8, r, e => by obtain rfl : row__law_count = r := Option.some.inj e; exact rb__law_count
  | 9, r, e => by obtain rfl : row__law_common = r := Option.some.inj e; exact rb__law_common
  | 10, r, e => by obtain rfl : row__law_whole = r := Option.some.inj e; exact rb__law_whole
  | 11, r, e => by obtain rfl : row__law_equation = r := Option.some.inj e; exact rb__law_equation
  | 12, r, e => by obtain rfl : row__law_says = r := Option.some.inj e; exact rb__law_says
  | 13, r, e => by obtain rfl : row__law_inequality = r := Option.some.inj e; exact rb__law_inequality
  | 14, r, e => by obtain rfl : row__law_sum = r := Option.some.inj e; exact rb__law_sum
  | 15, r, e => by obtain rfl : row__law_slack = r := Option.some.inj e; exact rb__law_slack
  | 16, r, e => by obtain rfl : row__law_agrees = r := Option.some.inj e; exact rb__law_agrees
  | 17, r, e => by obtain rfl : row__law_draw = r := Option.some.inj e; exact rb__law_draw
  | 18, r, e => by obtain rfl : row__law_any_point = r := Option.some.inj e; exact rb__law_any_point
  | 19, r, e => by obtain rfl : row__law_rhs = r := Option.some.inj e; exact rb__law_rhs
  | 20, r, e => by obtain rfl : row__law_terms = r := Option.some.inj e; exact rb__law_terms
  | 21, r, e => by obtain rfl : row__law_program = r := Option.some.inj e; exact rb__law_program
  | 22, r, e => by obtain rfl : row__law_tape = r := Option.some.inj e; exact rb__law_tape
  | 23, r, e => by obtain rfl : row_law = r := Option.some.inj e; exact rb_law
  | k + 24, r, e => by have e' : (none : Option DRow) = some r := e; cases e'
theorem rows_dom : ∀ i, (T.fn i).isSome = true ∨ (T.mt i).isSome = true ∨ (T.nw i).isSome = true → i < rows.length := by
  intro i h
  by_cases hi : i < 24
  · exact hi
  · exfalso
    have e1 : T.fn i = none := by show (_[i]?).join = none; rw [List.getElem?_eq_none (by show 24 ≤ i; omega)]; rfl
    have e2 : T.mt i = none := by show (_[i]?).join = none; rw [List.getElem?_eq_none (by show 24 ≤ i; omega)]; rfl
    have e3 : T.nw i = none := by show (_[i]?).join = none; rw [List.getElem?_eq_none (by show 24 ≤ i; omega)]; rfl
    rw [e1, e2, e3] at h
    simp at h
theorem rows_wp : ∀ i r, rows[i]? = some r → DefOk T.C (T.C.fn i) r.ps.length r.N.length r.body
  | 0, r, e => by obtain rfl : row_combined = r := Option.some.inj e; exact W_combined
  | 1, r, e => by obtain rfl : row_Tableau___init__ = r := Option.some.inj e; exact W_Tableau___init__
  | 2, r, e => by obtain rfl : row_ratio = r := Option.some.inj e; exact W_ratio
  | 3, r, e => by obtain rfl : row_Tableau_corner = r := Option.some.inj e; exact W_Tableau_corner
  | 4, r, e => by obtain rfl : row_Tableau_free = r := Option.some.inj e; exact W_Tableau_free
  | 5, r, e => by obtain rfl : row_Tableau_aim_equation = r := Option.some.inj e; exact W_Tableau_aim_equation
  | 6, r, e => by obtain rfl : row_Tableau_column_equation = r := Option.some.inj e; exact W_Tableau_column_equation
  | 7, r, e => by obtain rfl : row_Tableau_slack_equation = r := Option.some.inj e; exact W_Tableau_slack_equation
  | 8, r, e => by obtain rfl : row__law_count = r := Option.some.inj e; exact W__law_count
  | 9, r, e => by obtain rfl : row__law_common = r := Option.some.inj e; exact W__law_common
  | 10, r, e => by obtain rfl : row__law_whole = r := Option.some.inj e; exact W__law_whole
  | 11, r, e => by obtain rfl : row__law_equation = r := Option.some.inj e; exact W__law_equation
  | 12, r, e => by obtain rfl : row__law_says = r := Option.some.inj e; exact W__law_says
  | 13, r, e => by obtain rfl : row__law_inequality = r := Option.some.inj e; exact W__law_inequality
  | 14, r, e => by obtain rfl : row__law_sum = r := Option.some.inj e; exact W__law_sum
  | 15, r, e => by obtain rfl : row__law_slack = r := Option.some.inj e; exact W__law_slack
  | 16, r, e => by obtain rfl : row__law_agrees = r := Option.some.inj e; exact W__law_agrees
  | 17, r, e => by obtain rfl : row__law_draw = r := Option.some.inj e; exact W__law_draw
  | 18, r, e => by obtain rfl : row__law_any_point = r := Option.some.inj e; exact W__law_any_point
  | 19, r, e => by obtain rfl : row__law_rhs = r := Option.some.inj e; exact W__law_rhs
  | 20, r, e => by obtain rfl : row__law_terms = r := Option.some.inj e; exact W__law_terms
  | 21, r, e => by obtain rfl : row__law_program = r := Option.some.inj e; exact W__law_program
  | 22, r, e => by obtain rfl : row__law_tape = r := Option.some.inj e; exact W__law_tape
  | 23, r, e => by obtain rfl : row_law = r := Option.some.inj e; exact W_law
  | k + 24, r, e => by have e' : (none : Option DRow) = some r := e; cases e'
def clT (cs : List Addr) : ClsT where
  ins := fun c => if c = "Tableau" then cs[0]? else none
  val := fun _ => none
  z := fun _ => False
set_option maxHeartbeats 0 in
theorem all_mk {l : PySem.W.OpenLaw} {w : World} {K : PySem.W.Frag} {h : Heap} {mg : Str → Option Value} {fa : Addr} {C0 : Addr} {f0 : Addr} {od0 an0 : Option Addr} {sl0 : Array (Option Value)} {oc0 kV0 dc0 pm0 cd0 ct0 : Value} {f1 : Addr} {od1 an1 : Option Addr} {sl1 : Array (Option Value)} {oc1 kV1 dc1 pm1 cd1 ct1 : Value} {f2 : Addr} {od2 an2 : Option Addr} {sl2 : Array (Option Value)} {oc2 kV2 dc2 pm2 cd2 ct2 : Value} {f3 : Addr} {od3 an3 : Option Addr} {sl3 : Array (Option Value)} {oc3 kV3 dc3 pm3 cd3 ct3 : Value} {f4 : Addr} {od4 an4 : Option Addr} {sl4 : Array (Option Value)} {oc4 kV4 dc4 pm4 cd4 ct4 : Value} {f5 : Addr} {od5 an5 : Option Addr} {sl5 : Array (Option Value)} {oc5 kV5 dc5 pm5 cd5 ct5 : Value} {f6 : Addr} {od6 an6 : Option Addr} {sl6 : Array (Option Value)} {oc6 kV6 dc6 pm6 cd6 ct6 : Value} {f7 : Addr} {od7 an7 : Option Addr} {sl7 : Array (Option Value)} {oc7 kV7 dc7 pm7 cd7 ct7 : Value} {f8 : Addr} {od8 an8 : Option Addr} {sl8 : Array (Option Value)} {oc8 kV8 dc8 pm8 cd8 ct8 : Value} {f9 : Addr} {od9 an9 : Option Addr} {sl9 : Array (Option Value)} {oc9 kV9 dc9 pm9 cd9 ct9 : Value} {f10 : Addr} {od10 an10 : Option Addr} {sl10 : Array (Option Value)} {oc10 kV10 dc10 pm10 cd10 ct10 : Value} {f11 : Addr} {od11 an11 : Option Addr} {sl11 : Array (Option Value)} {oc11 kV11 dc11 pm11 cd11 ct11 : Value} {f12 : Addr} {od12 an12 : Option Addr} {sl12 : Array (Option Value)} {oc12 kV12 dc12 pm12 cd12 ct12 : Value} {f13 : Addr} {od13 an13 : Option Addr} {sl13 : Array (Option Value)} {oc13 kV13 dc13 pm13 cd13 ct13 : Value} {f14 : Addr} {od14 an14 : Option Addr} {sl14 : Array (Option Value)} {oc14 kV14 dc14 pm14 cd14 ct14 : Value} {f15 : Addr} {od15 an15 : Option Addr} {sl15 : Array (Option Value)} {oc15 kV15 dc15 pm15 cd15 ct15 : Value} {f16 : Addr} {od16 an16 : Option Addr} {sl16 : Array (Option Value)} {oc16 kV16 dc16 pm16 cd16 ct16 : Value} {f17 : Addr} {od17 an17 : Option Addr} {sl17 : Array (Option Value)} {oc17 kV17 dc17 pm17 cd17 ct17 : Value} {f18 : Addr} {od18 an18 : Option Addr} {sl18 : Array (Option Value)} {oc18 kV18 dc18 pm18 cd18 ct18 : Value} {f19 : Addr} {od19 an19 : Option Addr} {sl19 : Array (Option Value)} {oc19 kV19 dc19 pm19 cd19 ct19 : Value} {f20 : Addr} {od20 an20 : Option Addr} {sl20 : Array (Option Value)} {oc20 kV20 dc20 pm20 cd20 ct20 : Value} {f21 : Addr} {od21 an21 : Option Addr} {sl21 : Array (Option Value)} {oc21 kV21 dc21 pm21 cd21 ct21 : Value} {f22 : Addr} {od22 an22 : Option Addr} {sl22 : Array (Option Value)} {oc22 kV22 dc22 pm22 cd22 ct22 : Value} {f23 : Addr} {od23 an23 : Option Addr} {sl23 : Array (Option Value)} {oc23 kV23 dc23 pm23 cd23 ct23 : Value} (X : K.In h) (G : h.Ns mainGlobals mg) (hfa : mg "law" = some (.ref fa))
    (aC0 : PySem.W.nsIn K mainGlobals "Tableau" = some (some (.ref C0)))
    (pg0 : PySem.W.plainGet K C0 Str.empty = true)
    (hd0 : PySem.W.hasDictIn K C0 = true)
    (po0 : PySem.W.plainOver K C0 = true)
    (sa0 : PySem.W.findIn K (.ref C0) "__setattr__" = some (some (.builtin "object.__setattr__")))
    (mk0 : PySem.W.makesIn K C0 = true)
    (kc0 : PySem.W.keepIn K (.ref C0) = true)
    (n0_lows : PySem.W.findIn K (.ref C0) "lows" = some none)
    (n0_highs : PySem.W.findIn K (.ref C0) "highs" = some none)
    (n0_row_many : PySem.W.findIn K (.ref C0) "row_many" = some none)
    (n0_places : PySem.W.findIn K (.ref C0) "places" = some none)
    (n0_column_rows : PySem.W.findIn K (.ref C0) "column_rows" = some none)
    (n0_aim_row : PySem.W.findIn K (.ref C0) "aim_row" = some none)
    (n0_slack_rows : PySem.W.findIn K (.ref C0) "slack_rows" = some none)
    (a0 : PySem.W.nsIn K mainGlobals "combined" = some (some (.ref f0)))
    (l0 : K.lookup f0 = some ⟨oc0, od0, .func (PySem.W.fnOf "combined" "combined" (defArgs st_combined) (defBody st_combined) (defScope st_combined) .none kV0 dc0 pm0 an0 cd0 ct0), sl0⟩)
    (c0 : PySem.W.codeIn K cd0 "combined" = true)
    (k0 : PySem.W.keepIn K (.ref f0) = true)
    (a1 : PySem.W.findIn K (.ref C0) "__init__" = some (some (.ref f1)))
    (i1 : PySem.W.isFn K (.ref f1) = true)
    (l1 : K.lookup f1 = some ⟨oc1, od1, .func (PySem.W.fnOf "__init__" "Tableau.__init__" (defArgs st_Tableau___init__) (defBody st_Tableau___init__) (defScope st_Tableau___init__) .none kV1 dc1 pm1 an1 cd1 ct1), sl1⟩)
    (c1 : PySem.W.codeIn K cd1 "Tableau.__init__" = true)
    (k1 : PySem.W.keepIn K (.ref f1) = true)
    (a2 : PySem.W.nsIn K mainGlobals "ratio" = some (some (.ref f2)))
    (l2 : K.lookup f2 = some ⟨oc2, od2, .func (PySem.W.fnOf "ratio" "ratio" (defArgs st_ratio) (defBody st_ratio) (defScope st_ratio) .none kV2 dc2 pm2 an2 cd2 ct2), sl2⟩)
    (c2 : PySem.W.codeIn K cd2 "ratio" = true)
    (k2 : PySem.W.keepIn K (.ref f2) = true)
    (a3 : PySem.W.findIn K (.ref C0) "corner" = some (some (.ref f3)))
    (i3 : PySem.W.isFn K (.ref f3) = true)
    (l3 : K.lookup f3 = some ⟨oc3, od3, .func (PySem.W.fnOf "corner" "Tableau.corner" (defArgs st_Tableau_corner) (defBody st_Tableau_corner) (defScope st_Tableau_corner) .none kV3 dc3 pm3 an3 cd3 ct3), sl3⟩)
    (c3 : PySem.W.codeIn K cd3 "Tableau.corner" = true)
    (k3 : PySem.W.keepIn K (.ref f3) = true)
    (a4 : PySem.W.findIn K (.ref C0) "free" = some (some (.ref f4)))
    (i4 : PySem.W.isFn K (.ref f4) = true)
    (l4 : K.lookup f4 = some ⟨oc4, od4, .func (PySem.W.fnOf "free" "Tableau.free" (defArgs st_Tableau_free) (defBody st_Tableau_free) (defScope st_Tableau_free) .none kV4 dc4 pm4 an4 cd4 ct4), sl4⟩)
    (c4 : PySem.W.codeIn K cd4 "Tableau.free" = true)
    (k4 : PySem.W.keepIn K (.ref f4) = true)
    (a5 : PySem.W.findIn K (.ref C0) "aim_equation" = some (some (.ref f5)))
    (i5 : PySem.W.isFn K (.ref f5) = true)
    (l5 : K.lookup f5 = some ⟨oc5, od5, .func (PySem.W.fnOf "aim_equation" "Tableau.aim_equation" (defArgs st_Tableau_aim_equation) (defBody st_Tableau_aim_equation) (defScope st_Tableau_aim_equation) .none kV5 dc5 pm5 an5 cd5 ct5), sl5⟩)
    (c5 : PySem.W.codeIn K cd5 "Tableau.aim_equation" = true)
    (k5 : PySem.W.keepIn K (.ref f5) = true)
    (a6 : PySem.W.findIn K (.ref C0) "column_equation" = some (some (.ref f6)))
    (i6 : PySem.W.isFn K (.ref f6) = true)
    (l6 : K.lookup f6 = some ⟨oc6, od6, .func (PySem.W.fnOf "column_equation" "Tableau.column_equation" (defArgs st_Tableau_column_equation) (defBody st_Tableau_column_equation) (defScope st_Tableau_column_equation) .none kV6 dc6 pm6 an6 cd6 ct6), sl6⟩)
    (c6 : PySem.W.codeIn K cd6 "Tableau.column_equation" = true)
    (k6 : PySem.W.keepIn K (.ref f6) = true)
    (a7 : PySem.W.findIn K (.ref C0) "slack_equation" = some (some (.ref f7)))
    (i7 : PySem.W.isFn K (.ref f7) = true)
    (l7 : K.lookup f7 = some ⟨oc7, od7, .func (PySem.W.fnOf "slack_equation" "Tableau.slack_equation" (defArgs st_Tableau_slack_equation) (defBody st_Tableau_slack_equation) (defScope st_Tableau_slack_equation) .none kV7 dc7 pm7 an7 cd7 ct7), sl7⟩)
    (c7 : PySem.W.codeIn K cd7 "Tableau.slack_equation" = true)
    (k7 : PySem.W.keepIn K (.ref f7) = true)
    (a8 : PySem.W.nsIn K mainGlobals "_law_count" = some (some (.ref f8)))
    (l8 : K.lookup f8 = some ⟨oc8, od8, .func (PySem.W.fnOf "_law_count" "_law_count" (defArgs st__law_count) (defBody st__law_count) (defScope st__law_count) .none kV8 dc8 pm8 an8 cd8 ct8), sl8⟩)
    (c8 : PySem.W.codeIn K cd8 "_law_count" = true)
    (k8 : PySem.W.keepIn K (.ref f8) = true)
    (a9 : PySem.W.nsIn K mainGlobals "_law_common" = some (some (.ref f9)))
    (l9 : K.lookup f9 = some ⟨oc9, od9, .func (PySem.W.fnOf "_law_common" "_law_common" (defArgs st__law_common) (defBody st__law_common) (defScope st__law_common) .none kV9 dc9 pm9 an9 cd9 ct9), sl9⟩)
    (c9 : PySem.W.codeIn K cd9 "_law_common" = true)
    (k9 : PySem.W.keepIn K (.ref f9) = true)
    (a10 : PySem.W.nsIn K mainGlobals "_law_whole" = some (some (.ref f10)))
    (l10 : K.lookup f10 = some ⟨oc10, od10, .func (PySem.W.fnOf "_law_whole" "_law_whole" (defArgs st__law_whole) (defBody st__law_whole) (defScope st__law_whole) .none kV10 dc10 pm10 an10 cd10 ct10), sl10⟩)
    (c10 : PySem.W.codeIn K cd10 "_law_whole" = true)
    (k10 : PySem.W.keepIn K (.ref f10) = true)
    (a11 : PySem.W.nsIn K mainGlobals "_law_equation" = some (some (.ref f11)))
    (l11 : K.lookup f11 = some ⟨oc11, od11, .func (PySem.W.fnOf "_law_equation" "_law_equation" (defArgs st__law_equation) (defBody st__law_equation) (defScope st__law_equation) .none kV11 dc11 pm11 an11 cd11 ct11), sl11⟩)
    (c11 : PySem.W.codeIn K cd11 "_law_equation" = true)
    (k11 : PySem.W.keepIn K (.ref f11) = true)
    (a12 : PySem.W.nsIn K mainGlobals "_law_says" = some (some (.ref f12)))
    (l12 : K.lookup f12 = some ⟨oc12, od12, .func (PySem.W.fnOf "_law_says" "_law_says" (defArgs st__law_says) (defBody st__law_says) (defScope st__law_says) .none kV12 dc12 pm12 an12 cd12 ct12), sl12⟩)
    (c12 : PySem.W.codeIn K cd12 "_law_says" = true)
    (k12 : PySem.W.keepIn K (.ref f12) = true)
    (a13 : PySem.W.nsIn K mainGlobals "_law_inequality" = some (some (.ref f13)))
    (l13 : K.lookup f13 = some ⟨oc13, od13, .func (PySem.W.fnOf "_law_inequality" "_law_inequality" (defArgs st__law_inequality) (defBody st__law_inequality) (defScope st__law_inequality) .none kV13 dc13 pm13 an13 cd13 ct13), sl13⟩)
    (c13 : PySem.W.codeIn K cd13 "_law_inequality" = true)
    (k13 : PySem.W.keepIn K (.ref f13) = true)
    (a14 : PySem.W.nsIn K mainGlobals "_law_sum" = some (some (.ref f14)))
    (l14 : K.lookup f14 = some ⟨oc14, od14, .func (PySem.W.fnOf "_law_sum" "_law_sum" (defArgs st__law_sum) (defBody st__law_sum) (defScope st__law_sum) .none kV14 dc14 pm14 an14 cd14 ct14), sl14⟩)
    (c14 : PySem.W.codeIn K cd14 "_law_sum" = true)
    (k14 : PySem.W.keepIn K (.ref f14) = true)
    (a15 : PySem.W.nsIn K mainGlobals "_law_slack" = some (some (.ref f15)))
    (l15 : K.lookup f15 = some ⟨oc15, od15, .func (PySem.W.fnOf "_law_slack" "_law_slack" (defArgs st__law_slack) (defBody st__law_slack) (defScope st__law_slack) .none kV15 dc15 pm15 an15 cd15 ct15), sl15⟩)
    (c15 : PySem.W.codeIn K cd15 "_law_slack" = true)
    (k15 : PySem.W.keepIn K (.ref f15) = true)
    (a16 : PySem.W.nsIn K mainGlobals "_law_agrees" = some (some (.ref f16)))
    (l16 : K.lookup f16 = some ⟨oc16, od16, .func (PySem.W.fnOf "_law_agrees" "_law_agrees" (defArgs st__law_agrees) (defBody st__law_agrees) (defScope st__law_agrees) .none kV16 dc16 pm16 an16 cd16 ct16), sl16⟩)
    (c16 : PySem.W.codeIn K cd16 "_law_agrees" = true)
    (k16 : PySem.W.keepIn K (.ref f16) = true)
    (a17 : PySem.W.nsIn K mainGlobals "_law_draw" = some (some (.ref f17)))
    (l17 : K.lookup f17 = some ⟨oc17, od17, .func (PySem.W.fnOf "_law_draw" "_law_draw" (defArgs st__law_draw) (defBody st__law_draw) (defScope st__law_draw) .none kV17 dc17 pm17 an17 cd17 ct17), sl17⟩)
    (c17 : PySem.W.codeIn K cd17 "_law_draw" = true)
    (k17 : PySem.W.keepIn K (.ref f17) = true)
    (a18 : PySem.W.nsIn K mainGlobals "_law_any_point" = some (some (.ref f18)))
    (l18 : K.lookup f18 = some ⟨oc18, od18, .func (PySem.W.fnOf "_law_any_point" "_law_any_point" (defArgs st__law_any_point) (defBody st__law_any_point) (defScope st__law_any_point) .none kV18 dc18 pm18 an18 cd18 ct18), sl18⟩)
    (c18 : PySem.W.codeIn K cd18 "_law_any_point" = true)
    (k18 : PySem.W.keepIn K (.ref f18) = true)
    (a19 : PySem.W.nsIn K mainGlobals "_law_rhs" = some (some (.ref f19)))
    (l19 : K.lookup f19 = some ⟨oc19, od19, .func (PySem.W.fnOf "_law_rhs" "_law_rhs" (defArgs st__law_rhs) (defBody st__law_rhs) (defScope st__law_rhs) .none kV19 dc19 pm19 an19 cd19 ct19), sl19⟩)
    (c19 : PySem.W.codeIn K cd19 "_law_rhs" = true)
    (k19 : PySem.W.keepIn K (.ref f19) = true)
    (a20 : PySem.W.nsIn K mainGlobals "_law_terms" = some (some (.ref f20)))
    (l20 : K.lookup f20 = some ⟨oc20, od20, .func (PySem.W.fnOf "_law_terms" "_law_terms" (defArgs st__law_terms) (defBody st__law_terms) (defScope st__law_terms) .none kV20 dc20 pm20 an20 cd20 ct20), sl20⟩)
    (c20 : PySem.W.codeIn K cd20 "_law_terms" = true)
    (k20 : PySem.W.keepIn K (.ref f20) = true)
    (a21 : PySem.W.nsIn K mainGlobals "_law_program" = some (some (.ref f21)))
    (l21 : K.lookup f21 = some ⟨oc21, od21, .func (PySem.W.fnOf "_law_program" "_law_program" (defArgs st__law_program) (defBody st__law_program) (defScope st__law_program) .none kV21 dc21 pm21 an21 cd21 ct21), sl21⟩)
    (c21 : PySem.W.codeIn K cd21 "_law_program" = true)
    (k21 : PySem.W.keepIn K (.ref f21) = true)
    (a22 : PySem.W.nsIn K mainGlobals "_law_tape" = some (some (.ref f22)))
    (l22 : K.lookup f22 = some ⟨oc22, od22, .func (PySem.W.fnOf "_law_tape" "_law_tape" (defArgs st__law_tape) (defBody st__law_tape) (defScope st__law_tape) .none kV22 dc22 pm22 an22 cd22 ct22), sl22⟩)
    (c22 : PySem.W.codeIn K cd22 "_law_tape" = true)
    (k22 : PySem.W.keepIn K (.ref f22) = true)
    (a23 : PySem.W.nsIn K mainGlobals "law" = some (some (.ref f23)))
    (l23 : K.lookup f23 = some ⟨oc23, od23, .func (PySem.W.fnOf "law" "law" (defArgs st_law) (defBody st_law) (defScope st_law) .none kV23 dc23 pm23 an23 cd23 ct23), sl23⟩)
    (c23 : PySem.W.codeIn K cd23 "law" = true)
    (k23 : PySem.W.keepIn K (.ref f23) = true)
    (z_len : PySem.W.nsIn K mainGlobals "len" = some none)
    (z_abs : PySem.W.nsIn K mainGlobals "abs" = some none)
    (z_int : PySem.W.nsIn K mainGlobals "int" = some none)
    (z_str : PySem.W.nsIn K mainGlobals "str" = some none)
    (z_tuple : PySem.W.nsIn K mainGlobals "tuple" = some none)
    (z_list : PySem.W.nsIn K mainGlobals "list" = some none)
    (z_range : PySem.W.nsIn K mainGlobals "range" = some none)
    (z_isinstance : PySem.W.nsIn K mainGlobals "isinstance" = some none)
    (z_sorted : PySem.W.nsIn K mainGlobals "sorted" = some none)
    (z_set : PySem.W.nsIn K mainGlobals "set" = some none)
    (z_sum : PySem.W.nsIn K mainGlobals "sum" = some none)
    (z_any : PySem.W.nsIn K mainGlobals "any" = some none)
    (z_all : PySem.W.nsIn K mainGlobals "all" = some none)
    (z_min : PySem.W.nsIn K mainGlobals "min" = some none)
    (z_max : PySem.W.nsIn K mainGlobals "max" = some none)
    (z_dict : PySem.W.nsIn K mainGlobals "dict" = some none)
    (z_repr : PySem.W.nsIn K mainGlobals "repr" = some none)
    (z_iter : PySem.W.nsIn K mainGlobals "iter" = some none)
    (z_zip : PySem.W.nsIn K mainGlobals "zip" = some none)
    (z_enumerate : PySem.W.nsIn K mainGlobals "enumerate" = some none)
    (z_bool : PySem.W.nsIn K mainGlobals "bool" = some none)
    (z_ValueError : PySem.W.nsIn K mainGlobals "ValueError" = some none)
    (g_gcd : PySem.W.nsIn K mainGlobals "gcd" = some (some (.builtin "math.gcd")))
    : ∃ (cl : ClsT) (fd : FuncData), (∀ (s : Shared) (u : Value), BindsTo s fd ⟨[u], []⟩ [(("_law_script" : Str), u)]) ∧ ∀ base : Heap, K.In base → base.Ns mainGlobals mg → base.NoDigits → FnOk l.prog w K mg base (L2.CX l.prog w) 4 fa fd ["_law_script"] (spV T cl K 23) := by
  have e : f23 = fa := by injection Option.some.inj ((PySem.W.mg_of X G a23).symm.trans hfa)
  subst e
  have F0 := fun_mk (st := st_combined) l0 c0 k0
  have B0 := F0.binds (ps := ["terms", "start", "rhs"]) fun _ _ _ _ _ _ us hl => match us, hl with | [_, _, _], _ => rfl
  have F1 := fun_mk (st := st_Tableau___init__) l1 c1 k1
  have B1 := F1.binds (ps := ["self", "lows", "highs", "rows", "aim"]) fun _ _ _ _ _ _ us hl => match us, hl with | [_, _, _, _, _], _ => rfl
  have F2 := fun_mk (st := st_ratio) l2 c2 k2
  have B2 := F2.binds (ps := ["top", "bottom"]) fun _ _ _ _ _ _ us hl => match us, hl with | [_, _], _ => rfl
  have F3 := fun_mk (st := st_Tableau_corner) l3 c3 k3
  have B3 := F3.binds (ps := ["self"]) fun _ _ _ _ _ _ us hl => match us, hl with | [_], _ => rfl
  have F4 := fun_mk (st := st_Tableau_free) l4 c4 k4
  have B4 := F4.binds (ps := ["self"]) fun _ _ _ _ _ _ us hl => match us, hl with | [_], _ => rfl
  have F5 := fun_mk (st := st_Tableau_aim_equation) l5 c5 k5
  have B5 := F5.binds (ps := ["self"]) fun _ _ _ _ _ _ us hl => match us, hl with | [_], _ => rfl
  have F6 := fun_mk (st := st_Tableau_column_equation) l6 c6 k6
  have B6 := F6.binds (ps := ["self", "j"]) fun _ _ _ _ _ _ us hl => match us, hl with | [_, _], _ => rfl
  have F7 := fun_mk (st := st_Tableau_slack_equation) l7 c7 k7
  have B7 := F7.binds (ps := ["self", "q"]) fun _ _ _ _ _ _ us hl => match us, hl with | [_, _], _ => rfl
  have F8 := fun_mk (st := st__law_count) l8 c8 k8
  have B8 := F8.binds (ps := ["_law_program_here"]) fun _ _ _ _ _ _ us hl => match us, hl with | [_], _ => rfl
  have F9 := fun_mk (st := st__law_common) l9 c9 k9
  have B9 := F9.binds (ps := ["_law_a", "_law_b"]) fun _ _ _ _ _ _ us hl => match us, hl with | [_, _], _ => rfl
  have F10 := fun_mk (st := st__law_whole) l10 c10 k10
  have B10 := F10.binds (ps := ["_law_x"]) fun _ _ _ _ _ _ us hl => match us, hl with | [_], _ => rfl
  have F11 := fun_mk (st := st__law_equation) l11 c11 k11
  have B11 := F11.binds (ps := ["_law_told", "_law_many"]) fun _ _ _ _ _ _ us hl => match us, hl with | [_, _], _ => rfl
  have F12 := fun_mk (st := st__law_says) l12 c12 k12
  have B12 := F12.binds (ps := ["_law_told", "_law_worth", "_law_slacks"]) fun _ _ _ _ _ _ us hl => match us, hl with | [_, _, _], _ => rfl
  have F13 := fun_mk (st := st__law_inequality) l13 c13 k13
  have B13 := F13.binds (ps := ["_law_program_here", "_law_q"]) fun _ _ _ _ _ _ us hl => match us, hl with | [_, _], _ => rfl
  have F14 := fun_mk (st := st__law_sum) l14 c14 k14
  have B14 := F14.binds (ps := ["_law_terms_here", "_law_point"]) fun _ _ _ _ _ _ us hl => match us, hl with | [_, _], _ => rfl
  have F15 := fun_mk (st := st__law_slack) l15 c15 k15
  have B15 := F15.binds (ps := ["_law_program_here", "_law_q", "_law_point"]) fun _ _ _ _ _ _ us hl => match us, hl with | [_, _, _], _ => rfl
  have F16 := fun_mk (st := st__law_agrees) l16 c16 k16
  have B16 := F16.binds (ps := ["_law_tableau", "_law_program_here", "_law_places", "_law_point"]) fun _ _ _ _ _ _ us hl => match us, hl with | [_, _, _, _], _ => rfl
  have F17 := fun_mk (st := st__law_draw) l17 c17 k17
  have B17 := F17.binds (ps := ["_law_tape_here", "_law_many"]) fun _ _ _ _ _ _ us hl => match us, hl with | [_, _], _ => rfl
  have F18 := fun_mk (st := st__law_any_point) l18 c18 k18
  have B18 := F18.binds (ps := ["_law_tape_here", "_law_program_here"]) fun _ _ _ _ _ _ us hl => match us, hl with | [_, _], _ => rfl
  have F19 := fun_mk (st := st__law_rhs) l19 c19 k19
  have B19 := F19.binds (ps := ["_law_tape_here", "_law_terms_here", "_law_base", "_law_large"]) fun _ _ _ _ _ _ us hl => match us, hl with | [_, _, _, _], _ => rfl
  have F20 := fun_mk (st := st__law_terms) l20 c20 k20
  have B20 := F20.binds (ps := ["_law_tape_here", "_law_many"]) fun _ _ _ _ _ _ us hl => match us, hl with | [_, _], _ => rfl
  have F21 := fun_mk (st := st__law_program) l21 c21 k21
  have B21 := F21.binds (ps := ["_law_tape_here", "_law_most", "_law_rows"]) fun _ _ _ _ _ _ us hl => match us, hl with | [_, _, _], _ => rfl
  have F22 := fun_mk (st := st__law_tape) l22 c22 k22
  have B22 := F22.binds (ps := ["_law_script"]) fun _ _ _ _ _ _ us hl => match us, hl with | [_], _ => rfl
  have F23 := fun_mk (st := st_law) l23 c23 k23
  have B23 := F23.binds (ps := ["_law_script"]) fun _ _ _ _ _ _ us hl => match us, hl with | [_], _ => rfl
  refine ⟨clT [C0], PySem.W.fnOf "law" "law" (defArgs st_law) (defBody st_law) (defScope st_law) .none kV23 dc23 pm23 an23 cd23 ct23, fun s v => .of_eq rfl, fun base Kb Gb dig => ?_⟩
  have cls : ∀ c C, (clT [C0]).ins c = some C → (c = "Tableau" ∧ C = C0) := by
    intro c C e
    unfold clT at e
    simp only at e
    split at e
    · rename_i hc; exact ⟨hc, (Option.some.inj e).symm⟩
    cases e
  have BB : Base T (clT [C0]) l.prog w K mg base := by
    refine ⟨?_, ?_, ?_, ?_, ?_, dig, fun n C _ z => by have z' : (none : Option Addr) = some C := z; cases z'⟩
    · intro c C e
      rcases cls c C e with ⟨rfl, rfl⟩
      · exact ⟨pg0, hd0, po0, sa0⟩
    · intro c C f e hf
      rcases cls c C e with ⟨rfl, rfl⟩
      · have hf' : f ∈ ["lows", "highs", "row_many", "places", "column_rows", "aim_row", "slack_rows"] := fld_Tableau hf
        simp only [List.mem_cons, List.not_mem_nil, or_false] at hf'
        rcases hf' with rfl | rfl | rfl | rfl | rfl | rfl | rfl
        · exact n0_lows
        · exact n0_highs
        · exact n0_row_many
        · exact n0_places
        · exact n0_column_rows
        · exact n0_aim_row
        · exact n0_slack_rows
    · intro i x e; have e' : (none : Option String) = some x := by rw [← e]; rfl
      cases e'
    · intro x hx
      simp only [bltNames, List.mem_cons, List.not_mem_nil, or_false] at hx
      rcases hx with rfl | rfl | rfl | rfl | rfl | rfl | rfl | rfl | rfl | rfl | rfl | rfl | rfl | rfl | rfl | rfl | rfl | rfl | rfl | rfl | rfl | rfl
      · exact PySem.W.mg_none_of X G z_len
      · exact PySem.W.mg_none_of X G z_abs
      · exact PySem.W.mg_none_of X G z_int
      · exact PySem.W.mg_none_of X G z_str
      · exact PySem.W.mg_none_of X G z_tuple
      · exact PySem.W.mg_none_of X G z_list
      · exact PySem.W.mg_none_of X G z_range
      · exact PySem.W.mg_none_of X G z_isinstance
      · exact PySem.W.mg_none_of X G z_sorted
      · exact PySem.W.mg_none_of X G z_set
      · exact PySem.W.mg_none_of X G z_sum
      · exact PySem.W.mg_none_of X G z_any
      · exact PySem.W.mg_none_of X G z_all
      · exact PySem.W.mg_none_of X G z_min
      · exact PySem.W.mg_none_of X G z_max
      · exact PySem.W.mg_none_of X G z_dict
      · exact PySem.W.mg_none_of X G z_repr
      · exact PySem.W.mg_none_of X G z_iter
      · exact PySem.W.mg_none_of X G z_zip
      · exact PySem.W.mg_none_of X G z_enumerate
      · exact PySem.W.mg_none_of X G z_bool
      · exact PySem.W.mg_none_of X G z_ValueError
    · exact fun _ => PySem.W.mg_of X G g_gcd
  have D : ∀ i r, rows[i]? = some r → RowAt T (clT [C0]) K mg i r (([f0, f1, f2, f3, f4, f5, f6, f7, f8, f9, f10, f11, f12, f13, f14, f15, f16, f17, f18, f19, f20, f21, f22, f23] : List Addr).getD i f0) (([PySem.W.fnOf "combined" "combined" (defArgs st_combined) (defBody st_combined) (defScope st_combined) .none kV0 dc0 pm0 an0 cd0 ct0, PySem.W.fnOf "__init__" "Tableau.__init__" (defArgs st_Tableau___init__) (defBody st_Tableau___init__) (defScope st_Tableau___init__) .none kV1 dc1 pm1 an1 cd1 ct1, PySem.W.fnOf "ratio" "ratio" (defArgs st_ratio) (defBody st_ratio) (defScope st_ratio) .none kV2 dc2 pm2 an2 cd2 ct2, PySem.W.fnOf "corner" "Tableau.corner" (defArgs st_Tableau_corner) (defBody st_Tableau_corner) (defScope st_Tableau_corner) .none kV3 dc3 pm3 an3 cd3 ct3, PySem.W.fnOf "free" "Tableau.free" (defArgs st_Tableau_free) (defBody st_Tableau_free) (defScope st_Tableau_free) .none kV4 dc4 pm4 an4 cd4 ct4, PySem.W.fnOf "aim_equation" "Tableau.aim_equation" (defArgs st_Tableau_aim_equation) (defBody st_Tableau_aim_equation) (defScope st_Tableau_aim_equation) .none kV5 dc5 pm5 an5 cd5 ct5, PySem.W.fnOf "column_equation" "Tableau.column_equation" (defArgs st_Tableau_column_equation) (defBody st_Tableau_column_equation) (defScope st_Tableau_column_equation) .none kV6 dc6 pm6 an6 cd6 ct6, PySem.W.fnOf "slack_equation" "Tableau.slack_equation" (defArgs st_Tableau_slack_equation) (defBody st_Tableau_slack_equation) (defScope st_Tableau_slack_equation) .none kV7 dc7 pm7 an7 cd7 ct7, PySem.W.fnOf "_law_count" "_law_count" (defArgs st__law_count) (defBody st__law_count) (defScope st__law_count) .none kV8 dc8 pm8 an8 cd8 ct8, PySem.W.fnOf "_law_common" "_law_common" (defArgs st__law_common) (defBody st__law_common) (defScope st__law_common) .none kV9 dc9 pm9 an9 cd9 ct9, PySem.W.fnOf "_law_whole" "_law_whole" (defArgs st__law_whole) (defBody st__law_whole) (defScope st__law_whole) .none kV10 dc10 pm10 an10 cd10 ct10, PySem.W.fnOf "_law_equation" "_law_equation" (defArgs st__law_equation) (defBody st__law_equation) (defScope st__law_equation) .none kV11 dc11 pm11 an11 cd11 ct11, PySem.W.fnOf "_law_says" "_law_says" (defArgs st__law_says) (defBody st__law_says) (defScope st__law_says) .none kV12 dc12 pm12 an12 cd12 ct12, PySem.W.fnOf "_law_inequality" "_law_inequality" (defArgs st__law_inequality) (defBody st__law_inequality) (defScope st__law_inequality) .none kV13 dc13 pm13 an13 cd13 ct13, PySem.W.fnOf "_law_sum" "_law_sum" (defArgs st__law_sum) (defBody st__law_sum) (defScope st__law_sum) .none kV14 dc14 pm14 an14 cd14 ct14, PySem.W.fnOf "_law_slack" "_law_slack" (defArgs st__law_slack) (defBody st__law_slack) (defScope st__law_slack) .none kV15 dc15 pm15 an15 cd15 ct15, PySem.W.fnOf "_law_agrees" "_law_agrees" (defArgs st__law_agrees) (defBody st__law_agrees) (defScope st__law_agrees) .none kV16 dc16 pm16 an16 cd16 ct16, PySem.W.fnOf "_law_draw" "_law_draw" (defArgs st__law_draw) (defBody st__law_draw) (defScope st__law_draw) .none kV17 dc17 pm17 an17 cd17 ct17, PySem.W.fnOf "_law_any_point" "_law_any_point" (defArgs st__law_any_point) (defBody st__law_any_point) (defScope st__law_any_point) .none kV18 dc18 pm18 an18 cd18 ct18, PySem.W.fnOf "_law_rhs" "_law_rhs" (defArgs st__law_rhs) (defBody st__law_rhs) (defScope st__law_rhs) .none kV19 dc19 pm19 an19 cd19 ct19, PySem.W.fnOf "_law_terms" "_law_terms" (defArgs st__law_terms) (defBody st__law_terms) (defScope st__law_terms) .none kV20 dc20 pm20 an20 cd20 ct20, PySem.W.fnOf "_law_program" "_law_program" (defArgs st__law_program) (defBody st__law_program) (defScope st__law_program) .none kV21 dc21 pm21 an21 cd21 ct21, PySem.W.fnOf "_law_tape" "_law_tape" (defArgs st__law_tape) (defBody st__law_tape) (defScope st__law_tape) .none kV22 dc22 pm22 an22 cd22 ct22, PySem.W.fnOf "law" "law" (defArgs st_law) (defBody st_law) (defScope st_law) .none kV23 dc23 pm23 an23 cd23 ct23] : List FuncData).getD i (PySem.W.fnOf "" "" (defArgs st_law) [] (defScope st_law) .none .none .none .none none .none .none)) := by
    intro i r e
    match i, e with
    | 0, e =>
      obtain rfl : row_combined = r := Option.some.inj e
      exact ⟨F0, B0, fun x e => (by obtain rfl : "combined" = x := Option.some.inj e; exact PySem.W.mg_of X G a0), fun c m e => (by have e' : (none : Option (String × String)) = some (c, m) := e; cases e'), fun c e => (by have e' : (none : Option String) = some c := e; cases e')⟩
    | 1, e =>
      obtain rfl : row_Tableau___init__ = r := Option.some.inj e
      exact ⟨F1, B1, fun x e => (by have e' : (none : Option String) = some x := e; cases e'), fun c m e => (by have e' : (none : Option (String × String)) = some (c, m) := e; cases e'), fun c e => (by obtain rfl : "Tableau" = c := Option.some.inj e; exact ⟨C0, rfl, PySem.W.mg_of X G aC0, mk0, a1, i1, kc0⟩)⟩
    | 2, e =>
      obtain rfl : row_ratio = r := Option.some.inj e
      exact ⟨F2, B2, fun x e => (by obtain rfl : "ratio" = x := Option.some.inj e; exact PySem.W.mg_of X G a2), fun c m e => (by have e' : (none : Option (String × String)) = some (c, m) := e; cases e'), fun c e => (by have e' : (none : Option String) = some c := e; cases e')⟩
    | 3, e =>
      obtain rfl : row_Tableau_corner = r := Option.some.inj e
      exact ⟨F3, B3, fun x e => (by have e' : (none : Option String) = some x := e; cases e'), fun c m e => (by have e' : ("Tableau", "corner") = (c, m) := Option.some.inj e; cases e'; exact ⟨C0, rfl, a3, i3, k3⟩), fun c e => (by have e' : (none : Option String) = some c := e; cases e')⟩
    | 4, e =>
      obtain rfl : row_Tableau_free = r := Option.some.inj e
      exact ⟨F4, B4, fun x e => (by have e' : (none : Option String) = some x := e; cases e'), fun c m e => (by have e' : ("Tableau", "free") = (c, m) := Option.some.inj e; cases e'; exact ⟨C0, rfl, a4, i4, k4⟩), fun c e => (by have e' : (none : Option String) = some c := e; cases e')⟩
    | 5, e =>
      obtain rfl : row_Tableau_aim_equation = r := Option.some.inj e
      exact ⟨F5, B5, fun x e => (by have e' : (none : Option String) = some x := e; cases e'), fun c m e => (by have e' : ("Tableau", "aim_equation") = (c, m) := Option.some.inj e; cases e'; exact ⟨C0, rfl, a5, i5, k5⟩), fun c e => (by have e' : (none : Option String) = some c := e; cases e')⟩
    | 6, e =>
      obtain rfl : row_Tableau_column_equation = r := Option.some.inj e
      exact ⟨F6, B6, fun x e => (by have e' : (none : Option String) = some x := e; cases e'), fun c m e => (by have e' : ("Tableau", "column_equation") = (c, m) := Option.some.inj e; cases e'; exact ⟨C0, rfl, a6, i6, k6⟩), fun c e => (by have e' : (none : Option String) = some c := e; cases e')⟩
    | 7, e =>
      obtain rfl : row_Tableau_slack_equation = r := Option.some.inj e
      exact ⟨F7, B7, fun x e => (by have e' : (none : Option String) = some x := e; cases e'), fun c m e => (by have e' : ("Tableau", "slack_equation") = (c, m) := Option.some.inj e; cases e'; exact ⟨C0, rfl, a7, i7, k7⟩), fun c e => (by have e' : (none : Option String) = some c := e; cases e')⟩
    | 8, e =>
      obtain rfl : row__law_count = r := Option.some.inj e
      exact ⟨F8, B8, fun x e => (by obtain rfl : "_law_count" = x := Option.some.inj e; exact PySem.W.mg_of X G a8), fun c m e => (by have e' : (none : Option (String × String)) = some (c, m) := e; cases e'), fun c e => (by have e' : (none : Option String) = some c := e; cases e')⟩
    | 9, e =>
      obtain rfl : row__law_common = r := Option.some.inj e
      exact ⟨F9, B9, fun x e => (by obtain rfl : "_law_common" = x := Option.some.inj e; exact PySem.W.mg_of X G a9), fun c m e => (by have e' : (none : Option (String × String)) = some (c, m) := e; cases e'), fun c e => (by have e' : (none : Option String) = some c := e; cases e')⟩
    | 10, e =>
      obtain rfl : row__law_whole = r := Option.some.inj e
      exact ⟨F10, B10, fun x e => (by obtain rfl : "_law_whole" = x := Option.some.inj e; exact PySem.W.mg_of X G a10), fun c m e => (by have e' : (none : Option (String × String)) = some (c, m) := e; cases e'), fun c e => (by have e' : (none : Option String) = some c := e; cases e')⟩
    | 11, e =>
      obtain rfl : row__law_equation = r := Option.some.inj e
      exact ⟨F11, B11, fun x e => (by obtain rfl : "_law_equation" = x := Option.some.inj e; exact PySem.W.mg_of X G a11), fun c m e => (by have e' : (none : Option (String × String)) = some (c, m) := e; cases e'), fun c e => (by have e' : (none : Option String) = some c := e; cases e')⟩
    | 12, e =>
      obtain rfl : row__law_says = r := Option.some.inj e
      exact ⟨F12, B12, fun x e => (by obtain rfl : "_law_says" = x := Option.some.inj e; exact PySem.W.mg_of X G a12), fun c m e => (by have e' : (none : Option (String × String)) = some (c, m) := e; cases e'), fun c e => (by have e' : (none : Option String) = some c := e; cases e')⟩
    | 13, e =>
      obtain rfl : row__law_inequality = r := Option.some.inj e
      exact ⟨F13, B13, fun x e => (by obtain rfl : "_law_inequality" = x := Option.some.inj e; exact PySem.W.mg_of X G a13), fun c m e => (by have e' : (none : Option (String × String)) = some (c, m) := e; cases e'), fun c e => (by have e' : (none : Option String) = some c := e; cases e')⟩
    | 14, e =>
      obtain rfl : row__law_sum = r := Option.some.inj e
      exact ⟨F14, B14, fun x e => (by obtain rfl : "_law_sum" = x := Option.some.inj e; exact PySem.W.mg_of X G a14), fun c m e => (by have e' : (none : Option (String × String)) = some (c, m) := e; cases e'), fun c e => (by have e' : (none : Option String) = some c := e; cases e')⟩
    | 15, e =>
      obtain rfl : row__law_slack = r := Option.some.inj e
      exact ⟨F15, B15, fun x e => (by obtain rfl : "_law_slack" = x := Option.some.inj e; exact PySem.W.mg_of X G a15), fun c m e => (by have e' : (none : Option (String × String)) = some (c, m) := e; cases e'), fun c e => (by have e' : (none : Option String) = some c := e; cases e')⟩
    | 16, e =>
      obtain rfl : row__law_agrees = r := Option.some.inj e
      exact ⟨F16, B16, fun x e => (by obtain rfl : "_law_agrees" = x := Option.some.inj e; exact PySem.W.mg_of X G a16), fun c m e => (by have e' : (none : Option (String × String)) = some (c, m) := e; cases e'), fun c e => (by have e' : (none : Option String) = some c := e; cases e')⟩
    | 17, e =>
      obtain rfl : row__law_draw = r := Option.some.inj e
      exact ⟨F17, B17, fun x e => (by obtain rfl : "_law_draw" = x := Option.some.inj e; exact PySem.W.mg_of X G a17), fun c m e => (by have e' : (none : Option (String × String)) = some (c, m) := e; cases e'), fun c e => (by have e' : (none : Option String) = some c := e; cases e')⟩
    | 18, e =>
      obtain rfl : row__law_any_point = r := Option.some.inj e
      exact ⟨F18, B18, fun x e => (by obtain rfl : "_law_any_point" = x := Option.some.inj e; exact PySem.W.mg_of X G a18), fun c m e => (by have e' : (none : Option (String × String)) = some (c, m) := e; cases e'), fun c e => (by have e' : (none : Option String) = some c := e; cases e')⟩
    | 19, e =>
      obtain rfl : row__law_rhs = r := Option.some.inj e
      exact ⟨F19, B19, fun x e => (by obtain rfl : "_law_rhs" = x := Option.some.inj e; exact PySem.W.mg_of X G a19), fun c m e => (by have e' : (none : Option (String × String)) = some (c, m) := e; cases e'), fun c e => (by have e' : (none : Option String) = some c := e; cases e')⟩
    | 20, e =>
      obtain rfl : row__law_terms = r := Option.some.inj e
      exact ⟨F20, B20, fun x e => (by obtain rfl : "_law_terms" = x := Option.some.inj e; exact PySem.W.mg_of X G a20), fun c m e => (by have e' : (none : Option (String × String)) = some (c, m) := e; cases e'), fun c e => (by have e' : (none : Option String) = some c := e; cases e')⟩
    | 21, e =>
      obtain rfl : row__law_program = r := Option.some.inj e
      exact ⟨F21, B21, fun x e => (by obtain rfl : "_law_program" = x := Option.some.inj e; exact PySem.W.mg_of X G a21), fun c m e => (by have e' : (none : Option (String × String)) = some (c, m) := e; cases e'), fun c e => (by have e' : (none : Option String) = some c := e; cases e')⟩
    | 22, e =>
      obtain rfl : row__law_tape = r := Option.some.inj e
      exact ⟨F22, B22, fun x e => (by obtain rfl : "_law_tape" = x := Option.some.inj e; exact PySem.W.mg_of X G a22), fun c m e => (by have e' : (none : Option (String × String)) = some (c, m) := e; cases e'), fun c e => (by have e' : (none : Option String) = some c := e; cases e')⟩
    | 23, e =>
      obtain rfl : row_law = r := Option.some.inj e
      exact ⟨F23, B23, fun x e => (by obtain rfl : "law" = x := Option.some.inj e; exact PySem.W.mg_of X G a23), fun c m e => (by have e' : (none : Option (String × String)) = some (c, m) := e; cases e'), fun c e => (by have e' : (none : Option String) = some c := e; cases e')⟩
    | k + 24, e => have e' : (none : Option DRow) = some r := e; cases e'
  exact all_defs BB D rows_dom rows_ok rows_wp 4 23 row_law rfl (Nat.le_refl _)
end k41
open PySem PySem.W PyProof.Rows
set_option maxRecDepth 100000 in
set_option maxHeartbeats 0 in
theorem PySem.Challenge.cw_commonground_k41_new_tableau_holds : PySem.Challenge.rw_commonground_k41_new_tableau.Holds := by
  w_on; o_law; k_head; (case hw => w_witness2)
  k_fill
  refine Py.walk_rows (l := PySem.Challenge.rw_commonground_k41_new_tableau) (k := 4) (i0 := 23) (T := k41.T) (x := "_law_script") rfl rfl ⟨rfl, by decide, by decide⟩ (fun w h Y => PySem.W.kIn_of Y) ?F k41.law_true2
  case F =>
    intro w mg fa h KX G hmg
    refine' k41.all_mk KX G hmg ?aC0 ?pg0 ?hd0 ?po0 ?sa0 ?mk0 ?kc0 ?n0_lows ?n0_highs ?n0_row_many ?n0_places ?n0_column_rows ?n0_aim_row ?n0_slack_rows ?a0 ?l0 ?c0 ?k0 ?a1 ?i1 ?l1 ?c1 ?k1 ?a2 ?l2 ?c2 ?k2 ?a3 ?i3 ?l3 ?c3 ?k3 ?a4 ?i4 ?l4 ?c4 ?k4 ?a5 ?i5 ?l5 ?c5 ?k5 ?a6 ?i6 ?l6 ?c6 ?k6 ?a7 ?i7 ?l7 ?c7 ?k7 ?a8 ?l8 ?c8 ?k8 ?a9 ?l9 ?c9 ?k9 ?a10 ?l10 ?c10 ?k10 ?a11 ?l11 ?c11 ?k11 ?a12 ?l12 ?c12 ?k12 ?a13 ?l13 ?c13 ?k13 ?a14 ?l14 ?c14 ?k14 ?a15 ?l15 ?c15 ?k15 ?a16 ?l16 ?c16 ?k16 ?a17 ?l17 ?c17 ?k17 ?a18 ?l18 ?c18 ?k18 ?a19 ?l19 ?c19 ?k19 ?a20 ?l20 ?c20 ?k20 ?a21 ?l21 ?c21 ?k21 ?a22 ?l22 ?c22 ?k22 ?a23 ?l23 ?c23 ?k23 ?z_len ?z_abs ?z_int ?z_str ?z_tuple ?z_list ?z_range ?z_isinstance ?z_sorted ?z_set ?z_sum ?z_any ?z_all ?z_min ?z_max ?z_dict ?z_repr ?z_iter ?z_zip ?z_enumerate ?z_bool ?z_ValueError ?g_gcd
    (case aC0 => k_is)
    (case pg0 => k_is)
    (case hd0 => k_is)
    (case po0 => k_is)
    (case sa0 => k_is)
    (case mk0 => k_is)
    (case kc0 => k_is)
    (case n0_lows => k_is)
    (case n0_highs => k_is)
    (case n0_row_many => k_is)
    (case n0_places => k_is)
    (case n0_column_rows => k_is)
    (case n0_aim_row => k_is)
    (case n0_slack_rows => k_is)
    (case a0 => k_is)
    (case l0 => k_is)
    (case c0 => k_is)
    (case k0 => k_is)
    (case a1 => k_is)
    (case i1 => k_is)
    (case l1 => k_is)
    (case c1 => k_is)
    (case k1 => k_is)
    (case a2 => k_is)
    (case l2 => k_is)
    (case c2 => k_is)
    (case k2 => k_is)
    (case a3 => k_is)
    (case i3 => k_is)
    (case l3 => k_is)
    (case c3 => k_is)
    (case k3 => k_is)
    (case a4 => k_is)
    (case i4 => k_is)
    (case l4 => k_is)
    (case c4 => k_is)
    (case k4 => k_is)
    (case a5 => k_is)
    (case i5 => k_is)
    (case l5 => k_is)
    (case c5 => k_is)
    (case k5 => k_is)
    (case a6 => k_is)
    (case i6 => k_is)
    (case l6 => k_is)
    (case c6 => k_is)
    (case k6 => k_is)
    (case a7 => k_is)
    (case i7 => k_is)
    (case l7 => k_is)
    (case c7 => k_is)
    (case k7 => k_is)
    (case a8 => k_is)
    (case l8 => k_is)
    (case c8 => k_is)
    (case k8 => k_is)
    (case a9 => k_is)
    (case l9 => k_is)
    (case c9 => k_is)
    (case k9 => k_is)
    (case a10 => k_is)
    (case l10 => k_is)
    (case c10 => k_is)
    (case k10 => k_is)
    (case a11 => k_is)
    (case l11 => k_is)
    (case c11 => k_is)
    (case k11 => k_is)
    (case a12 => k_is)
    (case l12 => k_is)
    (case c12 => k_is)
    (case k12 => k_is)
    (case a13 => k_is)
    (case l13 => k_is)
    (case c13 => k_is)
    (case k13 => k_is)
    (case a14 => k_is)
    (case l14 => k_is)
    (case c14 => k_is)
    (case k14 => k_is)
    (case a15 => k_is)
    (case l15 => k_is)
    (case c15 => k_is)
    (case k15 => k_is)
    (case a16 => k_is)
    (case l16 => k_is)
    (case c16 => k_is)
    (case k16 => k_is)
    (case a17 => k_is)
    (case l17 => k_is)
    (case c17 => k_is)
    (case k17 => k_is)
    (case a18 => k_is)
    (case l18 => k_is)
    (case c18 => k_is)
    (case k18 => k_is)
    (case a19 => k_is)
    (case l19 => k_is)
    (case c19 => k_is)
    (case k19 => k_is)
    (case a20 => k_is)
    (case l20 => k_is)
    (case c20 => k_is)
    (case k20 => k_is)
    (case a21 => k_is)
    (case l21 => k_is)
    (case c21 => k_is)
    (case k21 => k_is)
    (case a22 => k_is)
    (case l22 => k_is)
    (case c22 => k_is)
    (case k22 => k_is)
    (case a23 => k_is)
    (case l23 => k_is)
    (case c23 => k_is)
    (case k23 => k_is)
    (case z_len => k_is)
    (case z_abs => k_is)
    (case z_int => k_is)
    (case z_str => k_is)
    (case z_tuple => k_is)
    (case z_list => k_is)
    (case z_range => k_is)
    (case z_isinstance => k_is)
    (case z_sorted => k_is)
    (case z_set => k_is)
    (case z_sum => k_is)
    (case z_any => k_is)
    (case z_all => k_is)
    (case z_min => k_is)
    (case z_max => k_is)
    (case z_dict => k_is)
    (case z_repr => k_is)
    (case z_iter => k_is)
    (case z_zip => k_is)
    (case z_enumerate => k_is)
    (case z_bool => k_is)
    (case z_ValueError => k_is)
    (case g_gcd => k_is)
#print axioms PySem.Challenge.cw_commonground_k41_new_tableau_holds

