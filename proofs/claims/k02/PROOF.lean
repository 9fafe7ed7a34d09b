import PyProof.Rows.All
import Wide.All
import OpenK.AllK
import Wide.FinOn
import HandS.ForMost
import HandS.ForExc
import HandS.IsInst
import HandS.Gcd
import HandS.Zip
import HandS.Rev
import HandS.RevRange
import HandS.TupAny
import HandS.TupMul
import HandS.Style
import HandS.Flow
import HandS.Wide
import HandS.Deep
import HandS.Lambda
import HandS.ExcIs
import HandS.EndTab
import KE.KLam
import KE.GoesEnum
import KE.GoesMore
import HandS.CallRecv
import HandS.WideBits
import KE.KStateDown
import HandS.Head0
import HandS.Head1
import HandS.Head2
import HandS.HeadHook1
import HandS.HeadHook2
import HandS.HeadHook3
import HandS.HeadHook4
import HandS.Head3
import PySem.Challenge.RW_homesteps_k02_whole_numbers_told_of_anyt
set_option Elab.async false
set_option linter.all false
set_option maxRecDepth 100000
/-! A small evaluator of our own for the defs that the laws reach: data, cells, answers. Tuples are plain data here; lists, dicts and instances lie in cells. -/
namespace HS
open PySem L2

/-- data: a cell by its number; a list that is only read (the script) -/
inductive D where
  | non | bl (b : Bool) | int (i : Int) | str (s : Str) | tup (xs : List D) | fz (xs : List D) | ref (n : Nat) | ty (n : String) | cls (k : Nat)
instance : Inhabited D := ⟨.non⟩

/-- a cell: a list of ours, a dict, an instance of the class k -/
inductive C where
  | lst (xs : List D) | dic (kvs : List (D × D)) | ins (k : Nat) (fs : List (Str × D))
abbrev Hh := List C
abbrev En := List (Option D)

/-- an exception: the class k, its fields -/
structure X where
  k : Nat
  fs : List (Str × D)

/-- an answer: a value, an exception, or nothing is said -/
inductive R (α : Type) where
  | ok (a : α) (h : Hh) | ex (e : X) (h : Hh) | bad

def R.bind {α β : Type} (r : R α) (f : α → Hh → R β) : R β :=
  match r with
  | .ok a h => f a h
  | .ex e h => .ex e h
  | .bad => .bad
@[simp] theorem R.bind_ok {α β : Type} (a : α) (h : Hh) (f : α → Hh → R β) : (R.ok a h).bind f = f a h := rfl
@[simp] theorem R.bind_ex {α β : Type} (e : X) (h : Hh) (f : α → Hh → R β) : (R.ex e h : R α).bind f = .ex e h := rfl
@[simp] theorem R.bind_bad {α β : Type} (f : α → Hh → R β) : (R.bad : R α).bind f = .bad := rfl
/-- an exception is not served here -/
def R.calm {α : Type} (r : R α) : R α := match r with | .ex _ _ => .bad | r => r
@[simp] theorem R.calm_ok {α : Type} (a : α) (h : Hh) : (R.ok a h).calm = .ok a h := rfl
@[simp] theorem R.calm_bad {α : Type} : (R.bad : R α).calm = .bad := rfl

/-! ### no cell within -/
mutual
def D.flat : D → Bool
  | .ref _ => false
  | .tup xs => D.flats xs
  | .fz xs => D.flats xs
  | _ => true
def D.flats : List D → Bool
  | [] => true
  | d :: ds => d.flat && D.flats ds
end
theorem D.flats_iff : ∀ ds : List D, D.flats ds = true ↔ ∀ d ∈ ds, d.flat = true
  | [] => by simp [D.flats]
  | d :: ds => by simp [D.flats, D.flats_iff ds]

/-! ### data through the cells, as the library's own data -/
mutual
def D.deepW (rd : Nat → Option PyData) : D → Option PyData
  | .non => some .none
  | .bl b => some (.bool b)
  | .int i => some (.int i)
  | .str s => some (.str s)
  | .tup xs => match D.deepsW rd xs with
    | some ys => some (.tuple ys)
    | none => none
  | .fz xs => match D.deepsW rd xs with
    | some ys => some (.list ys)
    | none => none
  | .ref k => rd k
  | .ty _ => none
  | .cls _ => none
def D.deepsW (rd : Nat → Option PyData) : List D → Option (List PyData)
  | [] => some []
  | d :: ds => match D.deepW rd d, D.deepsW rd ds with
    | some x, some xs => some (x :: xs)
    | _, _ => none
end
/-- lists within lists to the depth n -/
def deepR (h : Hh) : Nat → Nat → Option PyData
  | 0, _ => none
  | n + 1, k => match h[k]? with
    | some (.lst xs) => match D.deepsW (deepR h n) xs with
      | some ys => some (.list ys)
      | none => none
    | some (.dic []) => some (.dict [])
    | _ => none
def D.deep (h : Hh) (d : D) : Option PyData := d.deepW (deepR h 8)

/-! ### the syntax -/
inductive BO where | add | sub | mul | fdiv | mod | pow | shl
  deriving DecidableEq
inductive BF where
  | len | abs | int | divmod | gcd | tuple | list | sum | max | min | all | any | repr | sorted | comb
  deriving DecidableEq
/-- a class that isinstance asks for: built in, or the k-th own one -/
inductive Ty where | b (n : String) | own (k : Nat)
  deriving DecidableEq
/-- of the package's classes of errors the one is the other one, or stands under it: 0 is the base of all -/
def subC (k j : Nat) : Bool := decide (k = j) || decide (j = 0)
/-- how a def tells of a call that it makes: its text, or what it found; else a word -/
inductive Tk where
  | rep (k1 k2 : Nat) (s1 s2 : Str) | fnd (k : Nat) (s : Str)
  deriving DecidableEq
mutual
inductive E where
  | var (i : Nat) | int (n : Int) | bl (b : Bool) | non | str (s : Str) | glb (k : Nat)
  | bin (o : BO) (a b : E) | neg (a : E) | not (a : E)
  | cmp (o : CmpOp) (a b : E) | cmp2 (o p : CmpOp) (a b c : E)
  | and (a b : E) | or (a b : E)
  | ife (c a b : E)
  | tup (es : Es) | lst (es : Es) | dic0
  | idx (a b : E) | slc (a : E) (lo hi : Op)
  | call (f : Nat) (es : Es) | callk (f : Nat) (es : Es) (ks : List Nat) (vs : Es)
  | blt (b : BF) (es : Es)
  | isi (a : E) (t : Ty)
  | lc (elt : E) (t : T) (it : It) (tt : Op) (own : List Nat)
  | app (l a : E)
  | rsl (a : E) (lo : Op)
  | told (t : Tk) (e : E)
  | bits (a : E)
  | new (k f : Nat) (es : Es) | att (a : E) (x : Str) | mth (a : E) (k f : Nat) (x : Str) (es : Es)
inductive Es where
  | nil | cons (e : E) (es : Es)
inductive Op where
  | no | so (e : E)
/-- what a loop walks -/
inductive It where
  | pln (e : E) | rng (es : Es) | enm (e : E) | zip (a b : E) | rev (e : E) | rrng (es : Es)
inductive T where
  | nm (i : Nat) | tup (ts : Ts) | sub (a i : E)
inductive Ts where
  | nil | cons (t : T) (ts : Ts)
end
mutual
inductive S where
  | asg (t : T) (e : E)
  | exp (e : E) | ret (e : E) | retn
  | ife (c : E) (a b : Ss) | whl (c : E) (b : Ss) | fr (t : T) (it : It) (b : Ss)
  | brk | cnt | pas | never
  | rse (k : Nat)
  | sat (o : E) (x : Str) (e : E)
inductive Ss where
  | nil | cons (s : S) (ss : Ss)
end

/-! ### what the operations tell -/
def big : Nat := 100000000
/-- a product: the bits of both factors together have a bound -/
def mulOk (a b : Int) : Bool := decide (a.natAbs.log2 + b.natAbs.log2 < big)
def lineOk (n : Nat) : Bool := decide (n ≤ sizeLine)

def alloc (c : C) (h : Hh) : R D := .ok (.ref h.length) (h ++ [c])
/-- a list's items -/
def listAt (h : Hh) (n : Nat) : Option (List D) := match h[n]? with
  | some (.lst xs) => some xs
  | _ => none

def bop (o : BO) (x y : D) (h : Hh) : R D :=
  match o, x, y with
  | .add, .int a, .int b => .ok (.int (a + b)) h
  | .sub, .int a, .int b => .ok (.int (a - b)) h
  | .sub, .bl a, .bl b => .ok (.int ((if a = true then 1 else 0) - (if b = true then 1 else 0))) h
  | .mul, .int a, .int b => if mulOk a b then .ok (.int (a * b)) h else .bad
  | .fdiv, .int a, .int b => if b ≠ 0 ∧ Builtin.divisionGoesByPylong a b = false then .ok (.int (a.fdiv b)) h else .bad
  | .mod, .int a, .int b => if b ≠ 0 then .ok (.int (a.fmod b)) h else .bad
  | .pow, .int a, .int b => if 0 ≤ b ∧ b ≤ 1000000 ∧ a.natAbs < 2 ^ 64 then .ok (.int (a ^ b.toNat)) h else .bad
  | .shl, .int a, .int b => if 0 ≤ b ∧ b ≤ 1000000 ∧ a.natAbs < 2 ^ 64 then .ok (.int (a * 2 ^ b.toNat)) h else .bad
  | .add, .str a, .str b => if lineOk (a.length + b.length) then .ok (.str (a ++ b)) h else .bad
  | .add, .tup a, .tup b => if lineOk (a.length + b.length) then .ok (.tup (a ++ b)) h else .bad
  | .add, .ref l, .ref b => match h[l]?, h[b]? with
    | some (.lst xs), some (.lst ys) => if lineOk (xs.length + ys.length) then alloc (.lst (xs ++ ys)) h else .bad
    | _, _ => .bad
  | .mul, .ref l, .int k => match h[l]? with
    | some (.lst xs) => if -(2 ^ 63) ≤ k ∧ k < 2 ^ 63 ∧ lineOk (xs.length * k.toNat) = true then alloc (.lst (List.replicate k.toNat xs).flatten) h else .bad
    | _ => .bad
  | .mul, .tup xs, .int k => if xs ≠ [] ∧ 0 ≤ k ∧ k ≤ 1000 ∧ xs.length ≤ 1000 then .ok (.tup (List.replicate k.toNat xs).flatten) h else .bad
  | _, _, _ => .bad

/-- lists of unlike lengths are not like -/
def lenNe (h : Hh) : D → D → Option Bool
  | .ref n, .ref m => match h[n]?, h[m]? with
    | some (.lst xs), some (.lst ys) => if xs.length ≠ ys.length then some false else none
    | _, _ => none
  | _, _ => none
def eqD (h : Hh) (x y : D) : Option Bool :=
  match x, y with
  | .int a, .int b => some (decide (a = b))
  | .str a, .str b => some (decide (a = b))
  | .bl a, .bl b => some (decide (a = b))
  | x, y => match x.deep h, y.deep h with
    | some a, some b => if SeqAt.shaped a = true ∧ SeqAt.shaped b = true then some (PyData.eqv a b) else lenNe h x y
    | _, _ => lenNe h x y
/-- ints alone -/
def intsOf : List D → Option (List Int)
  | [] => some []
  | .int i :: ds => match intsOf ds with
    | some r => some (i :: r)
    | none => none
  | _ => none
def blsOf : List D → Option (List Bool)
  | [] => some []
  | .bl i :: ds => match blsOf ds with
    | some r => some (i :: r)
    | none => none
  | _ => none
def isNon : D → Bool
  | .non => true
  | _ => false
def cmpD (o : CmpOp) (x y : D) (h : Hh) : R D :=
  match o with
  | .Eq => match eqD h x y with | some b => .ok (.bl b) h | none => .bad
  | .NotEq => match eqD h x y with | some b => .ok (.bl (!b)) h | none => .bad
  | .Is => match y with
    | .bl b => match x with
      | .bl a => .ok (.bl (decide (a = b))) h
      | _ => .bad
    | _ => if isNon y then .ok (.bl (isNon x)) h else .bad
  | .IsNot => if isNon y then .ok (.bl (!isNon x)) h else .bad
  | .Lt => match x, y with
    | .int a, .int b => .ok (.bl (decide (a < b))) h
    | .tup a, .tup b => match intsOf a, intsOf b with
      | some ns, some ms => .ok (.bl (HT.lexLt ns ms)) h
      | _, _ => .bad
    | _, _ => .bad
  | .LtE => match x, y with
    | .int a, .int b => .ok (.bl (decide (a ≤ b))) h
    | _, _ => .bad
  | .Gt => match x, y with
    | .int a, .int b => .ok (.bl (decide (b < a))) h
    | _, _ => .bad
  | .GtE => match x, y with
    | .int a, .int b => .ok (.bl (decide (b ≤ a))) h
    | _, _ => .bad
  | .In => match x.deep h, y.deep h with
    | some a, some (.list ds) => if SeqAt.shaped a = true ∧ SeqAt.shaped (.list ds) = true then .ok (.bl (ds.any fun z => PyData.eqv z a)) h else .bad
    | some a, some (.tuple ds) => if SeqAt.shaped a = true ∧ SeqAt.shaped (.tuple ds) = true then .ok (.bl (ds.any fun z => PyData.eqv z a)) h else .bad
    | _, _ => .bad
  | .NotIn => match x.deep h, y.deep h with
    | some a, some (.list ds) => if SeqAt.shaped a = true ∧ SeqAt.shaped (.list ds) = true then .ok (.bl (!ds.any fun z => PyData.eqv z a)) h else .bad
    | some a, some (.tuple ds) => if SeqAt.shaped a = true ∧ SeqAt.shaped (.tuple ds) = true then .ok (.bl (!ds.any fun z => PyData.eqv z a)) h else .bad
    | _, _ => .bad

def ixD (x y : D) (h : Hh) : R D :=
  match x, y with
  | .tup xs, .int i => match atI xs i with | some v => .ok v h | none => .bad
  | .fz xs, .int i => match atI xs i with | some v => .ok v h | none => .bad
  | .ref n, .int i => match listAt h n with
    | some xs => match atI xs i with | some v => .ok v h | none => .bad
    | none => .bad
  | _, _ => .bad
/-- a slice's part of any list -/
def cutD (xs : List D) (lo hi : Option Int) : List D := (xs.drop (HT.sIx xs.length 0 lo)).take (HT.sIx xs.length xs.length hi - HT.sIx xs.length 0 lo)
def slD (x : D) (lo hi : Option Int) (h : Hh) : R D :=
  match x with
  | .tup xs => .ok (.tup (cutD xs lo hi)) h
  | .fz xs => alloc (.lst (cutD xs lo hi)) h
  | .ref n => match listAt h n with
    | some xs => alloc (.lst (cutD xs lo hi)) h
    | none => .bad
  | _ => .bad
/-- the type by which isinstance goes -/
def tyD (h : Hh) : D → Option String
  | .non => some "NoneType"
  | .bl _ => some "bool"
  | .int _ => some "int"
  | .str _ => some "str"
  | .tup _ => some "tuple"
  | .fz _ => some "list"
  | .ref n => match h[n]? with
    | some (.lst _) => some "list"
    | some (.dic _) => some "dict"
    | _ => none
  | _ => none
def isiD (h : Hh) (x : D) (t : Ty) : R D :=
  match t with
  | .b n => match tyD h x with
    | some m => match kitB m n with | some b => .ok (.bl b) h | none => .bad
    | none => .bad
  | .own _ => .bad

/-- the greatest, the first of the like ones -/
def maxOf : List Int → Int
  | [] => 0
  | [x] => x
  | x :: xs => if maxOf xs > x then maxOf xs else x
def minOf : List Int → Int
  | [] => 0
  | [x] => x
  | x :: xs => if minOf xs < x then minOf xs else x
def bltD (b : BF) (xs : List D) (h : Hh) : R D :=
  match b, xs with
  | .len, [.tup ys] => .ok (.int ys.length) h
  | .len, [.fz ys] => .ok (.int ys.length) h
  | .len, [.ref n] => match listAt h n with | some ys => .ok (.int ys.length) h | none => .bad
  | .abs, [.int i] => .ok (.int (if i < 0 then -i else i)) h
  | .int, [.int i] => .ok (.int i) h
  | .int, [.bl k] => .ok (.int (if k then 1 else 0)) h
  | .divmod, [.int i, .int j] => if 0 < j ∧ j < 1073741824 then .ok (.tup [.int (i / j), .int (i % j)]) h else .bad
  | .gcd, [.int i, .int j] => .ok (.int (Nat.gcd i.natAbs j.natAbs : Nat)) h
  | .tuple, [.tup ys] => .ok (.tup ys) h
  | .tuple, [.ref n] => match listAt h n with | some ys => .ok (.tup ys) h | none => .bad
  | .list, [.tup ys] => alloc (.lst ys) h
  | .list, [.ref n] => match listAt h n with | some ys => alloc (.lst ys) h | none => .bad
  | .sum, [.ref n] => match listAt h n with
    | some ys => match intsOf ys with | some ns => .ok (.int ns.sum) h | none => .bad
    | none => .bad
  | .max, [.int i, .int j] => .ok (.int (if j > i then j else i)) h
  | .min, [.int i, .int j] => .ok (.int (if j < i then j else i)) h
  | .max, [.ref n] => match listAt h n with
    | some ys => match intsOf ys with | some ns => if ns = [] then .bad else .ok (.int (maxOf ns)) h | none => .bad
    | none => .bad
  | .min, [.ref n] => match listAt h n with
    | some ys => match intsOf ys with | some ns => if ns = [] then .bad else .ok (.int (minOf ns)) h | none => .bad
    | none => .bad
  | .all, [.ref n] => match listAt h n with
    | some ys => match blsOf ys with | some bs => .ok (.bl (bs.all id)) h | none => .bad
    | none => .bad
  | .any, [.ref n] => match listAt h n with
    | some ys => match blsOf ys with | some bs => .ok (.bl (bs.any id)) h | none => .bad
    | none => .bad
  | .repr, [x] => match x.deep h with
    | some d => if d.showable = true ∧ d.shown.length ≤ sizeLine ∧ d.depth ≤ 60 then .ok (.str d.shown) h else .bad
    | none => .bad
  | _, _ => .bad

/-- how many items xs[lo::-1] has -/
def rIx (n : Nat) : Option Int → Nat
  | none => n
  | some v => ((if v < 0 then max (v + (n : Int)) (-1) else min v ((n : Int) - 1)) + 1).toNat
def rslD (x : D) (lo : Option Int) (h : Hh) : R D :=
  match x with
  | .ref n => match listAt h n with
    | some xs => alloc (.lst (xs.take (rIx xs.length lo)).reverse) h
    | none => .bad
  | _ => .bad
def toldR (t : Tk) (r : R D) : R D :=
  match t, r with
  | .rep _ _ _ _, .ok x h => bltD .repr [x] h
  | .rep k1 k2 s1 s2, .ex y h => if subC y.k k1 = true ∧ y.fs = [] then .ok (.str (if subC y.k k2 = true then s1 else s2)) h else .bad
  | .fnd _ _, .ok x h => .ok x h
  | .fnd k s, .ex y h => if subC y.k k = true then .ok (.str s) h else .bad
  | _, .bad => .bad
/-- what stands guard: lists that a loop walks -/
abbrev Gs := List (Nat × List D)
def gsOk (gs : Gs) (h : Hh) : Prop := ∀ p ∈ gs, listAt h p.1 = some p.2
theorem gsOk_nil (h : Hh) : gsOk [] h := fun p hp => nomatch hp
def small62 (i : Int) : Bool := decide (-(2 ^ 62) ≤ i ∧ i < 2 ^ 62)
/-- lo, lo + 1, .. -/
def upFrom (lo : Int) (n : Nat) : List D := (List.range n).map fun k => .int (lo + (k : Nat))
def downFrom (hi : Int) (n : Nat) : List D := (List.range n).map fun k => .int (hi + (k : Nat) * (-1))
def pairs (xs ys : List D) : List D := (xs.zip ys).map fun p => .tup [p.1, p.2]
def numbered (xs : List D) : List D := (xs.zipIdx).map fun p => .tup [.int p.2, p.1]
/-- the items of a thing, what stands guard for them -/
def itemsD (x : D) (h : Hh) : R (List D × Gs) :=
  match x with
  | .tup xs => .ok (xs, []) h
  | .fz xs => .ok (xs, []) h
  | .ref n => match listAt h n with
    | some xs => .ok (xs, [(n, xs)]) h
    | none => .bad
  | _ => .bad
def rngD (xs : List D) (h : Hh) : R (List D × Gs) :=
  match xs with
  | [.int j] => if small62 j then .ok (upFrom 0 j.toNat, []) h else .bad
  | [.int i, .int j] => if small62 i && small62 j then .ok (upFrom i (j - i).toNat, []) h else .bad
  | [.int i, .int j, .int (-1)] => if small62 i && small62 j then .ok (downFrom i (i - j).toNat, []) h else .bad
  | _ => .bad
def rrngD (xs : List D) (h : Hh) : R (List D × Gs) :=
  match xs with
  | [.int j] => if small62 j then .ok (downFrom (((j.toNat : Nat) : Int) - 1) j.toNat, []) h else .bad
  | [.int i, .int j] => if small62 i && small62 j then .ok (downFrom (i + (((j - i).toNat : Nat) : Int) - 1) (j - i).toNat, []) h else .bad
  | _ => .bad

/-! ### the evaluator -/
/-- what a def tells: arguments, cells -/
abbrev Fn := List D → Hh → R D
/-- no slot of these -/
def wipeD (ρ : En) : List Nat → En
  | [] => ρ
  | v :: vs => (wipeD ρ vs).set v none
def asBl (d : D) (h : Hh) : R Bool := match d with | .bl b => .ok b h | _ => .bad
def getI (d : D) (h : Hh) : R (Option Int) := match d with | .int i => .ok (some i) h | _ => .bad

open Classical in
/-- a comprehension's turns: el tells the new item, none where it is left out; the new list is made at the end -/
noncomputable def lcL (gs : Gs) (el : D → Hh → R (Option D)) : List D → List D → Hh → R D
  | [], acc, h => if gsOk gs h ∧ acc.length ≤ sizeLine then alloc (.lst acc) h else .bad
  | d :: ds, acc, h => if gsOk gs h ∧ acc.length < sizeLine then (el d h).bind fun o h1 => match o with
      | some y => lcL gs el ds (acc ++ [y]) h1
      | none => lcL gs el ds acc h1
    else .bad

def setI (o i v : D) (h : Hh) : R Unit :=
  match o, i with
  | .ref n, .int k => match h[n]? with
    | some (.lst xs) => match ixN xs.length k with
      | some j => .ok () (h.set n (.lst (xs.set j v)))
      | none => .bad
    | _ => .bad
  | _, _ => .bad
/-- a list of ours -/
def lstOk (x : D) (h : Hh) : R D :=
  match x with
  | .ref n => match h[n]? with
    | some (.lst _) => .ok (.ref n) h
    | _ => .bad
  | _ => .bad
def app (l v : D) (h : Hh) : R D :=
  match l with
  | .ref n => match h[n]? with
    | some (.lst xs) => if xs.length < sizeLine then .ok .non (h.set n (.lst (xs ++ [v]))) else .bad
    | _ => .bad
  | _ => .bad

/-- an attribute of an instance -/
def bitD (x : D) (h : Hh) : R D := match x with
  | .int i => .ok (.int (Builtin.Int.intBits i : Nat)) h
  | _ => .bad
def attD (x : D) (f : Str) (h : Hh) : R D :=
  match x with
  | .ref n => match h[n]? with
    | some (.ins _ fs) => match fs.lookup f with
      | some v => .ok v h
      | none => .bad
    | _ => .bad
  | _ => .bad
def putFd (f : Str) (v : D) : List (Str × D) → List (Str × D)
  | [] => [(f, v)]
  | (g, u) :: r => if g = f then (g, v) :: r else (g, u) :: putFd f v r
/-- o.f = v -/
def satD (o : D) (f : Str) (v : D) (h : Hh) : R Unit :=
  match o with
  | .ref n => match h[n]? with
    | some (.ins k fs) => if fs.length < 1000 then .ok () (h.set n (.ins k (putFd f v fs))) else .bad
    | _ => .bad
  | _ => .bad
/-- an instance of the class k without the attribute x -/
def insOk (k : Nat) (x : Str) (o : D) (h : Hh) : Bool :=
  match o with
  | .ref n => match h[n]? with
    | some (.ins j fs) => decide (j = k) && (fs.lookup x).isNone
    | _ => false
  | _ => false
mutual
noncomputable def ev (Δ : Nat → Fn) (gl : Nat → D) : E → En → Hh → R D
  | .var i, ρ, h => match ρ[i]? with
    | some (some d) => .ok d h
    | _ => .bad
  | .int n, _, h => .ok (.int n) h
  | .bl b, _, h => .ok (.bl b) h
  | .non, _, h => .ok .non h
  | .str s, _, h => .ok (.str s) h
  | .glb k, _, h => .ok (gl k) h
  | .bin o a b, ρ, h => (ev Δ gl a ρ h).bind fun x h => (ev Δ gl b ρ h).bind fun y h => bop o x y h
  | .neg a, ρ, h => (ev Δ gl a ρ h).bind fun x h => match x with | .int i => .ok (.int (-i)) h | _ => .bad
  | .not a, ρ, h => (ev Δ gl a ρ h).bind fun x h => match x with | .bl b => .ok (.bl (!b)) h | _ => .bad
  | .cmp o a b, ρ, h => (ev Δ gl a ρ h).bind fun x h => (ev Δ gl b ρ h).bind fun y h => cmpD o x y h
  | .cmp2 o p a b c, ρ, h => (ev Δ gl a ρ h).bind fun x h => (ev Δ gl b ρ h).bind fun y h => (cmpD o x y h).bind fun r h => match r with
    | .bl true => (ev Δ gl c ρ h).bind fun z h => cmpD p y z h
    | .bl false => .ok (.bl false) h
    | _ => .bad
  | .and a b, ρ, h => (ev Δ gl a ρ h).bind fun x h => match x with | .bl true => ev Δ gl b ρ h | .bl false => .ok (.bl false) h | _ => .bad
  | .or a b, ρ, h => (ev Δ gl a ρ h).bind fun x h => match x with | .bl false => ev Δ gl b ρ h | .bl true => .ok (.bl true) h | _ => .bad
  | .ife c a b, ρ, h => (ev Δ gl c ρ h).bind fun x h => match x with | .bl true => ev Δ gl a ρ h | .bl false => ev Δ gl b ρ h | _ => .bad
  | .tup es, ρ, h => (evs Δ gl es ρ h).bind fun xs h => if lineOk xs.length then .ok (.tup xs) h else .bad
  | .lst es, ρ, h => (evs Δ gl es ρ h).bind fun xs h => if lineOk xs.length then alloc (.lst xs) h else .bad
  | .dic0, _, h => alloc (.dic []) h
  | .idx a b, ρ, h => (ev Δ gl a ρ h).bind fun x h => (ev Δ gl b ρ h).bind fun y h => ixD x y h
  | .slc a lo hi, ρ, h => (ev Δ gl a ρ h).bind fun x h => (evo Δ gl lo ρ h).bind fun l h => (evo Δ gl hi ρ h).bind fun u h => slD x l u h
  | .call f es, ρ, h => (evs Δ gl es ρ h).bind fun xs h => Δ f xs h
  | .callk f es ks vs, ρ, h => (evs Δ gl es ρ h).bind fun xs h => (evs Δ gl vs ρ h).bind fun ys h => Δ f (xs ++ ks.map fun k => ys.getD k .non) h
  | .blt b es, ρ, h => (evs Δ gl es ρ h).bind fun xs h => bltD b xs h
  | .isi a t, ρ, h => (ev Δ gl a ρ h).bind fun x h => isiD h x t
  | .lc elt t it tt own, ρ, h => (evi Δ gl it ρ h).bind fun p h => lcL p.2 (fun d h => ((asn Δ gl t d (wipeD ρ own) h).bind fun ρ1 h => (evt Δ gl tt ρ1 h).bind fun b h =>
      if b = true then (ev Δ gl elt ρ1 h).bind fun y h => .ok (some y) h else .ok none h).calm) p.1 [] h
  | .app l a, ρ, h => (ev Δ gl l ρ h).bind fun x h => (lstOk x h).bind fun x h => (ev Δ gl a ρ h).bind fun y h => app x y h
  | .rsl a lo, ρ, h => (ev Δ gl a ρ h).bind fun x h => (evo Δ gl lo ρ h).bind fun l h => rslD x l h
  | .told t e, ρ, h => toldR t (ev Δ gl e ρ h)
  | .new k f es, ρ, h => (evs Δ gl es ρ h).bind fun xs h => (Δ f (.ref h.length :: xs) (h ++ [.ins k []])).bind fun d h1 => if isNon d then .ok (.ref h.length) h1 else .bad
  | .bits a, ρ, h => (ev Δ gl a ρ h).bind fun x h => bitD x h
  | .att a x, ρ, h => (ev Δ gl a ρ h).bind fun o h => attD o x h
  | .mth a k f x es, ρ, h => (ev Δ gl a ρ h).bind fun o h => if insOk k x o h then (evs Δ gl es ρ h).bind fun xs h => Δ f (o :: xs) h else .bad
noncomputable def evs (Δ : Nat → Fn) (gl : Nat → D) : Es → En → Hh → R (List D)
  | .nil, _, h => .ok [] h
  | .cons e es, ρ, h => (ev Δ gl e ρ h).bind fun x h => (evs Δ gl es ρ h).bind fun xs h => .ok (x :: xs) h
/-- a slice's end -/
noncomputable def evo (Δ : Nat → Fn) (gl : Nat → D) : Op → En → Hh → R (Option Int)
  | .no, _, h => .ok none h
  | .so e, ρ, h => (ev Δ gl e ρ h).bind fun x h => getI x h
/-- a comprehension's if -/
noncomputable def evt (Δ : Nat → Fn) (gl : Nat → D) : Op → En → Hh → R Bool
  | .no, _, h => .ok true h
  | .so e, ρ, h => (ev Δ gl e ρ h).bind fun x h => asBl x h
noncomputable def evi (Δ : Nat → Fn) (gl : Nat → D) : It → En → Hh → R (List D × Gs)
  | .pln e, ρ, h => (ev Δ gl e ρ h).bind fun x h => itemsD x h
  | .rng es, ρ, h => (evs Δ gl es ρ h).bind fun xs h => rngD xs h
  | .enm e, ρ, h => (ev Δ gl e ρ h).bind fun x h => (itemsD x h).bind fun p h => .ok (numbered p.1, p.2) h
  | .zip a b, ρ, h => (ev Δ gl a ρ h).bind fun x h => (ev Δ gl b ρ h).bind fun y h => (itemsD x h).bind fun p h => (itemsD y h).bind fun q h => .ok (pairs p.1 q.1, p.2 ++ q.2) h
  | .rev e, ρ, h => (ev Δ gl e ρ h).bind fun x h => (itemsD x h).bind fun p h => .ok (p.1.reverse, p.2) h
  | .rrng es, ρ, h => (evs Δ gl es ρ h).bind fun xs h => rrngD xs h
noncomputable def asn (Δ : Nat → Fn) (gl : Nat → D) : T → D → En → Hh → R En
  | .nm i, d, ρ, h => .ok (ρ.set i (some d)) h
  | .tup ts, d, ρ, h => match d with | .tup xs => asns Δ gl ts xs ρ h | _ => .bad
  | .sub a i, d, ρ, h => (ev Δ gl a ρ h).bind fun o h => (ev Δ gl i ρ h).bind fun k h => (setI o k d h).bind fun _ h => .ok ρ h
noncomputable def asns (Δ : Nat → Fn) (gl : Nat → D) : Ts → List D → En → Hh → R En
  | .nil, xs, ρ, h => match xs with | [] => .ok ρ h | _ => .bad
  | .cons t ts, xs, ρ, h => match xs with | x :: xs => (asn Δ gl t x ρ h).bind fun ρ h => asns Δ gl ts xs ρ h | [] => .bad
end

/-- a statement's end -/
inductive F where
  | nx (ρ : En) | rt (d : D) | bk (ρ : En) | ct (ρ : En) | xc (e : X) (ρ : En)
def R.toF {α : Type} (r : R α) (ρ : En) (k : α → Hh → R F) : R F :=
  match r with
  | .ok a h => k a h
  | .ex e h => .ok (.xc e ρ) h
  | .bad => .bad
@[simp] theorem R.toF_ok {α : Type} (a : α) (h : Hh) (ρ : En) (k : α → Hh → R F) : (R.ok a h).toF ρ k = k a h := rfl
@[simp] theorem R.toF_ex {α : Type} (e : X) (h : Hh) (ρ : En) (k : α → Hh → R F) : (R.ex e h : R α).toF ρ k = .ok (.xc e ρ) h := rfl
@[simp] theorem R.toF_bad {α : Type} (ρ : En) (k : α → Hh → R F) : (R.bad : R α).toF ρ k = .bad := rfl

open Classical in
noncomputable def forL (gs : Gs) (tg : D → En → Hh → R En) (bd : En → Hh → R F) : List D → En → Hh → R F
  | [], ρ, h => if gsOk gs h then .ok (.nx ρ) h else .bad
  | d :: ds, ρ, h => if gsOk gs h then (tg d ρ h).calm.bind fun ρ1 h1 => (bd ρ1 h1).bind fun f h2 => match f with
      | .nx ρ2 => forL gs tg bd ds ρ2 h2
      | .ct ρ2 => forL gs tg bd ds ρ2 h2
      | .bk ρ2 => .ok (.nx ρ2) h2
      | .rt d => .ok (.rt d) h2
      | .xc e ρ2 => .ok (.xc e ρ2) h2
    else .bad
/-- a while, at most n turns -/
def whN (c : En → Hh → R Bool) (bd : En → Hh → R F) : Nat → En → Hh → Option (R F)
  | 0, _, _ => none
  | n + 1, ρ, h => match c ρ h with
    | .ok true h1 => match bd ρ h1 with
      | .ok (.nx ρ2) h2 => whN c bd n ρ2 h2
      | .ok (.ct ρ2) h2 => whN c bd n ρ2 h2
      | .ok (.bk ρ2) h2 => some (.ok (.nx ρ2) h2)
      | .ok (.rt d) h2 => some (.ok (.rt d) h2)
      | .ok (.xc e ρ2) h2 => some (.ok (.xc e ρ2) h2)
      | .ex _ _ => some .bad
      | .bad => some .bad
    | .ok false h1 => some (.ok (.nx ρ) h1)
    | .ex e h1 => some (.ok (.xc e ρ) h1)
    | .bad => some .bad
open Classical in
/-- a while that comes to an end -/
noncomputable def whL (c : En → Hh → R Bool) (bd : En → Hh → R F) (ρ : En) (h : Hh) : R F :=
  if x : ∃ n r, whN c bd n ρ h = some r then (Classical.choose_spec x).choose else .bad

mutual
noncomputable def ex (Δ : Nat → Fn) (gl : Nat → D) : S → En → Hh → R F
  | .asg t e, ρ, h => (ev Δ gl e ρ h).toF ρ fun d h => (asn Δ gl t d ρ h).calm.toF ρ fun ρ1 h => .ok (.nx ρ1) h
  | .exp e, ρ, h => (ev Δ gl e ρ h).toF ρ fun _ h => .ok (.nx ρ) h
  | .ret e, ρ, h => (ev Δ gl e ρ h).toF ρ fun d h => .ok (.rt d) h
  | .retn, _, h => .ok (.rt .non) h
  | .ife c a b, ρ, h => ((ev Δ gl c ρ h).bind asBl).toF ρ fun t h => if t = true then exs Δ gl a ρ h else exs Δ gl b ρ h
  | .whl c b, ρ, h => whL (fun ρ h => (ev Δ gl c ρ h).bind asBl) (fun ρ h => exs Δ gl b ρ h) ρ h
  | .fr t it b, ρ, h => (evi Δ gl it ρ h).toF ρ fun p h => forL p.2 (fun d ρ h => asn Δ gl t d ρ h) (fun ρ h => exs Δ gl b ρ h) p.1 ρ h
  | .brk, ρ, h => .ok (.bk ρ) h
  | .cnt, ρ, h => .ok (.ct ρ) h
  | .pas, ρ, h => .ok (.nx ρ) h
  | .never, _, _ => .bad
  | .rse k, ρ, h => .ok (.xc ⟨k, []⟩ ρ) h
  | .sat o x e, ρ, h => (ev Δ gl e ρ h).toF ρ fun v h => (ev Δ gl o ρ h).toF ρ fun a h => (satD a x v h).calm.toF ρ fun _ h => .ok (.nx ρ) h
noncomputable def exs (Δ : Nat → Fn) (gl : Nat → D) : Ss → En → Hh → R F
  | .nil, ρ, h => .ok (.nx ρ) h
  | .cons s ss, ρ, h => (ex Δ gl s ρ h).bind fun f h => match f with
    | .nx ρ1 => exs Δ gl ss ρ1 h
    | f => .ok f h
end

open Classical in
/-- what a def hands back: cells that it made and nobody can reach are left out -/
noncomputable def tidy (h0 : Hh) (d : D) (h : Hh) : R D :=
  if d.flat = true ∧ h0 <+: h then .ok d h0
  else match d with
    | .ref n => match h[n]? with
      | some (.lst xs) => if D.flats xs = true ∧ h0 <+: h ∧ h0.length ≤ n then .ok (.ref h0.length) (h0 ++ [.lst xs]) else .ok d h
      | _ => .ok d h
    | _ => .ok d h
/-- a def: the number of its parameters, of its slots, its body -/
structure Df where
  np : Nat
  ns : Nat
  body : Ss
noncomputable def run (Δ : Nat → Fn) (gl : Nat → D) (f : Df) : Fn := fun xs h0 =>
  if xs.length = f.np then
    match exs Δ gl f.body (xs.map some ++ List.replicate (f.ns - xs.length) none) h0 with
    | .ok (.rt d) h => tidy h0 d h
    | .ok (.nx _) h => tidy h0 .non h
    | .ok (.xc e _) h => .ex e h
    | _ => .bad
  else .bad
end HS

/-! How the evaluator's data and cells lie in the layer's heap. -/
namespace HS
open PySem L2

/-- a list that nobody changes: known to its object, or an object of the module -/
def SqF (K : PySem.W.Frag) (H : Hp) (a : Addr) (vs : List V) : Prop :=
  (∃ o, H a = some (.frz o (.lst vs))) ∨
    ∃ (o : Obj) (its : Array Value) (n : Nat), K.lookup a = some o ∧ o.cls = .type "list" ∧ o.dict = none ∧ o.data = .seq its n ∧ its.size ≤ sizeLine ∧ Vals vs its.toList
theorem SqF.l {K : PySem.W.Frag} {H : Hp} {a : Addr} {vs : List V} (h : SqF K H a vs) : SqL K H a vs := by
  rcases h with ⟨o, h⟩ | h
  · exact .inl (.inr ⟨o, h⟩)
  · exact .inr h

/-- the module's own: where its classes lie; the tables of code objects -/
structure Md where
  c : Nat → Option Addr
  T : List (Addr × Str)
  cs : List (Addr × Addr)
  i : Nat → Option Addr := fun _ => none
section
variable (K : PySem.W.Frag) (cl : Md)
mutual
/-- d lies as v; μ: where the cells lie; cl: where the own classes lie -/
def Rl (H : Hp) (μ : List Addr) : D → V → Prop
  | .non, v => v = .non
  | .bl b, v => v = .bl b
  | .int i, v => v = .int i
  | .str s, v => v = .str s
  | .ty n, v => v = .ty n
  | .cls k, v => ∃ a, v = .ref a ∧ cl.c k = some a
  | .tup xs, v => ∃ a vs, v = .ref a ∧ SqT K H a vs ∧ Rls H μ xs vs
  | .fz xs, v => ∃ a vs, v = .ref a ∧ SqF K H a vs ∧ Rls H μ xs vs
  | .ref n, v => ∃ a, v = .ref a ∧ μ[n]? = some a
def Rls (H : Hp) (μ : List Addr) : List D → List V → Prop
  | [], vs => vs = []
  | d :: ds, vs => ∃ v r, vs = v :: r ∧ Rl H μ d v ∧ Rls H μ ds r
end
/-- a cell -/
def RlC (H : Hp) (μ : List Addr) (a : Addr) : C → Prop
  | .lst xs => ∃ vs, H a = some (.lst vs) ∧ Rls K cl H μ xs vs
  | .dic kvs => kvs = [] ∧ H a = some (.dK [])
  | .ins k fs => ∃ C dx vs, cl.i k = some C ∧ H a = some (.ins C dx vs) ∧ H dx = some (.own a) ∧ fs.map (·.1) = vs.map (·.1) ∧ Rls K cl H μ (fs.map (·.2)) (vs.map (·.2))
structure RlH (H : Hp) (μ : List Addr) (h : Hh) : Prop where
  tb : LamX.Tabs cl.T H
  len : μ.length = h.length
  nd : μ.Nodup
  at_ : ∀ (n : Nat) (c : C) (a : Addr), h[n]? = some c → μ[n]? = some a → RlC K cl H μ a c
/-- the slots -/
structure RlE (H : Hp) (μ : List Addr) (σ : L2.St) (ρ : En) : Prop where
  len : σ.length = ρ.length
  at_ : ∀ (i : Nat) (d : D), ρ[i]? = some (some d) → ∃ v, σ[i]? = some (some v) ∧ Rl K cl H μ d v
end
/-- what never changes stands -/
structure Tp (H H' : Hp) : Prop where
  tup : ∀ b xs, H b = some (.tup xs) → H' b = some (.tup xs)
  frz : ∀ b o u, H b = some (.frz o u) → H' b = some (.frz o u)
  own : ∀ b y, H b = some (.own y) → H' b = some (.own y)
theorem Tp.refl {H : Hp} : Tp H H := ⟨fun _ _ e => e, fun _ _ _ e => e, fun _ _ e => e⟩
theorem Tp.trans {H H' H'' : Hp} (a : Tp H H') (b : Tp H' H'') : Tp H H'' := ⟨fun x xs e => b.tup x xs (a.tup x xs e), fun x o u e => b.frz x o u (a.frz x o u e), fun x y e => b.own x y (a.own x y e)⟩
theorem Tp.sqT {K : PySem.W.Frag} {H H' : Hp} (t : Tp H H') {a : Addr} {vs : List V} (h : SqT K H a vs) : SqT K H' a vs := by
  rcases h with (h | ⟨o, h⟩) | h
  · exact .inl (.inl (t.tup _ _ h))
  · exact .inl (.inr ⟨o, t.frz _ _ _ h⟩)
  · exact .inr h
theorem Tp.sqF {K : PySem.W.Frag} {H H' : Hp} (t : Tp H H') {a : Addr} {vs : List V} (h : SqF K H a vs) : SqF K H' a vs := by
  rcases h with ⟨o, h⟩ | h
  · exact .inl ⟨o, t.frz _ _ _ h⟩
  · exact .inr h

section
variable {K : PySem.W.Frag} {cl : Md} {H H' H'' : Hp} {μ μ' μ'' : List Addr}
theorem pre_get {α : Type} {l l' : List α} (p : l <+: l') {n : Nat} {x : α} (h : l[n]? = some x) : l'[n]? = some x := by
  obtain ⟨t, rfl⟩ := p
  have := (List.getElem?_eq_some_iff.mp h).1
  rw [List.getElem?_append_left this]
  exact h
mutual
theorem Rl.mono (t : Tp H H') (p : μ <+: μ') : ∀ {d : D} {v : V}, Rl K cl H μ d v → Rl K cl H' μ' d v
  | .non, _, h => h
  | .bl _, _, h => h
  | .int _, _, h => h
  | .str _, _, h => h
  | .ty _, _, h => h
  | .cls _, _, h => h
  | .tup xs, _, h => by
    simp only [Rl] at h ⊢
    obtain ⟨a, vs, e, s, r⟩ := h
    exact ⟨a, vs, e, t.sqT s, Rls.mono t p r⟩
  | .fz xs, _, h => by
    simp only [Rl] at h ⊢
    obtain ⟨a, vs, e, s, r⟩ := h
    exact ⟨a, vs, e, t.sqF s, Rls.mono t p r⟩
  | .ref _, _, h => by
    simp only [Rl] at h ⊢
    obtain ⟨a, e, m⟩ := h
    exact ⟨a, e, pre_get p m⟩
theorem Rls.mono (t : Tp H H') (p : μ <+: μ') : ∀ {ds : List D} {vs : List V}, Rls K cl H μ ds vs → Rls K cl H' μ' ds vs
  | [], _, h => by
    simp only [Rls] at h ⊢
    exact h
  | d :: ds, _, h => by
    simp only [Rls] at h ⊢
    obtain ⟨v, r, e, h1, h2⟩ := h
    exact ⟨v, r, e, Rl.mono t p h1, Rls.mono t p h2⟩
end
-- cells that are left out: what has none stays
mutual
theorem Rl.flat : ∀ {d : D} {v : V}, d.flat = true → Rl K cl H μ d v → Rl K cl H μ' d v
  | .non, _, _, h => h
  | .bl _, _, _, h => h
  | .int _, _, _, h => h
  | .str _, _, _, h => h
  | .ty _, _, _, h => h
  | .cls _, _, _, h => h
  | .tup xs, _, f, h => by
    simp only [Rl] at h ⊢
    obtain ⟨a, vs, e, s, r⟩ := h
    exact ⟨a, vs, e, s, Rls.flat (by simpa [D.flat] using f) r⟩
  | .fz xs, _, f, h => by
    simp only [Rl] at h ⊢
    obtain ⟨a, vs, e, s, r⟩ := h
    exact ⟨a, vs, e, s, Rls.flat (by simpa [D.flat] using f) r⟩
  | .ref _, _, f, _ => by simp [D.flat] at f
theorem Rls.flat : ∀ {ds : List D} {vs : List V}, D.flats ds = true → Rls K cl H μ ds vs → Rls K cl H μ' ds vs
  | [], _, _, h => by
    simp only [Rls] at h ⊢
    exact h
  | d :: ds, _, f, h => by
    simp only [Rls] at h ⊢
    simp only [D.flats, Bool.and_eq_true] at f
    obtain ⟨v, r, e, h1, h2⟩ := h
    exact ⟨v, r, e, Rl.flat f.1 h1, Rls.flat f.2 h2⟩
end
-- cells that are left out behind: what was told before them stays
mutual
theorem Rl.back (p : μ <+: μ') : ∀ {d : D} {v v0 : V}, Rl K cl H' μ' d v → Rl K cl H μ d v0 → Rl K cl H' μ d v
  | .non, _, _, h, _ => h
  | .bl _, _, _, h, _ => h
  | .int _, _, _, h, _ => h
  | .str _, _, _, h, _ => h
  | .ty _, _, _, h, _ => h
  | .cls _, _, _, h, _ => h
  | .tup xs, _, _, h, g => by
    simp only [Rl] at h g ⊢
    obtain ⟨a, vs, e, s, r⟩ := h
    obtain ⟨_, _, _, _, r0⟩ := g
    exact ⟨a, vs, e, s, Rls.back p r r0⟩
  | .fz xs, _, _, h, g => by
    simp only [Rl] at h g ⊢
    obtain ⟨a, vs, e, s, r⟩ := h
    obtain ⟨_, _, _, _, r0⟩ := g
    exact ⟨a, vs, e, s, Rls.back p r r0⟩
  | .ref n, _, _, h, g => by
    simp only [Rl] at h g ⊢
    obtain ⟨a, e, m⟩ := h
    obtain ⟨b, _, m0⟩ := g
    have q := pre_get p m0
    rw [m] at q
    cases q
    exact ⟨a, e, m0⟩
theorem Rls.back (p : μ <+: μ') : ∀ {ds : List D} {vs vs0 : List V}, Rls K cl H' μ' ds vs → Rls K cl H μ ds vs0 → Rls K cl H' μ ds vs
  | [], _, _, h, _ => by
    simp only [Rls] at h ⊢
    exact h
  | d :: ds, _, _, h, g => by
    simp only [Rls] at h g ⊢
    obtain ⟨v, r, e, h1, h2⟩ := h
    obtain ⟨_, _, _, g1, g2⟩ := g
    exact ⟨v, r, e, Rl.back p h1 g1, Rls.back p h2 g2⟩
end
theorem Rls.nil {vs : List V} : Rls K cl H μ [] vs ↔ vs = [] := by simp [Rls]
theorem Rls.cons {d : D} {ds : List D} {vs : List V} : Rls K cl H μ (d :: ds) vs ↔ ∃ v r, vs = v :: r ∧ Rl K cl H μ d v ∧ Rls K cl H μ ds r := by simp [Rls]
theorem Rls.length : ∀ {ds : List D} {vs : List V}, Rls K cl H μ ds vs → ds.length = vs.length
  | [], _, h => by rw [Rls.nil] at h; subst h; rfl
  | d :: ds, _, h => by
    rw [Rls.cons] at h
    obtain ⟨v, r, rfl, _, h2⟩ := h
    simp [Rls.length h2]
theorem Rls.get : ∀ {ds : List D} {vs : List V} {i : Nat} {d : D}, Rls K cl H μ ds vs → ds[i]? = some d → ∃ v, vs[i]? = some v ∧ Rl K cl H μ d v
  | [], _, _, _, _, e => by simp at e
  | x :: ds, _, 0, d, h, e => by
    rw [Rls.cons] at h
    obtain ⟨v, r, rfl, h1, _⟩ := h
    simp at e
    subst e
    exact ⟨v, rfl, h1⟩
  | x :: ds, _, i + 1, d, h, e => by
    rw [Rls.cons] at h
    obtain ⟨v, r, rfl, _, h2⟩ := h
    obtain ⟨u, e1, r1⟩ := Rls.get h2 (show ds[i]? = some d by simpa using e)
    exact ⟨u, by simpa using e1, r1⟩
theorem Rls.append : ∀ {ds es : List D} {vs ws : List V}, Rls K cl H μ ds vs → Rls K cl H μ es ws → Rls K cl H μ (ds ++ es) (vs ++ ws)
  | [], _, _, _, h, g => by rw [Rls.nil] at h; subst h; exact g
  | d :: ds, es, _, ws, h, g => by
    rw [Rls.cons] at h
    obtain ⟨v, r, rfl, h1, h2⟩ := h
    rw [List.cons_append, Rls.cons]
    exact ⟨v, r ++ ws, rfl, h1, Rls.append h2 g⟩
theorem Rls.take : ∀ {ds : List D} {vs : List V} (n : Nat), Rls K cl H μ ds vs → Rls K cl H μ (ds.take n) (vs.take n)
  | _, _, 0, _ => by simp [Rls]
  | [], _, n + 1, h => by rw [Rls.nil] at h; subst h; simp [Rls]
  | d :: ds, _, n + 1, h => by
    rw [Rls.cons] at h
    obtain ⟨v, r, rfl, h1, h2⟩ := h
    rw [List.take_succ_cons, List.take_succ_cons, Rls.cons]
    exact ⟨v, _, rfl, h1, Rls.take n h2⟩
theorem Rls.drop : ∀ {ds : List D} {vs : List V} (n : Nat), Rls K cl H μ ds vs → Rls K cl H μ (ds.drop n) (vs.drop n)
  | _, _, 0, h => h
  | [], _, n + 1, h => by rw [Rls.nil] at h; subst h; simp [Rls]
  | d :: ds, _, n + 1, h => by
    rw [Rls.cons] at h
    obtain ⟨v, r, rfl, h1, h2⟩ := h
    exact Rls.drop n h2
theorem Rls.set {d : D} {v : V} (g : Rl K cl H μ d v) : ∀ {ds : List D} {vs : List V} (n : Nat), Rls K cl H μ ds vs → Rls K cl H μ (ds.set n d) (vs.set n v)
  | [], _, _, h => by rw [Rls.nil] at h; subst h; simp [Rls]
  | x :: ds, _, 0, h => by
    rw [Rls.cons] at h
    obtain ⟨u, r, rfl, h1, h2⟩ := h
    rw [List.set_cons_zero, List.set_cons_zero, Rls.cons]
    exact ⟨v, r, rfl, g, h2⟩
  | x :: ds, _, n + 1, h => by
    rw [Rls.cons] at h
    obtain ⟨u, r, rfl, h1, h2⟩ := h
    rw [List.set_cons_succ, List.set_cons_succ, Rls.cons]
    exact ⟨u, _, rfl, h1, Rls.set g n h2⟩
theorem Rls.one {d : D} {v : V} (h : Rl K cl H μ d v) : Rls K cl H μ [d] [v] := by
  rw [Rls.cons]; exact ⟨v, [], rfl, h, by simp [Rls]⟩
theorem Rls.rep {ds : List D} {vs : List V} (h : Rls K cl H μ ds vs) : ∀ n : Nat, Rls K cl H μ (List.replicate n ds).flatten (List.replicate n vs).flatten
  | 0 => by simp [Rls]
  | n + 1 => by
    rw [List.replicate_succ, List.replicate_succ, List.flatten_cons, List.flatten_cons]
    exact h.append (Rls.rep h n)
theorem Rls.ints : ∀ {ns : List Int} {vs : List V}, Rls K cl H μ (ns.map D.int) vs ↔ vs = ns.map V.int
  | [], vs => by simp [Rls]
  | n :: ns, vs => by
    rw [List.map_cons, Rls.cons]
    constructor
    · rintro ⟨v, r, rfl, h1, h2⟩
      have h1 : v = V.int n := by simpa [Rl] using h1
      rw [Rls.ints] at h2
      rw [h1, h2]; rfl
    · rintro rfl
      exact ⟨_, _, rfl, by simp [Rl], Rls.ints.mpr rfl⟩
theorem intsOf_map : ∀ {ds : List D} {ns : List Int}, intsOf ds = some ns → ds = ns.map D.int
  | [], ns, h => by simp [intsOf] at h; subst h; rfl
  | .int i :: ds, ns, h => by
    simp only [intsOf] at h
    split at h
    · rename_i r e
      cases h
      rw [intsOf_map e]; rfl
    · cases h
  | .non :: _, _, h => by simp [intsOf] at h
  | .bl _ :: _, _, h => by simp [intsOf] at h
  | .str _ :: _, _, h => by simp [intsOf] at h
  | .ty _ :: _, _, h => by simp [intsOf] at h
  | .cls _ :: _, _, h => by simp [intsOf] at h
  | .tup _ :: _, _, h => by simp [intsOf] at h
  | .fz _ :: _, _, h => by simp [intsOf] at h
  | .ref _ :: _, _, h => by simp [intsOf] at h
theorem intsOf_ints : ∀ ns : List Int, intsOf (ns.map D.int) = some ns
  | [] => rfl
  | n :: ns => by simp [intsOf, intsOf_ints ns]
theorem Rls.bls : ∀ {ns : List Bool} {vs : List V}, Rls K cl H μ (ns.map D.bl) vs → vs = ns.map V.bl
  | [], vs, h => by simpa [Rls] using h
  | n :: ns, vs, h => by
    rw [List.map_cons, Rls.cons] at h
    obtain ⟨v, r, rfl, h1, h2⟩ := h
    have h1 : v = V.bl n := by simpa [Rl] using h1
    rw [h1, Rls.bls h2]; rfl
theorem blsOf_map : ∀ {ds : List D} {ns : List Bool}, blsOf ds = some ns → ds = ns.map D.bl
  | [], ns, h => by simp [blsOf] at h; subst h; rfl
  | .bl i :: ds, ns, h => by
    simp only [blsOf] at h
    split at h
    · rename_i r e
      cases h
      rw [blsOf_map e]; rfl
    · cases h
  | .non :: _, _, h => by simp [blsOf] at h
  | .int _ :: _, _, h => by simp [blsOf] at h
  | .str _ :: _, _, h => by simp [blsOf] at h
  | .ty _ :: _, _, h => by simp [blsOf] at h
  | .cls _ :: _, _, h => by simp [blsOf] at h
  | .tup _ :: _, _, h => by simp [blsOf] at h
  | .fz _ :: _, _, h => by simp [blsOf] at h
  | .ref _ :: _, _, h => by simp [blsOf] at h
theorem blsOf_bls : ∀ ns : List Bool, blsOf (ns.map D.bl) = some ns
  | [] => rfl
  | n :: ns => by simp [blsOf, blsOf_bls ns]

theorem RlE.mono {σ : L2.St} {ρ : En} (e : RlE K cl H μ σ ρ) (t : Tp H H') (p : μ <+: μ') : RlE K cl H' μ' σ ρ :=
  ⟨e.len, fun i d q => let ⟨v, a, b⟩ := e.at_ i d q; ⟨v, a, b.mono t p⟩⟩
theorem RlE.set {σ : L2.St} {ρ : En} {d : D} {v : V} (e : RlE K cl H μ σ ρ) (r : Rl K cl H μ d v) (i : Nat) : RlE K cl H μ (σ.set i (some v)) (ρ.set i (some d)) := by
  refine ⟨by simp [e.len], fun j x q => ?_⟩
  by_cases hj : i = j
  · subst hj
    by_cases hi : i < ρ.length
    · rw [List.getElem?_set_self hi] at q
      cases q
      exact ⟨v, by rw [List.getElem?_set_self (by rw [e.len]; exact hi)], r⟩
    · rw [List.getElem?_eq_none (by simpa using hi)] at q
      cases q
  · rw [List.getElem?_set_ne hj] at q ⊢
    exact e.at_ j x q
theorem RlE.unset {σ : L2.St} {ρ : En} (e : RlE K cl H μ σ ρ) (i : Nat) : RlE K cl H μ (σ.set i none) (ρ.set i none) := by
  refine ⟨by simp [e.len], fun j x q => ?_⟩
  by_cases hj : i = j
  · subst hj
    by_cases hi : i < ρ.length
    · rw [List.getElem?_set_self hi] at q
      cases q
    · rw [List.getElem?_eq_none (by simpa using hi)] at q
      cases q
  · rw [List.getElem?_set_ne hj] at q ⊢
    exact e.at_ j x q
theorem RlE.wipe {σ : L2.St} {ρ : En} (e : RlE K cl H μ σ ρ) : ∀ vs : List Nat, RlE K cl H μ (wipe σ vs) (wipeD ρ vs)
  | [] => e
  | v :: vs => (RlE.wipe e vs).unset v
theorem RlE.start {ds : List D} {vs : List V} (r : Rls K cl H μ ds vs) (n : Nat) : RlE K cl H μ (vs.map some ++ List.replicate (n - vs.length) none) (ds.map some ++ List.replicate (n - ds.length) none) := by
  have l := r.length
  refine ⟨by simp [l], fun i d q => ?_⟩
  by_cases hi : i < ds.length
  · rw [List.getElem?_append_left (by simpa using hi), List.getElem?_map] at q
    cases e : ds[i]? with
    | none => rw [e] at q; cases q
    | some x =>
      rw [e] at q
      cases q
      obtain ⟨v, e1, r1⟩ := r.get e
      exact ⟨v, by rw [List.getElem?_append_left (by simp; omega), List.getElem?_map, e1]; rfl, r1⟩
  · rw [List.getElem?_append_right (by simpa using hi), List.getElem?_replicate] at q
    split at q <;> cases q

/-! ### tables of code objects -/
theorem tabs_new {T : List (Addr × Str)} {H : Hp} {p : Addr} {o : HO} (t : LamX.Tabs T H) (n : H p = none) : LamX.Tabs T (upd H p o) := t.ext fun b x e => by rw [upd_ne (ne_of_none e n)]; exact e
theorem tabs_upd {T : List (Addr × Str)} {H : Hp} {a : Addr} {u o : HO} (t : LamX.Tabs T H) (e : H a = some u) (h1 : ∀ ps, u ≠ .tbl ps) (h2 : ∀ φ, u ≠ .ext φ) : LamX.Tabs T (upd H a o) := fun p hp => by
  obtain ⟨ps, a1, a2, a3⟩ := t p hp
  refine ⟨ps, ?_, a2, fun pos cv hc => ?_⟩
  · rw [upd_ne (fun z => by rw [z, e] at a1; exact h1 _ (Option.some.inj a1))]; exact a1
  · obtain ⟨c, e1, e2⟩ := a3 pos cv hc
    exact ⟨c, e1, by rw [upd_ne (fun z => by rw [z, e] at e2; exact h2 _ (Option.some.inj e2))]; exact e2⟩
/-- no thing that is known, but a table -/
def NoT (H : Hp) (a : Addr) : Prop := H a = none ∨ ∃ ps, H a = some (.tbl ps)

/-! ### a step -/
/-- from the heap H with the cells at μ to H' with the cells h' at μ' -/
structure Go (K : PySem.W.Frag) (cl : Md) (μ : List Addr) (H : Hp) (h' : Hh) (μ' : List Addr) (H' : Hp) : Prop where
  pre : μ <+: μ'
  tp : Tp H H'
  fr : ∀ a o, a ∉ μ → (∀ ps, o ≠ .tbl ps) → H a = some o → H' a = some o
  nw : ∀ a ∈ μ', a ∈ μ ∨ NoT H a
  rh : RlH K cl H' μ' h'
theorem Go.refl {h : Hh} (r : RlH K cl H μ h) : Go K cl μ H h μ H := ⟨List.prefix_rfl, .refl, fun _ _ _ _ e => e, fun _ m => .inl m, r⟩
theorem Go.trans {h' h'' : Hh} (a : Go K cl μ H h' μ' H') (b : Go K cl μ' H' h'' μ'' H'') : Go K cl μ H h'' μ'' H'' where
  pre := a.pre.trans b.pre
  tp := a.tp.trans b.tp
  fr := fun x o n nt e => b.fr x o (fun m => (a.nw x m).elim n fun m => by
    rcases m with m | ⟨ps, m⟩
    · rw [e] at m; cases m
    · rw [e] at m; exact nt ps (Option.some.inj m)) nt (a.fr x o n nt e)
  nw := fun x m => by
    rcases b.nw x m with m | m
    · exact a.nw x m
    · by_cases hx : x ∈ μ
      · exact .inl hx
      · refine .inr ?_
        cases e : H x with
        | none => exact .inl e
        | some o =>
          by_cases nt : ∀ ps, o ≠ .tbl ps
          · have z := a.fr x o hx nt e
            rcases m with m | ⟨ps, m⟩
            · rw [z] at m; cases m
            · rw [z] at m; exact absurd (Option.some.inj m) (nt ps)
          · obtain ⟨ps, z⟩ : ∃ ps, o = .tbl ps := Classical.byContradiction fun k => nt fun ps z => k ⟨ps, z⟩
            exact .inr ⟨ps, by rw [e, z]⟩
  rh := b.rh
theorem Tp.upd_new {p : Addr} {o : HO} (n : H p = none) : Tp H (upd H p o) := ⟨fun b xs e => by rw [upd_ne (ne_of_none e n)]; exact e, fun b x u e => by rw [upd_ne (ne_of_none e n)]; exact e, fun b y e => by rw [upd_ne (ne_of_none e n)]; exact e⟩
theorem Tp.upd_mut {p : Addr} {o u : HO} (e : H p = some u) (m : Mut (some u)) : Tp H (upd H p o) := by
  refine ⟨fun b xs q => ?_, fun b x y q => ?_, fun b y q => ?_⟩
  · have n : b ≠ p := fun z => by rw [z, e] at q; cases q; exact m
    rw [upd_ne n]; exact q
  · have n : b ≠ p := fun z => by rw [z, e] at q; cases q; exact m
    rw [upd_ne n]; exact q
  · have n : b ≠ p := fun z => by rw [z, e] at q; cases q; exact m
    rw [upd_ne n]; exact q
theorem RlC.there {a : Addr} {c : C} (r : RlC K cl H μ a c) : ∃ o, H a = some o := by
  cases c with
  | lst xs => exact ⟨_, r.choose_spec.1⟩
  | dic kvs => exact ⟨_, r.2⟩
  | ins _ _ => obtain ⟨C, dx, vs, _, q, _⟩ := r; exact ⟨_, q⟩
theorem RlC.mono {a : Addr} {c : C} (t : Tp H H') (p : μ <+: μ') (r : RlC K cl H μ a c) (e : H' a = H a) : RlC K cl H' μ' a c := by
  cases c with
  | lst xs => obtain ⟨vs, q, r⟩ := r; exact ⟨vs, by rw [e]; exact q, r.mono t p⟩
  | dic kvs => exact ⟨r.1, by rw [e]; exact r.2⟩
  | ins _ _ => obtain ⟨C, dx, vs, q0, q, q1, q2, r⟩ := r; exact ⟨C, dx, vs, q0, by rw [e]; exact q, t.own _ _ q1, q2, r.mono t p⟩
theorem RlH.fresh {h : Hh} (r : RlH K cl H μ h) {p : Addr} (n : H p = none) : p ∉ μ := fun m => by
  obtain ⟨i, hi⟩ := List.getElem?_of_mem m
  have hl : i < h.length := by rw [← r.len]; exact (List.getElem?_eq_some_iff.mp hi).1
  obtain ⟨o, e⟩ := (r.at_ i h[i] p (by simp [hl]) hi).there
  rw [n] at e; cases e
/-- nothing but a new thing that is no cell -/
theorem Go.new {h : Hh} {p : Addr} {o : HO} (r : RlH K cl H μ h) (n : H p = none) : Go K cl μ H h μ (upd H p o) := by
  have t : Tp H (upd H p o) := Tp.upd_new n
  refine ⟨List.prefix_rfl, t, fun a x _ _ e => by rw [upd_ne (ne_of_none e n)]; exact e, fun _ m => .inl m, tabs_new r.tb n, r.len, r.nd, fun m c a e1 e2 => ?_⟩
  have q := r.at_ m c a e1 e2
  obtain ⟨x, ex⟩ := q.there
  exact q.mono t List.prefix_rfl (by rw [upd_ne (ne_of_none ex n)])
/-- a new cell -/
theorem Go.alloc {h : Hh} {p : Addr} {o : HO} {c : C} (r : RlH K cl H μ h) (n : H p = none) (rc : RlC K cl (upd H p o) μ p c) : Go K cl μ H (h ++ [c]) (μ ++ [p]) (upd H p o) := by
  have t : Tp H (upd H p o) := Tp.upd_new n
  have pm := r.fresh n
  refine ⟨List.prefix_append _ _, t, fun a x _ _ e => by rw [upd_ne (ne_of_none e n)]; exact e, fun a m => ?_, tabs_new r.tb n, by simp [r.len], ?_, fun m c' a e1 e2 => ?_⟩
  · rcases List.mem_append.mp m with m | m
    · exact .inl m
    · exact .inr (.inl (by rw [List.mem_singleton.mp m]; exact n))
  · exact List.nodup_append.mpr ⟨r.nd, by simp, fun a ha b hb => fun e => pm (by rw [List.mem_singleton.mp hb] at e; rw [← e]; exact ha)⟩
  · by_cases hm : m < h.length
    · rw [List.getElem?_append_left hm] at e1
      rw [List.getElem?_append_left (by rw [r.len]; exact hm)] at e2
      have q := r.at_ m c' a e1 e2
      obtain ⟨x, ex⟩ := q.there
      exact q.mono t (List.prefix_append _ _) (by rw [upd_ne (ne_of_none ex n)])
    · have em : m = h.length := by
        have := (List.getElem?_eq_some_iff.mp e1).1
        simp at this
        omega
      subst em
      rw [List.getElem?_append_right (Nat.le_refl _)] at e1
      rw [List.getElem?_append_right (by rw [r.len]; exact Nat.le_refl _)] at e2
      simp at e1
      rw [r.len] at e2
      simp at e2
      subst e1 e2
      exact rc.mono .refl (List.prefix_append _ _) rfl
/-- a cell is changed -/
theorem Go.set {h : Hh} {i : Nat} {a : Addr} {o u : HO} {c : C} (r : RlH K cl H μ h) (e : μ[i]? = some a) (eu : H a = some u) (m : Mut (some u)) (mx : ∀ φ, u ≠ .ext φ) (rc : RlC K cl (upd H a o) μ a c) : Go K cl μ H (h.set i c) μ (upd H a o) := by
  have t : Tp H (upd H a o) := Tp.upd_mut eu m
  have ma : a ∈ μ := List.mem_of_getElem? e
  have hi : i < h.length := by rw [← r.len]; exact (List.getElem?_eq_some_iff.mp e).1
  refine ⟨List.prefix_rfl, t, fun b x nb _ q => by rw [upd_ne (fun z => nb (by rw [z]; exact ma))]; exact q, fun _ m => .inl m, tabs_upd r.tb eu (fun ps z => by rw [z] at m; exact m) mx, by simp [r.len], r.nd, fun j c' b e1 e2 => ?_⟩
  by_cases hj : i = j
  · subst hj
    rw [List.getElem?_set_self hi] at e1
    cases e1
    rw [e] at e2; cases e2
    exact rc
  · rw [List.getElem?_set_ne hj] at e1
    have q := r.at_ j c' b e1 e2
    have nb : b ≠ a := fun z => by
      subst z
      obtain ⟨h1, e1'⟩ := List.getElem?_eq_some_iff.mp e
      obtain ⟨h2, e2'⟩ := List.getElem?_eq_some_iff.mp e2
      exact hj ((List.getElem_inj r.nd).mp (e1'.trans e2'.symm))
    exact q.mono t List.prefix_rfl (by rw [upd_ne nb])
end
end HS

/-! A tuple taken once, taken no time at all. -/
namespace L2
open PySem PyProof.Rows
theorem tuple_mul1W (l : Addr) (items : Array Value) (n : Nat) (dd : Option Addr) (sl : Array (Option Value)) (u : Tok) :
    Meets (Builtin.«tuple.__mul__» ⟨[.ref l, .int 1 u], []⟩) (fun _ R s => s.heap.get? l = some { cls := .type "tuple", dict := dd, data := .seq items n, slots := sl } ∧ R (.ok (.ret (Value.ref l))) s) :=
  .of_wp fun prog w A R s h => by
    obtain ⟨hp, g, d, tk, os⟩ := s
    obtain ⟨hl, h⟩ := h
    have f1 := AutoSeq1.idx_int
    have c0 : (decide ((1 : Int) < -(2 ^ 63)) || decide ((1 : Int) ≥ 2 ^ 63)) = false := by decide
    have c1 : (items.isEmpty || (1 : Int) == 1) = true := by cases items.isEmpty <;> rfl
    wp_walk using wpAny_loadPart' hl
    repeat (first
      | (refine wpAny_ite_false (decide_eq_false (by rw [c0]; exact Bool.false_ne_true)) ?_; wp_walk using wpAny_loadPart' hl)
      | (refine wpAny_ite_true (decide_eq_true (by rw [c1])) ?_; wp_walk using wpAny_loadPart' hl))
    exact ⟨_, rfl, h⟩
theorem tuple_mul0W (l : Addr) (items : Array Value) (n : Nat) (dd : Option Addr) (sl : Array (Option Value)) (u : Tok) (hi : items.isEmpty = false) :
    Meets (Builtin.«tuple.__mul__» ⟨[.ref l, .int 0 u], []⟩) (fun _ R s => s.heap.get? l = some { cls := .type "tuple", dict := dd, data := .seq items n, slots := sl } ∧
      R (.ok (.ret (Value.ref s.heap.objs.size))) { s with heap := s.heap.push { cls := Value.type "tuple", data := Data.seq #[] }, toks := s.toks }) :=
  .of_wp fun prog w A R s h => by
    obtain ⟨hp, g, d, tk, os⟩ := s
    obtain ⟨hl, h⟩ := h
    have f1 := AutoSeq1.idx_int
    have c0 : (decide ((0 : Int) < -(2 ^ 63)) || decide ((0 : Int) ≥ 2 ^ 63)) = false := by decide
    have c1 : (items.isEmpty || (0 : Int) == 1) = false := by rw [hi]; rfl
    have c2 : (decide ((0 : Int) ≤ 0) || items.isEmpty) = true := by rw [hi]; rfl
    wp_walk using wpAny_loadPart' hl
    repeat (first
      | (refine wpAny_ite_false (decide_eq_false (by rw [c0]; exact Bool.false_ne_true)) ?_; wp_walk using wpAny_loadPart' hl)
      | (refine wpAny_ite_false (decide_eq_false (by rw [c1]; exact Bool.false_ne_true)) ?_; wp_walk using wpAny_loadPart' hl)
      | (refine wpAny_ite_true (decide_eq_true (by rw [c2])) ?_; wp_walk using wpAny_loadPart' hl))
    exact ⟨_, rfl, h⟩
def rRepT1 (K : PySem.W.Frag) : R2 := fun x y H Q => ∃ l xs, x = .ref l ∧ y = .int 1 ∧ SqT K H l xs ∧ Q (.ref l) H
def rRepT0 (K : PySem.W.Frag) : R2 := fun x y H Q => ∃ l xs, x = .ref l ∧ y = .int 0 ∧ SqT K H l xs ∧ xs ≠ [] ∧ ∀ p, H p = none → Q (.ref p) (upd H p (.tup []))
section
variable {X : Cx}
theorem op_repT1 : OpR X (binaryOp .Mult) (rRepT1 X.K) := by
  intro pins s σ H x y v u Q I rx ry h
  obtain ⟨l, xs, rfl, rfl, hT, q⟩ := h
  cases rx
  obtain ⟨t, rfl⟩ := ry
  obtain ⟨its, r, ⟨⟨cls, dd, data, sl⟩, ho, hc, n, hd⟩, hs⟩ := I.tuple hT
  simp only at hc hd
  subst hc hd
  refine wpAny_binaryOp_repeat_ref (T := "tuple") (U := "int") (by decide) ⟨_, ho, rfl⟩ (fun s' => typeIs_int s' 1 t) noFill_tuple_mul F.fills_int_mul F.slot_int_rmul repeat_tuple F.slot_int_index.lookup
    (call_meets F.slot_int_rmul (typeIs_int s 1 t) F.entry_int_rmul (F.args_int_rmul_2 _ _) (int_rmul_tuple 1 t l its.toArray n dd sl)
      ⟨ho, rfl, ⟨_, ho, rfl⟩, call_meets F.slot_tuple_mul ⟨_, ho, rfl⟩ F.entry_tuple_mul (F.args_tuple_mul_2 _ _) (tuple_mul1W l its.toArray n dd sl t) ⟨ho, ?_⟩⟩)
  exact ⟨.ref l, H, I, rfl, q⟩
theorem op_repT0 : OpR X (binaryOp .Mult) (rRepT0 X.K) := by
  intro pins s σ H x y v u Q I rx ry h
  obtain ⟨l, xs, rfl, rfl, hT, hne, q⟩ := h
  cases rx
  obtain ⟨t, rfl⟩ := ry
  obtain ⟨its, r, ⟨⟨cls, dd, data, sl⟩, ho, hc, n, hd⟩, hs⟩ := I.tuple hT
  simp only at hc hd
  subst hc hd
  have hle : its.length = xs.length := r.length.symm
  have hi : its.toArray.isEmpty = false := by
    cases its with
    | nil => exact absurd (List.eq_nil_of_length_eq_zero hle.symm) hne
    | cons a b => rfl
  refine wpAny_binaryOp_repeat_ref (T := "tuple") (U := "int") (by decide) ⟨_, ho, rfl⟩ (fun s' => typeIs_int s' 0 t) noFill_tuple_mul F.fills_int_mul F.slot_int_rmul repeat_tuple F.slot_int_index.lookup
    (call_meets F.slot_int_rmul (typeIs_int s 0 t) F.entry_int_rmul (F.args_int_rmul_2 _ _) (int_rmul_tuple 0 t l its.toArray n dd sl)
      ⟨ho, rfl, ⟨_, ho, rfl⟩, call_meets F.slot_tuple_mul ⟨_, ho, rfl⟩ F.entry_tuple_mul (F.args_tuple_mul_2 _ _) (tuple_mul0W l its.toArray n dd sl t hi) ⟨ho, ?_⟩⟩)
  refine ⟨.ref s.heap.objs.size, _, I.laid (t' := s.toks) (o := .tup []) (fun b ob q => Heap.get?_push_of_some _ q) (Nat.le_refl _) ?_, rfl, q _ (I.hok.fresh (Nat.le_refl _))⟩
  exact ⟨by rw [sizeLine_eq]; decide, _, .nil, IsTup.new _ _⟩
theorem op_subB : OpR X (binaryOp .Sub) (fun x y H Q => ∃ a b : Bool, x = .bl a ∧ y = .bl b ∧ Q (.int ((if a = true then 1 else 0) - (if b = true then 1 else 0))) H) := by
  intro pins s σ H x y v u Q I rx ry h
  obtain ⟨a, b, rfl, rfl, q⟩ := h
  cases rx
  cases ry
  exact PyProof.Rows.sub_bool ⟨.int _, H, I.tok _, ⟨_, rfl⟩, q⟩
end
end L2

/-! What the operations tell is what the model does: binary operations, comparisons, subscripts, slices, calls of built-in functions. -/
namespace HS
open PySem L2 PyProof.Rows

/-- an answer is met: P behind a value, W behind an exception -/
def Pg {α : Type} (K : PySem.W.Frag) (cl : Md) (μ : List Addr) (H : Hp) (r : R α) (P : α → Hh → List Addr → Hp → Prop) (W : X → Hh → List Addr → Hp → Prop) : Prop :=
  match r with
  | .ok a h' => ∀ μ' H', Go K cl μ H h' μ' H' → P a h' μ' H'
  | .ex e h' => ∀ μ' H', Go K cl μ H h' μ' H' → W e h' μ' H'
  | .bad => False
section
variable {K : PySem.W.Frag} {cl : Md} {H H' : Hp} {μ μ' : List Addr}
theorem Pg.imp {α : Type} {r : R α} {P P' : α → Hh → List Addr → Hp → Prop} {W W' : X → Hh → List Addr → Hp → Prop} (x : Pg K cl μ H r P W) (h : ∀ a h' μ' H', Go K cl μ H h' μ' H' → P a h' μ' H' → P' a h' μ' H') (hw : ∀ e h' μ' H', Go K cl μ H h' μ' H' → W e h' μ' H' → W' e h' μ' H') : Pg K cl μ H r P' W' := by
  cases r with
  | ok a h' => exact fun μ' H' g => h _ _ _ _ g (x μ' H' g)
  | ex e h' => exact fun μ' H' g => hw _ _ _ _ g (x μ' H' g)
  | bad => exact x
theorem Pg.bind {α β : Type} {r : R α} {f : α → Hh → R β} {P : β → Hh → List Addr → Hp → Prop} {W : X → Hh → List Addr → Hp → Prop} (x : Pg K cl μ H (r.bind f) P W) :
    Pg K cl μ H r (fun a h' μ' H' => Pg K cl μ' H' (f a h') P W) W := by
  cases r with
  | ok a h' =>
    refine fun μ' H' g => ?_
    have x' : Pg K cl μ H (f a h') P W := x
    show Pg K cl μ' H' (f a h') P W
    cases e : f a h' with
    | ok b h'' => rw [e] at x'; exact fun μ'' H'' g' => x' μ'' H'' (g.trans g')
    | ex b h'' => rw [e] at x'; exact fun μ'' H'' g' => x' μ'' H'' (g.trans g')
    | bad => rw [e] at x'; exact x'
  | ex e h' => exact x
  | bad => exact x
/-- at another place, a step further on -/
theorem Pg.far {α : Type} {h' : Hh} {r : R α} {P : α → Hh → List Addr → Hp → Prop} {W : X → Hh → List Addr → Hp → Prop} (g : Go K cl μ H h' μ' H') (x : Pg K cl μ H r P W) : Pg K cl μ' H' r P W := by
  cases r with
  | ok a h'' => exact fun μ'' H'' g' => x μ'' H'' (g.trans g')
  | ex e h'' => exact fun μ'' H'' g' => x μ'' H'' (g.trans g')
  | bad => exact x
/-- a value, told by data -/
abbrev VP (K : PySem.W.Frag) (cl : Md) (Q : VK) : D → Hh → List Addr → Hp → Prop := fun d _ μ' H' => ∀ v, Rl K cl H' μ' d v → Q v H'
abbrev NoX : X → Hh → List Addr → Hp → Prop := fun _ _ _ _ => False

/-- an operation by data, as the layer's operations are told -/
def tB2 (K : PySem.W.Frag) (cl : Md) (m : D → D → Hh → R D) : R2 := fun x y H Q => ∃ μ h a b W, RlH K cl H μ h ∧ Rl K cl H μ a x ∧ Rl K cl H μ b y ∧ Pg K cl μ H (m a b h) (VP K cl Q) W
theorem Rl.int_iff {i : Int} {v : V} : Rl K cl H μ (.int i) v ↔ v = .int i := by simp [Rl]
theorem Rl.bl_iff {i : Bool} {v : V} : Rl K cl H μ (.bl i) v ↔ v = .bl i := by simp [Rl]
theorem Rl.str_iff {i : Str} {v : V} : Rl K cl H μ (.str i) v ↔ v = .str i := by simp [Rl]
theorem Rl.non_iff {v : V} : Rl K cl H μ .non v ↔ v = .non := by simp [Rl]
theorem Rl.tup_iff {xs : List D} {v : V} : Rl K cl H μ (.tup xs) v ↔ ∃ a vs, v = .ref a ∧ SqT K H a vs ∧ Rls K cl H μ xs vs := by simp [Rl]
theorem Rl.fz_iff {xs : List D} {v : V} : Rl K cl H μ (.fz xs) v ↔ ∃ a vs, v = .ref a ∧ SqF K H a vs ∧ Rls K cl H μ xs vs := by simp [Rl]
theorem Rl.ref_iff {n : Nat} {v : V} : Rl K cl H μ (.ref n) v ↔ ∃ a, v = .ref a ∧ μ[n]? = some a := by simp [Rl]

/-- a value that needs no cell, nothing else changes -/
theorem Pg.val {h : Hh} {d : D} {v : V} {Q : VK} {W : X → Hh → List Addr → Hp → Prop} (r : RlH K cl H μ h) (x : Pg K cl μ H (.ok d h) (VP K cl Q) W) (q : Rl K cl H μ d v) : Q v H := x μ H (.refl r) v q
/-- a new tuple -/
theorem Pg.tup {h : Hh} {xs : List D} {vs : List V} {p : Addr} {Q : VK} {W : X → Hh → List Addr → Hp → Prop} (r : RlH K cl H μ h) (x : Pg K cl μ H (.ok (.tup xs) h) (VP K cl Q) W) (q : Rls K cl H μ xs vs) (n : H p = none) : Q (.ref p) (upd H p (.tup vs)) :=
  x μ _ (.new r n) _ (Rl.tup_iff.mpr ⟨p, vs, rfl, .of upd_same, q.mono (Tp.upd_new n) List.prefix_rfl⟩)
/-- a new list -/
theorem Pg.lst {h : Hh} {xs : List D} {vs : List V} {p : Addr} {Q : VK} {W : X → Hh → List Addr → Hp → Prop} (r : RlH K cl H μ h) (x : Pg K cl μ H (alloc (.lst xs) h) (VP K cl Q) W) (q : Rls K cl H μ xs vs) (n : H p = none) : Q (.ref p) (upd H p (.lst vs)) := by
  refine x (μ ++ [p]) _ (.alloc r n ⟨vs, upd_same, q.mono (Tp.upd_new n) List.prefix_rfl⟩) _ (Rl.ref_iff.mpr ⟨p, rfl, ?_⟩)
  rw [← r.len]
  simp
/-- a list cell -/
theorem RlH.lst {h : Hh} {n : Nat} {xs : List D} {v : V} (r : RlH K cl H μ h) (e : h[n]? = some (.lst xs)) (q : Rl K cl H μ (.ref n) v) : ∃ a vs, v = .ref a ∧ μ[n]? = some a ∧ H a = some (.lst vs) ∧ Rls K cl H μ xs vs := by
  obtain ⟨a, rfl, m⟩ := Rl.ref_iff.mp q
  obtain ⟨vs, e1, r1⟩ := r.at_ n _ a e m
  exact ⟨a, vs, rfl, m, e1, r1⟩
theorem listAt_eq {h : Hh} {n : Nat} {xs : List D} (e : listAt h n = some xs) : h[n]? = some (.lst xs) := by
  unfold listAt at e
  split at e
  · cases e; assumption
  · cases e
end

section
variable {X : Cx} {cl : Md}
theorem mulOk_ok {a b : Int} (h : mulOk a b = true) : IntMulOk a b := by
  have h1 : a.natAbs.log2 + b.natAbs.log2 < big := of_decide_eq_true h
  have bt : ∀ x : Int, Builtin.Int.intBits x ≤ x.natAbs.log2 + 1 := fun x => by
    unfold Builtin.Int.intBits
    split <;> omega
  have ha := bt a
  have hb := bt b
  have el : bitsLine = 134217728 := by decide
  have eb : big = 100000000 := rfl
  intro z
  rw [Bool.and_eq_true] at z
  have z3 := of_decide_eq_true (show decide _ = true from z.2)
  rw [el] at z3
  omega
theorem opr_mul : OpR X (binaryOp .Mult) (rI (fun i j => mulOk i j = true) fun i j => .int (i * j)) := opI fun _ _ _ _ _ _ _ hc q => PyProof.Rows.mul_int q (mulOk_ok hc)
theorem opr_fdiv : OpR X (binaryOp .FloorDiv) (rI (fun i j => j ≠ 0 ∧ Builtin.divisionGoesByPylong i j = false) fun i j => .int (i.fdiv j)) := opI fun _ _ _ _ _ _ _ hc q => PyProof.Rows.floordiv_int hc.1 q (.inl hc.2)
def boOf : BO → Operator
  | .add => .Add | .sub => .Sub | .mul => .Mult | .fdiv => .FloorDiv | .mod => .Mod | .pow => .Pow | .shl => .LShift
theorem lineOk_le {n : Nat} (h : lineOk n = true) : n ≤ sizeLine := of_decide_eq_true h

theorem opr_bop (o : BO) : OpR X (binaryOp (boOf o)) (tB2 X.K cl (bop o)) := by
  intro pins s σ H x y v u Q I rx ry hh
  obtain ⟨μ, h, a, b, W, rh, ra, rb, pg⟩ := hh
  unfold bop at pg
  split at pg <;> try exact pg.elim
  · rw [Rl.int_iff] at ra rb
    exact op_add pins s σ H x y v u Q I rx ry ⟨_, _, ra, rb, pg.val rh (Rl.int_iff.mpr rfl)⟩
  · rw [Rl.int_iff] at ra rb
    exact op_sub pins s σ H x y v u Q I rx ry ⟨_, _, ra, rb, pg.val rh (Rl.int_iff.mpr rfl)⟩
  · rw [Rl.bl_iff] at ra rb
    exact op_subB pins s σ H x y v u Q I rx ry ⟨_, _, ra, rb, pg.val rh (Rl.int_iff.mpr rfl)⟩
  · rw [Rl.int_iff] at ra rb
    split at pg <;> try exact pg.elim
    exact opr_mul pins s σ H x y v u Q I rx ry ⟨_, _, ra, rb, by assumption, pg.val rh (Rl.int_iff.mpr rfl)⟩
  · rw [Rl.int_iff] at ra rb
    split at pg <;> try exact pg.elim
    exact opr_fdiv pins s σ H x y v u Q I rx ry ⟨_, _, ra, rb, by assumption, pg.val rh (Rl.int_iff.mpr rfl)⟩
  · rw [Rl.int_iff] at ra rb
    split at pg <;> try exact pg.elim
    exact op_modN pins s σ H x y v u Q I rx ry ⟨_, _, ra, rb, by assumption, pg.val rh (Rl.int_iff.mpr rfl)⟩
  · rw [Rl.int_iff] at ra rb
    split at pg <;> try exact pg.elim
    exact op_pow pins s σ H x y v u Q I rx ry ⟨_, _, ra, rb, by assumption, pg.val rh (Rl.int_iff.mpr rfl)⟩
  · rw [Rl.int_iff] at ra rb
    split at pg <;> try exact pg.elim
    exact op_shl pins s σ H x y v u Q I rx ry ⟨_, _, ra, rb, by assumption, pg.val rh (Rl.int_iff.mpr rfl)⟩
  · rw [Rl.str_iff] at ra rb
    split at pg <;> try exact pg.elim
    exact op_add_str pins s σ H x y v u Q I rx ry ⟨_, _, ra, rb, lineOk_le (by assumption), pg.val rh (Rl.str_iff.mpr rfl)⟩
  · obtain ⟨a1, vs, e1, s1, r1⟩ := Rl.tup_iff.mp ra
    obtain ⟨a2, ws, e2, s2, r2⟩ := Rl.tup_iff.mp rb
    split at pg <;> try exact pg.elim
    rename_i hl
    have hl := lineOk_le hl
    rw [r1.length, r2.length] at hl
    refine op_catA pins s σ H x y v u Q I rx ry ⟨a1, a2, vs, ws, e1, e2, s1, s2, hl, fun z => ?_, fun _ z => ?_, fun _ _ p np => pg.tup rh (r1.append r2) np⟩
    · subst z
      exact pg.val rh (Rl.tup_iff.mpr ⟨a2, ws, rfl, s2, by simpa using r1.append r2⟩)
    · subst z
      exact pg.val rh (Rl.tup_iff.mpr ⟨a1, vs, rfl, s1, by simpa using r1.append r2⟩)
  · split at pg <;> try exact pg.elim
    rename_i ex ey
    obtain ⟨a1, vs, e1, _, s1, r1⟩ := rh.lst ex ra
    obtain ⟨a2, ws, e2, _, s2, r2⟩ := rh.lst ey rb
    split at pg <;> try exact pg.elim
    rename_i hl
    have hl := lineOk_le hl
    rw [r1.length, r2.length] at hl
    exact op_cat pins s σ H x y v u Q I rx ry ⟨a1, a2, vs, ws, e1, e2, s1, s2, hl, fun p np => pg.lst rh (r1.append r2) np⟩
  · split at pg <;> try exact pg.elim
    rename_i ex
    obtain ⟨a1, vs, e1, _, s1, r1⟩ := rh.lst ex ra
    rw [Rl.int_iff] at rb
    split at pg <;> try exact pg.elim
    rename_i hl
    obtain ⟨h1, h2, h3⟩ := hl
    have h3 := lineOk_le h3
    rw [r1.length] at h3
    exact op_rep pins s σ H x y v u Q I rx ry ⟨a1, _, vs, e1, rb, s1, h1, h2, h3, fun p np => pg.lst rh (r1.rep _) np⟩
  · obtain ⟨a1, vs, e1, s1, r1⟩ := Rl.tup_iff.mp ra
    rw [Rl.int_iff] at rb
    split at pg <;> try exact pg.elim
    rename_i hl
    obtain ⟨h0, h1, h2, h3⟩ := hl
    rw [r1.length] at h3
    have hne : vs ≠ [] := fun z => h0 (by
      subst z
      exact List.eq_nil_of_length_eq_zero r1.length)
    rename_i k
    rcases (show k = 0 ∨ k = 1 ∨ 2 ≤ k by omega) with z | z | z
    · subst z
      exact op_repT0 pins s σ H x y v u Q I rx ry ⟨a1, vs, e1, rb, s1, hne, fun p np => pg.tup rh (r1.rep 0) np⟩
    · subst z
      exact op_repT1 pins s σ H x y v u Q I rx ry ⟨a1, vs, e1, rb, s1, by
        exact pg.val rh (Rl.tup_iff.mpr ⟨a1, vs, rfl, s1, by simpa using r1⟩)⟩
    · exact op_repT pins s σ H x y v u Q I rx ry ⟨a1, _, vs, e1, rb, s1, hne, z, h2, h3, fun p np => pg.tup rh (r1.rep _) np⟩

/-! ### data through the cells -/
/-- sys.modules is a dict, and no cell of ours -/
def SysOk (b : Heap) : Prop := ∃ (o : Obj) (es : Array DictEntry) (n : Nat), b.get? sysModules = some o ∧ o.data = .dict es n
theorem SysOk.ne {pins : List (Addr × Obj)} {s : Shared} {σ : L2.St} {H : Hp} {a : Addr} {o : Obj} {its : Array Value} {n : Nat} (sy : SysOk X.base) (I : Inv X pins σ H s) (h1 : s.heap.get? a = some o) (h2 : o.data = .seq its n) : a ≠ sysModules := fun z => by
  obtain ⟨oc, es, m, e1, e2⟩ := sy
  have e3 := I.bk _ _ e1
  rw [z, e3] at h1
  cases h1
  rw [e2] at h2
  cases h2
mutual
theorem rd_of {pins : List (Addr × Obj)} {s : Shared} {σ : L2.St} {H : Hp} {μ : List Addr} {rd : Nat → Option PyData} (sy : SysOk X.base) (I : Inv X pins σ H s) (hrd : ∀ n d v u, rd n = some d → Rl X.K cl H μ (.ref n) v → RelV v u → ∃ as, Reads s.heap u d as ∧ sysModules ∉ as) :
    ∀ (x : D) (d : PyData) (v : V) (u : Value), x.deepW rd = some d → Rl X.K cl H μ x v → RelV v u → ∃ as, Reads s.heap u d as ∧ sysModules ∉ as
  | .non, d, v, u, e, r, ru => by
    simp [D.deepW] at e; subst e
    rw [Rl.non_iff] at r; subst r
    cases (show u = Value.none from ru)
    exact ⟨[], .none, by simp⟩
  | .bl b, d, v, u, e, r, ru => by
    simp [D.deepW] at e; subst e
    rw [Rl.bl_iff] at r; subst r
    cases (show u = Value.bool b from ru)
    exact ⟨[], .bool b, by simp⟩
  | .int b, d, v, u, e, r, ru => by
    simp [D.deepW] at e; subst e
    rw [Rl.int_iff] at r; subst r
    obtain ⟨t, rfl⟩ := (show ∃ t, u = Value.int b t from ru)
    exact ⟨[], .int b t, by simp⟩
  | .str b, d, v, u, e, r, ru => by
    simp [D.deepW] at e; subst e
    rw [Rl.str_iff] at r; subst r
    obtain ⟨t, rfl⟩ := (show ∃ t, u = Value.str b t from ru)
    exact ⟨[], .str b t, by simp⟩
  | .tup xs, d, v, u, e, r, ru => by
    simp only [D.deepW] at e
    obtain ⟨a, vs, rfl, s1, r⟩ := Rl.tup_iff.mp r
    cases (show u = Value.ref a from ru)
    split at e
    · rename_i ys ey
      cases e
      obtain ⟨its, rv, ⟨o, h1, h2, n, h3⟩, _⟩ := I.tuple s1
      obtain ⟨as, q, ns⟩ := rds_of sy I hrd xs ys vs its ey r rv
      exact ⟨as, .tuple h1 h2 h3 q, ns⟩
    · cases e
  | .fz xs, d, v, u, e, r, ru => by
    simp only [D.deepW] at e
    obtain ⟨a, vs, rfl, s1, r⟩ := Rl.fz_iff.mp r
    cases (show u = Value.ref a from ru)
    split at e
    · rename_i ys ey
      cases e
      obtain ⟨its, rv, ⟨o, n, h1, h2, _, h3⟩, _⟩ := I.list s1.l
      obtain ⟨as, q, ns⟩ := rds_of sy I hrd xs ys vs its ey r rv
      exact ⟨a :: as, .list h1 h2 h3 q, fun m => (List.mem_cons.mp m).elim (fun z => sy.ne I h1 h3 z.symm) ns⟩
    · cases e
  | .ref n, d, v, u, e, r, ru => hrd n d v u (by simpa [D.deepW] using e) r ru
  | .ty _, _, _, _, e, _, _ => by simp [D.deepW] at e
  | .cls _, _, _, _, e, _, _ => by simp [D.deepW] at e
theorem rds_of {pins : List (Addr × Obj)} {s : Shared} {σ : L2.St} {H : Hp} {μ : List Addr} {rd : Nat → Option PyData} (sy : SysOk X.base) (I : Inv X pins σ H s) (hrd : ∀ n d v u, rd n = some d → Rl X.K cl H μ (.ref n) v → RelV v u → ∃ as, Reads s.heap u d as ∧ sysModules ∉ as) :
    ∀ (xs : List D) (ds : List PyData) (vs : List V) (us : List Value), D.deepsW rd xs = some ds → Rls X.K cl H μ xs vs → Vals vs us → ∃ as, ReadsAll s.heap us ds as ∧ sysModules ∉ as
  | [], ds, vs, us, e, r, ru => by
    simp [D.deepsW] at e; subst e
    rw [Rls.nil] at r; subst r
    cases ru
    exact ⟨[], .nil, by simp⟩
  | x :: xs, ds, vs, us, e, r, ru => by
    simp only [D.deepsW] at e
    obtain ⟨v, vr, rfl, r1, r2⟩ := Rls.cons.mp r
    cases ru with
    | cons u1 u2 =>
      split at e
      · rename_i y ys e1 e2
        cases e
        obtain ⟨as, q1, n1⟩ := rd_of sy I hrd x y v _ e1 r1 u1
        obtain ⟨bs, q2, n2⟩ := rds_of sy I hrd xs ys vr _ e2 r2 u2
        exact ⟨as ++ bs, .cons q1 q2, by simp [n1, n2]⟩
      · cases e
end
theorem deepR_reads {pins : List (Addr × Obj)} {s : Shared} {σ : L2.St} {H : Hp} {μ : List Addr} {h : Hh} (sy : SysOk X.base) (I : Inv X pins σ H s) (rh : RlH X.K cl H μ h) :
    ∀ (m n : Nat) (d : PyData) (v : V) (u : Value), deepR h m n = some d → Rl X.K cl H μ (.ref n) v → RelV v u → ∃ as, Reads s.heap u d as ∧ sysModules ∉ as := by
  intro m
  induction m with
  | zero => intro n d v u e; simp [deepR] at e
  | succ m ih =>
    intro n d v u e r ru
    simp only [deepR] at e
    split at e
    · rename_i xs ex
      split at e
      · rename_i ys ey
        cases e
        obtain ⟨a, vs, rfl, _, s1, r⟩ := rh.lst ex r
        cases (show u = Value.ref a from ru)
        obtain ⟨its, rv, ⟨o, n, h1, h2, _, h3⟩, _⟩ := I.list (.of s1)
        obtain ⟨as, q, ns⟩ := rds_of sy I (fun n d v u => ih n d v u) xs ys vs its ey r rv
        exact ⟨a :: as, .list h1 h2 h3 q, fun m => (List.mem_cons.mp m).elim (fun z => sy.ne I h1 h3 z.symm) ns⟩
      · cases e
    · rename_i ex
      cases e
      obtain ⟨a, rfl, m⟩ := Rl.ref_iff.mp r
      obtain ⟨_, e1⟩ := rh.at_ n _ a ex m
      cases (show u = Value.ref a from ru)
      obtain ⟨_, ns, vs, kv, o, es, ep, h1, h2, h3, h4, h5⟩ := (show ObjOk X.prog X.w H s.heap a (.dK []) from I.hok a _ e1)
      cases kv
      have e0 : es.toList = [] := by
        obtain ⟨h6, _⟩ := h5
        generalize es.toList = l at h6
        cases h6; rfl
      have ea : es = #[] := by
        apply Array.ext'
        simpa using e0
      subst ea
      exact ⟨a :: [] ++ [], .dict h1 h2.1 h3 .nil .nil, fun m => by
        simp only [List.append_nil, List.mem_singleton] at m
        rw [← m] at ns
        simp at ns⟩
    · cases e
theorem deep_reads {pins : List (Addr × Obj)} {s : Shared} {σ : L2.St} {H : Hp} {μ : List Addr} {h : Hh} {x : D} {d : PyData} {v : V} {u : Value} (sy : SysOk X.base) (I : Inv X pins σ H s) (rh : RlH X.K cl H μ h) (e : x.deep h = some d) (r : Rl X.K cl H μ x v) (ru : RelV v u) : ∃ as, Reads s.heap u d as ∧ sysModules ∉ as :=
  rd_of sy I (deepR_reads sy I rh 8) x d v u e r ru

/-! ### comparisons -/
/-- lists of unlike lengths -/
theorem lenNe_at {pins : List (Addr × Obj)} {s : Shared} {σ : L2.St} {H : Hp} {μ : List Addr} {h : Hh} {a b : D} {v u : V} {v' u' : Value} {bb : Bool} (I : Inv X pins σ H s) (rh : RlH X.K cl H μ h) (ra : Rl X.K cl H μ a v) (rb : Rl X.K cl H μ b u) (rx : RelV v v') (ry : RelV u u') (e : lenNe h a b = some bb) :
    bb = false ∧ ∃ (l m : Addr) (xs ys : Array Value), v' = .ref l ∧ u' = .ref m ∧ s.heap.IsList l xs ∧ s.heap.IsList m ys ∧ (xs.size != ys.size) = true := by
  unfold lenNe at e
  split at e
  · split at e
    · rename_i xs ys e1 e2
      split at e
      · rename_i ne
        cases e
        obtain ⟨p, ws, rfl, _, s1, r1⟩ := rh.lst e1 ra
        obtain ⟨p2, ws2, rfl, _, s2, r2⟩ := rh.lst e2 rb
        cases (show v' = Value.ref p from rx)
        cases (show u' = Value.ref p2 from ry)
        obtain ⟨its, q1, ht, _⟩ := I.list (.of s1)
        obtain ⟨its2, q2, ht2, _⟩ := I.list (.of s2)
        refine ⟨rfl, p, p2, its.toArray, its2.toArray, rfl, rfl, ht.isList, ht2.isList, ?_⟩
        have l1 := r1.length
        have l2 := r2.length
        have l3 := q1.length
        have l4 := q2.length
        simp only [List.size_toArray, bne_iff_ne, ne_eq]
        omega
      · cases e
    · cases e
  · cases e
theorem opr_eqD (hu : X.A.units + 65 < cLine) (sy : SysOk X.base) : OpR X (compareOp .Eq) (tB2 X.K cl fun x y h => match eqD h x y with | some b => .ok (.bl b) h | none => .bad) := by
  intro pins s σ H x y v u Q I rx ry hh
  obtain ⟨μ, h, a, b, W, rh, ra, rb, pg⟩ := hh
  dsimp only at pg
  split at pg <;> try exact pg.elim
  rename_i bb eb
  have q : Q (.bl bb) H := pg.val rh (Rl.bl_iff.mpr rfl)
  unfold eqD at eb
  split at eb
  · cases eb
    rw [Rl.int_iff] at ra rb
    subst ra rb
    exact op_eq pins s σ H _ _ v u Q I rx ry ⟨rfl, by simpa using q⟩
  · cases eb
    rw [Rl.str_iff] at ra rb
    subst ra rb
    exact op_eq pins s σ H _ _ v u Q I rx ry ⟨rfl, by simpa using q⟩
  · cases eb
    rw [Rl.bl_iff] at ra rb
    subst ra rb
    exact op_eq pins s σ H _ _ v u Q I rx ry ⟨rfl, by simpa using q⟩
  · split at eb
    · rename_i d e hd he
      split at eb
      · rename_i sh
        cases eb
        obtain ⟨as, r1, _⟩ := deep_reads sy I rh hd ra rx
        obtain ⟨bs, r2, _⟩ := deep_reads sy I rh he rb ry
        exact SeqAt.compareEq_shaped r1 r2 sh.1 sh.2 (by omega) ⟨.bl _, H, I, rfl, q⟩
      · obtain ⟨rfl, l, m, xs, ys, rfl, rfl, h1, h2, h3⟩ := lenNe_at I rh ra rb rx ry eb
        exact SeqAt.eq_list_lengthsAt h1 h2 h3 (by omega) ⟨.bl _, H, I, rfl, q⟩
    · obtain ⟨rfl, l, m, xs, ys, rfl, rfl, h1, h2, h3⟩ := lenNe_at I rh ra rb rx ry eb
      exact SeqAt.eq_list_lengthsAt h1 h2 h3 (by omega) ⟨.bl _, H, I, rfl, q⟩
theorem opr_neD (hu : X.A.units + 65 < cLine) (sy : SysOk X.base) : OpR X (compareOp .NotEq) (tB2 X.K cl fun x y h => match eqD h x y with | some b => .ok (.bl (!b)) h | none => .bad) := by
  intro pins s σ H x y v u Q I rx ry hh
  obtain ⟨μ, h, a, b, W, rh, ra, rb, pg⟩ := hh
  dsimp only at pg
  split at pg <;> try exact pg.elim
  rename_i bb eb
  have q : Q (.bl (!bb)) H := pg.val rh (Rl.bl_iff.mpr rfl)
  unfold eqD at eb
  split at eb
  · cases eb
    rw [Rl.int_iff] at ra rb
    subst ra rb
    exact op_ne pins s σ H _ _ v u Q I rx ry ⟨rfl, by simpa using q⟩
  · cases eb
    rw [Rl.str_iff] at ra rb
    subst ra rb
    exact op_ne pins s σ H _ _ v u Q I rx ry ⟨rfl, by simpa using q⟩
  · cases eb
    rw [Rl.bl_iff] at ra rb
    subst ra rb
    exact op_ne pins s σ H _ _ v u Q I rx ry ⟨rfl, by simpa using q⟩
  · split at eb
    · rename_i d e hd he
      split at eb
      · rename_i sh
        cases eb
        obtain ⟨as, r1, _⟩ := deep_reads sy I rh hd ra rx
        obtain ⟨bs, r2, _⟩ := deep_reads sy I rh he rb ry
        exact SeqAt.compareNe_shaped r1 r2 sh.1 sh.2 (by omega) ⟨.bl _, H, I, rfl, q⟩
      · obtain ⟨rfl, l, m, xs, ys, rfl, rfl, h1, h2, h3⟩ := lenNe_at I rh ra rb rx ry eb
        exact SeqAt.RcNeAt.lists_lengths h1 h2 h3 (by omega) _ _ _ _ ⟨.bl _, H, I, rfl, q⟩
    · obtain ⟨rfl, l, m, xs, ys, rfl, rfl, h1, h2, h3⟩ := lenNe_at I rh ra rb rx ry eb
      exact SeqAt.RcNeAt.lists_lengths h1 h2 h3 (by omega) _ _ _ _ ⟨.bl _, H, I, rfl, q⟩
theorem isNon_v {K : PySem.W.Frag} {H : Hp} {μ : List Addr} {d : D} {v : V} (r : Rl K cl H μ d v) : decide (v = .non) = isNon d := by
  cases d with
  | non => rw [Rl.non_iff] at r; subst r; rfl
  | bl b => rw [Rl.bl_iff] at r; subst r; rfl
  | int b => rw [Rl.int_iff] at r; subst r; rfl
  | str b => rw [Rl.str_iff] at r; subst r; rfl
  | tup b => obtain ⟨a, vs, rfl, _⟩ := Rl.tup_iff.mp r; rfl
  | fz b => obtain ⟨a, vs, rfl, _⟩ := Rl.fz_iff.mp r; rfl
  | ref b => obtain ⟨a, rfl, _⟩ := Rl.ref_iff.mp r; rfl
  | ty n => simp only [Rl] at r; subst r; rfl
  | cls k => simp only [Rl] at r; obtain ⟨a, rfl, _⟩ := r; rfl
theorem isNon_eq {d : D} (h : isNon d = true) : d = .non := by
  cases d <;> simp [isNon] at h ⊢
theorem opr_cmp (hu : X.A.units + 65 < cLine) (sy : SysOk X.base) (o : CmpOp) : OpR X (compareOp o) (tB2 X.K cl (cmpD o)) := by
  intro pins s σ H x y v u Q I rx ry hh
  cases o with
  | Eq => exact opr_eqD hu sy pins s σ H x y v u Q I rx ry hh
  | NotEq => exact opr_neD hu sy pins s σ H x y v u Q I rx ry hh
  | Is =>
    obtain ⟨μ, h, a, b, W, rh, ra, rb, pg⟩ := hh
    simp only [cmpD] at pg
    split at pg
    · split at pg <;> try exact pg.elim
      rw [Rl.bl_iff] at ra rb
      exact op_isBl pins s σ H _ _ v u Q I rx ry ⟨_, _, ra, rb, pg.val rh (Rl.bl_iff.mpr rfl)⟩
    split at pg <;> try exact pg.elim
    rename_i hn
    have e := isNon_eq hn
    subst e
    rw [Rl.non_iff] at rb
    subst rb
    exact op_isN pins s σ H _ _ v u Q I rx ry ⟨rfl, by rw [isNon_v ra]; exact pg.val rh (Rl.bl_iff.mpr rfl)⟩
  | IsNot =>
    obtain ⟨μ, h, a, b, W, rh, ra, rb, pg⟩ := hh
    simp only [cmpD] at pg
    split at pg <;> try exact pg.elim
    rename_i hn
    have e := isNon_eq hn
    subst e
    rw [Rl.non_iff] at rb
    subst rb
    exact op_notN pins s σ H _ _ v u Q I rx ry ⟨rfl, by rw [isNon_v ra]; exact pg.val rh (Rl.bl_iff.mpr rfl)⟩
  | Lt =>
    obtain ⟨μ, h, a, b, W, rh, ra, rb, pg⟩ := hh
    simp only [cmpD] at pg
    split at pg <;> try exact pg.elim
    · rw [Rl.int_iff] at ra rb
      exact op_lt pins s σ H _ _ v u Q I rx ry ⟨_, _, ra, rb, pg.val rh (Rl.bl_iff.mpr rfl)⟩
    · obtain ⟨a1, vs, e1, s1, r1⟩ := Rl.tup_iff.mp ra
      obtain ⟨a2, ws, e2, s2, r2⟩ := Rl.tup_iff.mp rb
      split at pg <;> try exact pg.elim
      rename_i ns ms en em
      rw [intsOf_map en, Rls.ints] at r1
      rw [intsOf_map em, Rls.ints] at r2
      subst r1 r2
      exact op_ltT (by omega) pins s σ H _ _ v u Q I rx ry ⟨a1, a2, ns, ms, e1, e2, s1, s2, pg.val rh (Rl.bl_iff.mpr rfl)⟩
  | LtE =>
    obtain ⟨μ, h, a, b, W, rh, ra, rb, pg⟩ := hh
    simp only [cmpD] at pg
    split at pg <;> try exact pg.elim
    rw [Rl.int_iff] at ra rb
    exact op_le pins s σ H _ _ v u Q I rx ry ⟨_, _, ra, rb, pg.val rh (Rl.bl_iff.mpr rfl)⟩
  | Gt =>
    obtain ⟨μ, h, a, b, W, rh, ra, rb, pg⟩ := hh
    simp only [cmpD] at pg
    split at pg <;> try exact pg.elim
    rw [Rl.int_iff] at ra rb
    exact op_gt pins s σ H _ _ v u Q I rx ry ⟨_, _, ra, rb, pg.val rh (Rl.bl_iff.mpr rfl)⟩
  | GtE =>
    obtain ⟨μ, h, a, b, W, rh, ra, rb, pg⟩ := hh
    simp only [cmpD] at pg
    split at pg <;> try exact pg.elim
    rw [Rl.int_iff] at ra rb
    exact op_ge pins s σ H _ _ v u Q I rx ry ⟨_, _, ra, rb, pg.val rh (Rl.bl_iff.mpr rfl)⟩
  | In =>
    obtain ⟨μ, h, a, b, W, rh, ra, rb, pg⟩ := hh
    simp only [cmpD] at pg
    split at pg
    · rename_i d ds hd he
      split at pg <;> try exact pg.elim
      rename_i sh
      obtain ⟨as, r1, _⟩ := deep_reads sy I rh hd ra rx
      obtain ⟨bs, r2, _⟩ := deep_reads sy I rh he rb ry
      exact SeqAt.in_list_reads r2 r1 (SeqAt.canLay_of_shaped sh.2) (SeqAt.canLay_of_shaped sh.1) (room_in_shaped sh.1 hu) ⟨.bl _, H, I, rfl, pg.val rh (Rl.bl_iff.mpr rfl)⟩
    · rename_i d ds hd he
      split at pg <;> try exact pg.elim
      rename_i sh
      obtain ⟨as, r1, _⟩ := deep_reads sy I rh hd ra rx
      obtain ⟨bs, r2, _⟩ := deep_reads sy I rh he rb ry
      exact SeqAt.in_tuple_reads r2 r1 (SeqAt.canLay_of_shaped sh.2) (SeqAt.canLay_of_shaped sh.1) (room_in_shaped sh.1 hu) ⟨.bl _, H, I, rfl, pg.val rh (Rl.bl_iff.mpr rfl)⟩
    · exact pg.elim
  | NotIn =>
    obtain ⟨μ, h, a, b, W, rh, ra, rb, pg⟩ := hh
    simp only [cmpD] at pg
    split at pg
    · rename_i d ds hd he
      split at pg <;> try exact pg.elim
      rename_i sh
      obtain ⟨as, r1, _⟩ := deep_reads sy I rh hd ra rx
      obtain ⟨bs, r2, _⟩ := deep_reads sy I rh he rb ry
      exact SeqAt.notIn_list_reads r2 r1 (SeqAt.canLay_of_shaped sh.2) (SeqAt.canLay_of_shaped sh.1) (room_in_shaped sh.1 hu) ⟨.bl _, H, I, rfl, pg.val rh (Rl.bl_iff.mpr rfl)⟩
    · rename_i d ds hd he
      split at pg <;> try exact pg.elim
      rename_i sh
      obtain ⟨as, r1, _⟩ := deep_reads sy I rh hd ra rx
      obtain ⟨bs, r2, _⟩ := deep_reads sy I rh he rb ry
      exact SeqAt.notIn_tuple_reads r2 r1 (SeqAt.canLay_of_shaped sh.2) (SeqAt.canLay_of_shaped sh.1) (room_in_shaped sh.1 hu) ⟨.bl _, H, I, rfl, pg.val rh (Rl.bl_iff.mpr rfl)⟩
    · exact pg.elim

/-! ### subscripts, slices -/
theorem atI_rls {K : PySem.W.Frag} {H : Hp} {μ : List Addr} {xs : List D} {vs : List V} {i : Int} {d : D} (r : Rls K cl H μ xs vs) (e : atI xs i = some d) : ∃ v, atI vs i = some v ∧ Rl K cl H μ d v := by
  unfold atI at e ⊢
  rw [← r.length]
  cases q : ixN xs.length i with
  | none => rw [q] at e; cases e
  | some j =>
    rw [q] at e
    exact r.get e
theorem ixr : IxR X (tB2 X.K cl ixD) := by
  intro va sc pins s σ H x y v u Q I rx ry hh hsub
  obtain ⟨μ, h, a, b, W, rh, ra, rb, pg⟩ := hh
  unfold ixD at pg
  split at pg <;> try exact pg.elim
  · obtain ⟨a1, vs, e1, s1, r1⟩ := Rl.tup_iff.mp ra
    rw [Rl.int_iff] at rb
    split at pg <;> try exact pg.elim
    rename_i d ed
    obtain ⟨w, ew, rw'⟩ := atI_rls r1 ed
    exact ix_tup va sc pins s σ H _ _ v u Q I rx ry ⟨a1, vs, _, w, e1, rb, s1, ew, pg.val rh rw'⟩ hsub
  · obtain ⟨a1, vs, e1, s1, r1⟩ := Rl.fz_iff.mp ra
    rw [Rl.int_iff] at rb
    split at pg <;> try exact pg.elim
    rename_i d ed
    obtain ⟨w, ew, rw'⟩ := atI_rls r1 ed
    exact ix_list va sc pins s σ H _ _ v u Q I rx ry ⟨a1, vs, _, w, e1, rb, s1.l, ew, pg.val rh rw'⟩ hsub
  · rw [Rl.int_iff] at rb
    split at pg <;> try exact pg.elim
    rename_i xs ex
    obtain ⟨a1, vs, e1, _, s1, r1⟩ := rh.lst (listAt_eq ex) ra
    split at pg <;> try exact pg.elim
    rename_i d ed
    obtain ⟨w, ew, rw'⟩ := atI_rls r1 ed
    exact ix_list va sc pins s σ H _ _ v u Q I rx ry ⟨a1, vs, _, w, e1, rb, .of s1, ew, pg.val rh rw'⟩ hsub
def tSlD (K : PySem.W.Frag) (cl : Md) : V → Option Int → Option Int → Hp → VK → Prop := fun x lo hi H Q => ∃ μ h a W, RlH K cl H μ h ∧ Rl K cl H μ a x ∧ Pg K cl μ H (slD a lo hi h) (VP K cl Q) W
theorem cut_rls {K : PySem.W.Frag} {H : Hp} {μ : List Addr} {xs : List D} {vs : List V} (r : Rls K cl H μ xs vs) (lo hi : Option Int) : Rls K cl H μ (cutD xs lo hi) (cutV vs lo hi) := by
  unfold cutD cutV
  rw [← r.length]
  exact (r.drop _).take _
theorem slr : SlR X (tSlD X.K cl) := by
  intro pins s σ H x v vl vu lo hi sl Q I rx hs pl pu hh
  obtain ⟨μ, h, a, W, rh, ra, pg⟩ := hh
  unfold slD at pg
  split at pg <;> try exact pg.elim
  · obtain ⟨a1, vs, e1, s1, r1⟩ := Rl.tup_iff.mp ra
    have rc := cut_rls r1 lo hi
    refine sl_tupA pins s σ H x v vl vu lo hi sl Q I rx hs pl pu ⟨a1, vs, e1, s1, fun z => pg.val rh (Rl.tup_iff.mpr ⟨a1, vs, rfl, s1, ?_⟩), fun _ p np => pg.tup rh rc np⟩
    have e : cutV vs lo hi = vs := by
      unfold cutV
      rw [z.1, z.2]
      simp
    rw [e] at rc
    exact rc
  · obtain ⟨a1, vs, e1, s1, r1⟩ := Rl.fz_iff.mp ra
    exact sl_list pins s σ H x v vl vu lo hi sl Q I rx hs pl pu ⟨a1, vs, e1, s1.l, fun p np => pg.lst rh (cut_rls r1 lo hi) np⟩
  · split at pg <;> try exact pg.elim
    rename_i xs ex
    obtain ⟨a1, vs, e1, _, s1, r1⟩ := rh.lst (listAt_eq ex) ra
    exact sl_list pins s σ H x v vl vu lo hi sl Q I rx hs pl pu ⟨a1, vs, e1, .of s1, fun p np => pg.lst rh (cut_rls r1 lo hi) np⟩
end
end HS

/-! Built-in functions. -/
namespace HS
open PySem L2 PyProof.Rows

theorem maxOf_mem : ∀ {ns : List Int}, ns ≠ [] → maxOf ns ∈ ns ∧ ∀ y, y ∈ ns → y ≤ maxOf ns
  | [], h => absurd rfl h
  | [x], _ => by simp [maxOf]
  | x :: y :: r, _ => by
    have ih := maxOf_mem (ns := y :: r) (by simp)
    simp only [maxOf]
    by_cases c : maxOf (y :: r) > x
    · rw [if_pos c]
      refine ⟨List.mem_cons_of_mem _ ih.1, fun z hz => ?_⟩
      rcases List.mem_cons.mp hz with rfl | hz
      · omega
      · exact ih.2 z hz
    · rw [if_neg c]
      refine ⟨List.mem_cons_self, fun z hz => ?_⟩
      rcases List.mem_cons.mp hz with rfl | hz
      · omega
      · have := ih.2 z hz
        omega
theorem minOf_mem : ∀ {ns : List Int}, ns ≠ [] → minOf ns ∈ ns ∧ ∀ y, y ∈ ns → minOf ns ≤ y
  | [], h => absurd rfl h
  | [x], _ => by simp [minOf]
  | x :: y :: r, _ => by
    have ih := minOf_mem (ns := y :: r) (by simp)
    simp only [minOf]
    by_cases c : minOf (y :: r) < x
    · rw [if_pos c]
      refine ⟨List.mem_cons_of_mem _ ih.1, fun z hz => ?_⟩
      rcases List.mem_cons.mp hz with rfl | hz
      · omega
      · exact ih.2 z hz
    · rw [if_neg c]
      refine ⟨List.mem_cons_self, fun z hz => ?_⟩
      rcases List.mem_cons.mp hz with rfl | hz
      · omega
      · have := ih.2 z hz
        omega

/-- a call by data -/
def tBL (K : PySem.W.Frag) (cl : Md) (m : List D → Hh → R D) : List V → Hp → VK → Prop := fun vs H Q => ∃ μ h ds W, RlH K cl H μ h ∧ Rls K cl H μ ds vs ∧ Pg K cl μ H (m ds h) (VP K cl Q) W
/-- the built-in function -/
def bfV : BF → Value
  | .len => .builtin "len" | .abs => .builtin "abs" | .int => .type "int" | .divmod => .builtin "divmod" | .gcd => .builtin "math.gcd" | .tuple => .type "tuple" | .list => .type "list"
  | .sum => .builtin "sum" | .max => .builtin "max" | .min => .builtin "min" | .all => .builtin "all" | .any => .builtin "any" | .repr => .builtin "repr" | .sorted => .builtin "sorted" | .comb => .builtin "math.comb"
section
variable {X : Cx} {cl : Md}
theorem Rls.one_iff {K : PySem.W.Frag} {H : Hp} {μ : List Addr} {d : D} {vs : List V} : Rls K cl H μ [d] vs ↔ ∃ v, vs = [v] ∧ Rl K cl H μ d v := by
  rw [Rls.cons]
  constructor
  · rintro ⟨v, r, rfl, h1, h2⟩
    rw [Rls.nil] at h2; subst h2
    exact ⟨v, rfl, h1⟩
  · rintro ⟨v, rfl, h⟩
    exact ⟨v, [], rfl, h, Rls.nil.mpr rfl⟩
theorem Rls.two_iff {K : PySem.W.Frag} {H : Hp} {μ : List Addr} {d e : D} {vs : List V} : Rls K cl H μ [d, e] vs ↔ ∃ v u, vs = [v, u] ∧ Rl K cl H μ d v ∧ Rl K cl H μ e u := by
  rw [Rls.cons]
  constructor
  · rintro ⟨v, r, rfl, h1, h2⟩
    obtain ⟨u, rfl, h3⟩ := Rls.one_iff.mp h2
    exact ⟨v, u, rfl, h1, h3⟩
  · rintro ⟨v, u, rfl, h, g⟩
    exact ⟨v, [u], rfl, h, Rls.one_iff.mpr ⟨u, rfl, g⟩⟩
theorem repr_reads {pins : List (Addr × Obj)} {s : Shared} {σ : L2.St} {H : Hp} {Q : VK} {u : Value} {d : PyData} {as : List Addr} (I : Inv X pins σ H s) (hg : X.A.guards = some []) (hu : X.A.units + 65 < cLine) (r : Reads s.heap u d as) (ns : sysModules ∉ as)
    (h1 : d.showable = true) (h2 : d.shown.length ≤ sizeLine) (h3 : d.depth ≤ 60) (q : Q (.str d.shown) H) : wpAny (model X.prog X.w) X.A (call (.builtin "repr") [u]) (EP X pins σ Q) X.xe s := by
  cases u with
  | ref a => exact repr_of_reads' r h1 (fun _ => ns) hg (by omega) (fun _ _ e => e) (fun h' t tk hk => ⟨.str d.shown, H, I.kept hk, ⟨t, rfl⟩, q⟩) h2
  | none => cases r; exact PySem.P.repr_of_none ⟨.str _, H, I.tok _, ⟨_, rfl⟩, by simpa [PyData.shown] using q⟩
  | bool b => cases r; exact PySem.P.repr_of_bool ⟨.str _, H, I.tok _, ⟨_, rfl⟩, by simpa [PyData.shown] using q⟩
  | int i t =>
    cases r
    exact PySem.P.repr_of_int (by simpa [PyData.showable] using h1) ⟨.str _, H, I.tok _, ⟨_, rfl⟩, by simpa [PyData.shown] using q⟩
  | str x t =>
    cases r
    exact PySem.P.repr_of_str ⟨.str _, H, I.tok _, ⟨_, rfl⟩, by simpa [PyData.shown] using q⟩ (by simpa [PyData.shown] using h2)
  | _ => cases r

theorem callr (hc : X.calm = true) (hg : X.A.guards = some []) (hu : X.A.units + 65 < cLine) (sy : SysOk X.base) (b : BF) : CallR X (bfV b) (tBL X.K cl (bltD b)) := by
  intro pins s σ H vs us Q I r hh
  obtain ⟨μ, h, ds, W, rh, rs, pg⟩ := hh
  unfold bltD at pg
  split at pg <;> try exact pg.elim
  · obtain ⟨v, rfl, rv⟩ := Rls.one_iff.mp rs
    obtain ⟨a, ws, rfl, s1, r1⟩ := Rl.tup_iff.mp rv
    exact call_len_seq pins s σ H _ us Q I r ⟨a, ws, rfl, .inr s1, by rw [← r1.length]; exact pg.val rh (Rl.int_iff.mpr rfl)⟩
  · obtain ⟨v, rfl, rv⟩ := Rls.one_iff.mp rs
    obtain ⟨a, ws, rfl, s1, r1⟩ := Rl.fz_iff.mp rv
    exact call_len_seq pins s σ H _ us Q I r ⟨a, ws, rfl, .inl s1.l, by rw [← r1.length]; exact pg.val rh (Rl.int_iff.mpr rfl)⟩
  · obtain ⟨v, rfl, rv⟩ := Rls.one_iff.mp rs
    split at pg <;> try exact pg.elim
    rename_i xs ex
    obtain ⟨a, ws, rfl, _, s1, r1⟩ := rh.lst (listAt_eq ex) rv
    exact call_len_seq pins s σ H _ us Q I r ⟨a, ws, rfl, .inl (.of s1), by rw [← r1.length]; exact pg.val rh (Rl.int_iff.mpr rfl)⟩
  · obtain ⟨v, rfl, rv⟩ := Rls.one_iff.mp rs
    rw [Rl.int_iff] at rv; subst rv
    exact call_abs pins s σ H _ us Q I r ⟨_, rfl, pg.val rh (Rl.int_iff.mpr rfl)⟩
  · obtain ⟨v, rfl, rv⟩ := Rls.one_iff.mp rs
    rw [Rl.int_iff] at rv; subst rv
    exact call_int1 pins s σ H _ us Q I r (.inl ⟨_, rfl, pg.val rh (Rl.int_iff.mpr rfl)⟩)
  · obtain ⟨v, rfl, rv⟩ := Rls.one_iff.mp rs
    rw [Rl.bl_iff] at rv; subst rv
    exact call_int1 pins s σ H _ us Q I r (.inr ⟨_, rfl, pg.val rh (Rl.int_iff.mpr rfl)⟩)
  · obtain ⟨v, w, rfl, rv, rw'⟩ := Rls.two_iff.mp rs
    rw [Rl.int_iff] at rv rw'; subst rv rw'
    split at pg <;> try exact pg.elim
    rename_i hd
    exact call_divmod pins s σ H _ us Q I r ⟨_, _, rfl, hd, fun p np => pg.tup rh (Rls.two_iff.mpr ⟨_, _, rfl, Rl.int_iff.mpr rfl, Rl.int_iff.mpr rfl⟩) np⟩
  · obtain ⟨v, w, rfl, rv, rw'⟩ := Rls.two_iff.mp rs
    rw [Rl.int_iff] at rv rw'; subst rv rw'
    exact cr_gcd pins s σ H _ us Q I r ⟨_, _, rfl, pg.val rh (Rl.int_iff.mpr rfl)⟩
  · obtain ⟨v, rfl, rv⟩ := Rls.one_iff.mp rs
    obtain ⟨a, ws, rfl, s1, r1⟩ := Rl.tup_iff.mp rv
    exact call_tuple_of pins s σ H _ us Q I r ⟨a, ws, rfl, .inr ⟨s1, pg.val rh rv⟩⟩
  · obtain ⟨v, rfl, rv⟩ := Rls.one_iff.mp rs
    split at pg <;> try exact pg.elim
    rename_i xs ex
    obtain ⟨a, ws, rfl, _, s1, r1⟩ := rh.lst (listAt_eq ex) rv
    exact call_tuple_of pins s σ H _ us Q I r ⟨a, ws, rfl, .inl ⟨.of s1, fun l hl => pg.tup rh r1 hl⟩⟩
  · obtain ⟨v, rfl, rv⟩ := Rls.one_iff.mp rs
    obtain ⟨a, ws, rfl, s1, r1⟩ := Rl.tup_iff.mp rv
    exact call_list_of pins s σ H _ us Q I r ⟨a, ws, rfl, .inr s1, fun l hl => pg.lst rh r1 hl⟩
  · obtain ⟨v, rfl, rv⟩ := Rls.one_iff.mp rs
    split at pg <;> try exact pg.elim
    rename_i xs ex
    obtain ⟨a, ws, rfl, _, s1, r1⟩ := rh.lst (listAt_eq ex) rv
    exact call_list_of pins s σ H _ us Q I r ⟨a, ws, rfl, .inl (.of s1), fun l hl => pg.lst rh r1 hl⟩
  · obtain ⟨v, rfl, rv⟩ := Rls.one_iff.mp rs
    split at pg <;> try exact pg.elim
    rename_i xs ex
    obtain ⟨a, ws, rfl, _, s1, r1⟩ := rh.lst (listAt_eq ex) rv
    split at pg <;> try exact pg.elim
    rename_i ns en
    rw [intsOf_map en, Rls.ints] at r1; subst r1
    exact cr_sum hc pins s σ H _ us Q I r ⟨a, ns, rfl, .of s1, pg.val rh (Rl.int_iff.mpr rfl)⟩
  · obtain ⟨v, w, rfl, rv, rw'⟩ := Rls.two_iff.mp rs
    rw [Rl.int_iff] at rv rw'; subst rv rw'
    exact call_max2 hc pins s σ H _ us Q I r ⟨_, _, rfl, pg.val rh (Rl.int_iff.mpr rfl)⟩
  · obtain ⟨v, w, rfl, rv, rw'⟩ := Rls.two_iff.mp rs
    rw [Rl.int_iff] at rv rw'; subst rv rw'
    exact call_min2 hc pins s σ H _ us Q I r ⟨_, _, rfl, pg.val rh (Rl.int_iff.mpr rfl)⟩
  · obtain ⟨v, rfl, rv⟩ := Rls.one_iff.mp rs
    split at pg <;> try exact pg.elim
    rename_i xs ex
    obtain ⟨a, ws, rfl, _, s1, r1⟩ := rh.lst (listAt_eq ex) rv
    split at pg <;> try exact pg.elim
    rename_i ns en
    rw [intsOf_map en, Rls.ints] at r1; subst r1
    split at pg <;> try exact pg.elim
    rename_i hne
    have mx := maxOf_mem hne
    refine cr_max hc pins s σ H _ us Q I r ⟨a, ns, rfl, .of s1, List.length_pos_iff.mpr hne, fun m hm hl => ?_⟩
    have e : m = maxOf ns := Int.le_antisymm (mx.2 m hm) (hl _ mx.1)
    subst e
    exact pg.val rh (Rl.int_iff.mpr rfl)
  · obtain ⟨v, rfl, rv⟩ := Rls.one_iff.mp rs
    split at pg <;> try exact pg.elim
    rename_i xs ex
    obtain ⟨a, ws, rfl, _, s1, r1⟩ := rh.lst (listAt_eq ex) rv
    split at pg <;> try exact pg.elim
    rename_i ns en
    rw [intsOf_map en, Rls.ints] at r1; subst r1
    split at pg <;> try exact pg.elim
    rename_i hne
    have mx := minOf_mem hne
    refine cr_min hc pins s σ H _ us Q I r ⟨a, ns, rfl, .of s1, List.length_pos_iff.mpr hne, fun m hm hl => ?_⟩
    have e : m = minOf ns := Int.le_antisymm (hl _ mx.1) (mx.2 m hm)
    subst e
    exact pg.val rh (Rl.int_iff.mpr rfl)
  · obtain ⟨v, rfl, rv⟩ := Rls.one_iff.mp rs
    split at pg <;> try exact pg.elim
    rename_i xs ex
    obtain ⟨a, ws, rfl, _, s1, r1⟩ := rh.lst (listAt_eq ex) rv
    split at pg <;> try exact pg.elim
    rename_i bs en
    rw [blsOf_map en] at r1
    have r1 := Rls.bls r1
    subst r1
    exact cr_all hc pins s σ H _ us Q I r ⟨a, bs, rfl, .of s1, pg.val rh (Rl.bl_iff.mpr rfl)⟩
  · obtain ⟨v, rfl, rv⟩ := Rls.one_iff.mp rs
    split at pg <;> try exact pg.elim
    rename_i xs ex
    obtain ⟨a, ws, rfl, _, s1, r1⟩ := rh.lst (listAt_eq ex) rv
    split at pg <;> try exact pg.elim
    rename_i bs en
    rw [blsOf_map en] at r1
    have r1 := Rls.bls r1
    subst r1
    exact cr_any hc pins s σ H _ us Q I r ⟨a, bs, rfl, .of s1, pg.val rh (Rl.bl_iff.mpr rfl)⟩
  · obtain ⟨v, rfl, rv⟩ := Rls.one_iff.mp rs
    split at pg <;> try exact pg.elim
    rename_i d ed
    split at pg <;> try exact pg.elim
    rename_i hd
    obtain ⟨u, rfl, ru⟩ := vals1 r
    obtain ⟨as, rd, ns⟩ := deep_reads sy I rh ed rv ru
    exact repr_reads I hg hu rd ns hd.1 hd.2.1 hd.2.2 (pg.val rh (Rl.str_iff.mpr rfl))

/-! ### isinstance -/
def cutT (K : PySem.W.Frag) (H : Hp) (h : Hh) (x : D) (v : V) : Prop := ∀ t, tyD h x = some t → TyX K H v (.type t)
theorem tyD_x {H : Hp} {μ : List Addr} {h : Hh} {x : D} {v : V} {t : String} {K : PySem.W.Frag} (rh : RlH K cl H μ h) (r : Rl K cl H μ x v) (e : tyD h x = some t) : TyX K H v (.type t) := by
  cases x with
  | non => rw [Rl.non_iff] at r; subst r; cases e; exact .base .non
  | bl b => rw [Rl.bl_iff] at r; subst r; cases e; exact .base (.bl b)
  | int b => rw [Rl.int_iff] at r; subst r; cases e; exact .base (.int b)
  | str b => rw [Rl.str_iff] at r; subst r; cases e; exact .base (.str b)
  | tup b =>
    obtain ⟨a, vs, rfl, s1, _⟩ := Rl.tup_iff.mp r
    cases e
    rcases s1 with (s1 | ⟨o, s1⟩) | ⟨o, its, n, s1, s2, _⟩
    · exact .base (.tup s1)
    · exact .fTuple s1
    · exact .kTuple s1 s2
  | fz b =>
    obtain ⟨a, vs, rfl, s1, _⟩ := Rl.fz_iff.mp r
    cases e
    rcases s1 with ⟨o, s1⟩ | ⟨o, its, n, s1, s2, _⟩
    · exact .base (.frz s1)
    · exact .kList s1 s2
  | ref n =>
    obtain ⟨a, rfl, m⟩ := Rl.ref_iff.mp r
    simp only [tyD] at e
    split at e
    · rename_i xs ex
      cases e
      obtain ⟨vs, e1, _⟩ := rh.at_ n _ a ex m
      exact .base (.lst e1)
    · rename_i xs ex
      cases e
      obtain ⟨_, e1⟩ := rh.at_ n _ a ex m
      exact .base (.dK e1)
    · cases e
  | ty n => cases e
  | cls k => cases e
/-- isinstance(x, n), n a built-in class's name -/
theorem callr_isi (n : String) : CallR X (.builtin "isinstance") (fun vs H Q => ∃ x μ h d W, vs = [x, .ty n] ∧ RlH X.K cl H μ h ∧ Rl X.K cl H μ d x ∧ Pg X.K cl μ H (isiD h d (.b n)) (VP X.K cl Q) W) := by
  intro pins s σ H vs us Q I r hh
  obtain ⟨x, μ, h, d, W, rfl, rh, rd, pg⟩ := hh
  simp only [isiD] at pg
  split at pg <;> try exact pg.elim
  rename_i t et
  split at pg <;> try exact pg.elim
  rename_i b eb
  exact call_isi pins s σ H _ us Q I r ⟨x, .ty n, .type t, .type n, b, rfl, .ty n, tyD_x rh rd et, kit_ty eb, pg.val rh (Rl.bl_iff.mpr rfl)⟩

/-! ### stores -/
theorem pset : PSet X (fun o i v H Q => ∃ μ h a b d W, RlH X.K cl H μ h ∧ Rl X.K cl H μ a o ∧ Rl X.K cl H μ b i ∧ Rl X.K cl H μ d v ∧ Pg X.K cl μ H (setI a b d h) (fun _ _ _ H' => Q H') W) := by
  intro pins s σ H o i v ov iv u Q I ro ri rv hh
  obtain ⟨μ, h, a, b, d, W, rh, ra, rb, rd, pg⟩ := hh
  unfold setI at pg
  split at pg <;> try exact pg.elim
  rw [Rl.int_iff] at rb
  split at pg <;> try exact pg.elim
  rename_i xs ex
  obtain ⟨p, ws, rfl, m, s1, r1⟩ := rh.lst ex ra
  split at pg <;> try exact pg.elim
  rename_i j ej
  rw [r1.length] at ej
  refine set_list pins s σ H _ _ _ ov iv u Q I ro ri rv ⟨p, ws, _, j, rfl, rb, s1, ej, ?_⟩
  exact pg μ _ (.set rh m s1 trivial (fun _ z => by cases z) ⟨_, upd_same, (r1.set rd j).mono (Tp.upd_mut s1 trivial) List.prefix_rfl⟩)
theorem mtr_append : MtR X "list.append" (fun x vs H Q => ∃ y μ h a d W, vs = [y] ∧ RlH X.K cl H μ h ∧ Rl X.K cl H μ a x ∧ Rl X.K cl H μ d y ∧ Pg X.K cl μ H (app a d h) (VP X.K cl Q) W) := by
  intro pins s σ H x vs v us Q I rx rvs hh
  obtain ⟨y, μ, h, a, d, W, rfl, rh, ra, rd, pg⟩ := hh
  unfold app at pg
  split at pg <;> try exact pg.elim
  split at pg <;> try exact pg.elim
  rename_i xs ex
  obtain ⟨p, ws, rfl, m, s1, r1⟩ := rh.lst ex ra
  split at pg <;> try exact pg.elim
  rename_i hl
  rw [r1.length] at hl
  refine mt_append pins s σ H _ _ v us Q I rx rvs ⟨p, ws, y, rfl, rfl, s1, hl, ?_⟩
  exact pg μ _ (.set rh m s1 trivial (fun _ z => by cases z) ⟨_, upd_same, (r1.append (Rls.one rd)).mono (Tp.upd_mut s1 trivial) List.prefix_rfl⟩) _ (Rl.non_iff.mpr rfl)
end
end HS

/-! What loops walk: lists and tuples, ranges, enumerate, zip, reversed. -/
namespace HS
open PySem L2 PyProof.Rows

/-- how an exception lies: its class, its own dict -/
def RlX (K : PySem.W.Frag) (cl : Md) (H : Hp) (μ : List Addr) (e : X) (c : Value) (dd : Option Addr) : Prop :=
  ∃ a, c = .ref a ∧ cl.c e.k = some a ∧ (e.fs = [] → dd = none) ∧ (∀ f x, e.fs = [(f, x)] → ∃ d v, dd = some d ∧ H d = some (.xd [(f, v)]) ∧ Rl K cl H μ x v)
/-- an exception's wish -/
def wX (K : PySem.W.Frag) (cl : Md) (W : WX) (σ : L2.St) : X → Hh → List Addr → Hp → Prop := fun e _ μ' H' => ∀ c dd, RlX K cl H' μ' e c dd → W c dd σ H'
/-- an expression's reading by the evaluator -/
def tE (K : PySem.W.Frag) (cl : Md) (W : WX) (m : En → Hh → R D) : TE := fun σ H Q => ∃ μ ρ h, RlE K cl H μ σ ρ ∧ RlH K cl H μ h ∧ Pg K cl μ H (m ρ h) (VP K cl Q) (wX K cl W σ)
def tT (K : PySem.W.Frag) (cl : Md) (W : WX) (m : En → Hh → R Bool) : TT := fun σ H Q => ∃ μ ρ h, RlE K cl H μ σ ρ ∧ RlH K cl H μ h ∧ Pg K cl μ H (m ρ h) (fun b _ _ H' => Q b H') (wX K cl W σ)
def tA (K : PySem.W.Frag) (cl : Md) (W : WX) (m : En → Hh → R (List D)) : TA := fun σ H Q => ∃ μ ρ h, RlE K cl H μ σ ρ ∧ RlH K cl H μ h ∧ Pg K cl μ H (m ρ h) (fun ds _ μ' H' => ∀ vs, Rls K cl H' μ' ds vs → Q vs H') (wX K cl W σ)
def tO (K : PySem.W.Frag) (cl : Md) (W : WX) (m : En → Hh → R (Option Int)) : TO := fun σ H Q => ∃ μ ρ h, RlE K cl H μ σ ρ ∧ RlH K cl H μ h ∧ Pg K cl μ H (m ρ h) (fun i _ _ H' => Q i H') (wX K cl W σ)
/-- J gives these items, one by one, while the guards stand -/
def Srcs (K : PySem.W.Frag) (cl : Md) (μ : List Addr) (H : Hp) (J : L2.It) (items : List D) (gs : Gs) : Prop :=
  ∀ (i : Nat) (H' : Hp) (μ' : List Addr) (h' : Hh), Go K cl μ H h' μ' H' → gsOk gs h' →
    (∀ d, items[i]? = some d → J.go i H' ∧ ∀ x H'', J.yld i H' x H'' → Go K cl μ' H' h' μ' H'' ∧ Rl K cl H'' μ' d x) ∧ (i = items.length → J.stop i H')
def tI (K : PySem.W.Frag) (cl : Md) (W : WX) (m : En → Hh → R (List D × Gs)) : TI := fun σ H R => ∃ μ ρ h, RlE K cl H μ σ ρ ∧ RlH K cl H μ h ∧ Pg K cl μ H (m ρ h) (fun p _ μ' H' => ∀ J, Srcs K cl μ' H' J p.1 p.2 → R J H') (wX K cl W σ)

section
variable {K : PySem.W.Frag} {cl : Md} {H H' H'' : Hp} {μ μ' : List Addr}
theorem rd_inj {H : Hp} {a : Addr} {xs ys : List V} (h : H a = some (.lst xs)) (g : SqL K H a ys) (k : K.lookup a = none ∨ True) : True := trivial
/-- a sequence: a list, or a tuple -/
def Sq (K : PySem.W.Frag) (tp : Bool) (H : Hp) (a : Addr) (xs : List V) : Prop := if tp = true then SqT K H a xs else SqL K H a xs
/-- what an item source is, at every later state -/
structure SeqSrc (K : PySem.W.Frag) (cl : Md) (μ : List Addr) (H : Hp) (tp : Bool) (a : Addr) (items : List D) (gs : Gs) : Prop where
  here : ∃ vs, Sq K tp H a vs ∧ Rls K cl H μ items vs
  later : ∀ (H' : Hp) (μ' : List Addr) (h' : Hh), Go K cl μ H h' μ' H' → gsOk gs h' → ∃ vs, Sq K tp H' a vs ∧ Rls K cl H' μ' items vs
theorem itemsD_src {h : Hh} {d : D} {v : V} {p : List D × Gs} {h1 : Hh} (rh : RlH K cl H μ h) (r : Rl K cl H μ d v) (e : itemsD d h = .ok p h1) : h1 = h ∧ ∃ tp a, v = .ref a ∧ SeqSrc K cl μ H tp a p.1 p.2 := by
  unfold itemsD at e
  split at e
  · rename_i xs
    obtain ⟨a, vs, rfl, s, r⟩ := Rl.tup_iff.mp r
    cases e
    exact ⟨rfl, true, a, rfl, ⟨vs, s, r⟩, fun H' μ' h' g _ => ⟨vs, g.tp.sqT s, r.mono g.tp g.pre⟩⟩
  · rename_i xs
    obtain ⟨a, vs, rfl, s, r⟩ := Rl.fz_iff.mp r
    cases e
    exact ⟨rfl, false, a, rfl, ⟨vs, s.l, r⟩, fun H' μ' h' g _ => ⟨vs, (g.tp.sqF s).l, r.mono g.tp g.pre⟩⟩
  · rename_i n
    split at e
    · rename_i xs ex
      cases e
      obtain ⟨a, vs, rfl, m, s, r⟩ := rh.lst (listAt_eq ex) r
      refine ⟨rfl, false, a, rfl, ⟨vs, .of s, r⟩, fun H' μ' h' g gs => ?_⟩
      have e2 := listAt_eq (gs _ (List.mem_singleton.mpr rfl))
      obtain ⟨ws, e3, r3⟩ := g.rh.at_ _ _ a e2 (pre_get g.pre m)
      exact ⟨ws, .of e3, r3⟩
    · cases e
  · cases e
end

section
variable {X : Cx} {cl : Md}
/-- two readings of one sequence are one -/
theorem sq_inj {pins : List (Addr × Obj)} {s : Shared} {σ : L2.St} {H : Hp} {tp : Bool} {a : Addr} {xs ys : List V} (I : Inv X pins σ H s) (h : Sq X.K tp H a xs) (g : Sq X.K tp H a ys) : xs = ys := by
  cases tp with
  | true => exact I.tuple_inj h g
  | false => exact I.list_inj h g

/-! ### the sequence itself: items as they stand -/
def ItS (K : PySem.W.Frag) (tp : Bool) (a : Addr) : L2.It := if tp = true then Itt K a else Itl K a
theorem src_seq {K : PySem.W.Frag} {H : Hp} {μ : List Addr} {tp : Bool} {a : Addr} {items : List D} {gs : Gs} (s : SeqSrc K cl μ H tp a items gs) : Srcs K cl μ H (ItS K tp a) items gs := by
  intro i H' μ' h' g ok
  obtain ⟨vs, sv, rv⟩ := s.later H' μ' h' g ok
  have len := rv.length
  cases tp with
  | true =>
    refine ⟨fun d e => ?_, fun e => ⟨vs, sv, by omega⟩⟩
    obtain ⟨v, ev, r⟩ := rv.get e
    refine ⟨⟨vs, v, sv, ev⟩, fun x H'' y => ?_⟩
    obtain ⟨rfl, y⟩ := y
    have q := y vs sv
    rw [ev] at q; cases q
    exact ⟨.refl g.rh, r⟩
  | false =>
    refine ⟨fun d e => ?_, fun e => ⟨vs, sv, by omega⟩⟩
    obtain ⟨v, ev, r⟩ := rv.get e
    refine ⟨⟨vs, v, sv, ev⟩, fun x H'' y => ?_⟩
    obtain ⟨rfl, y⟩ := y
    have q := y vs sv
    rw [ev] at q; cases q
    exact ⟨.refl g.rh, r⟩
/-- iter(v) -/
theorem iter_seq {pins : List (Addr × Obj)} {s : Shared} {σ : L2.St} {H : Hp} {tg : Expr} {R : L2.It → Hp → Prop} {tp : Bool} {a : Addr} {vs : List V} (I : Inv X pins σ H s) (sv : Sq X.K tp H a vs) (q : R (ItS X.K tp a) H) :
    wpAny (model X.prog X.w) X.A (pyIter (.ref a)) (PIE X pins σ tg R) X.xe s := by
  have f1 : ∀ b ∈ [s.heap.objs.size], FpOk X pins H b := fun b hb => by
    rw [List.mem_singleton.mp hb]
    exact I.fpOk (Nat.le_refl _) (I.hok.fresh (Nat.le_refl _))
  cases tp with
  | true =>
    obtain ⟨its, rv, p, hz⟩ := I.tuple sv
    exact wpAny_pyIter_tuple (show s.heap.IsTuple a its.toArray from p) ⟨_, _, _, _, H, rfl, I.kept (t' := s.toks) (fun b o e => Heap.get?_push_of_some _ e), turn_tuple a _, ⟨_, Heap.get?_push_size _ rfl, rfl, rfl⟩, f1, q⟩
  | false =>
    obtain ⟨its, rv, p, hz⟩ := I.list sv
    exact wpAny_pyIter_list p.isList ⟨_, _, _, _, H, rfl, I.kept (t' := s.toks) (fun b o e => Heap.get?_push_of_some _ e), turn_list a _, ⟨_, Heap.get?_push_size _ rfl, rfl, rfl⟩, f1, q⟩

/-! ### enumerate -/
def ItE (K : PySem.W.Frag) (tp : Bool) (a : Addr) : L2.It :=
  ⟨fun i H => ∃ (xs : List V) (x : V), Sq K tp H a xs ∧ xs[i]? = some x, fun i H v H' => ∃ T x, v = .ref T ∧ H T = none ∧ H' = upd H T (.tup [.int (i : Nat), x]) ∧ ∀ xs, Sq K tp H a xs → xs[i]? = some x, fun i H => ∃ xs : List V, Sq K tp H a xs ∧ xs.length = i⟩
/-- the iterator over the sequence -/
def SqIter (tp : Bool) (h : Heap) (it a : Addr) (i : Nat) : Prop := if tp = true then h.IsTupleIter it a i else h.IsListIter it a i
theorem SqIter.obj {tp : Bool} {h : Heap} {it a : Addr} {i : Nat} (x : SqIter tp h it a i) : ∃ o, h.get? it = some o ∧ ∀ v, o.data ≠ .cell v := by
  cases tp with
  | true => obtain ⟨o, e, c, d⟩ := (show h.IsTupleIter it a i from x); exact ⟨o, e, fun v z => by rw [d] at z; cases z⟩
  | false => obtain ⟨o, e, c, d⟩ := (show h.IsListIter it a i from x); exact ⟨o, e, fun v z => by rw [d] at z; cases z⟩
theorem SqIter.at_ {tp : Bool} {h h' : Heap} {it a : Addr} {i : Nat} (x : SqIter tp h it a i) (k : ∀ o, h.get? it = some o → h'.get? it = some o) : SqIter tp h' it a i := by
  cases tp with
  | true => exact Heap.IsTupleIter.at (show h.IsTupleIter it a i from x) k
  | false => exact Heap.IsListIter.at (show h.IsListIter it a i from x) k
/-- the sequence in the heap itself -/
def SqAt (tp : Bool) (h : Heap) (a : Addr) (its : List Value) : Prop := if tp = true then h.IsTuple a its.toArray else h.IsList a its.toArray
theorem sq_at {pins : List (Addr × Obj)} {s : Shared} {σ : L2.St} {H : Hp} {tp : Bool} {a : Addr} {xs : List V} (I : Inv X pins σ H s) (sv : Sq X.K tp H a xs) : ∃ its : List Value, Vals xs its ∧ SqAt tp s.heap a its := by
  cases tp with
  | true => obtain ⟨its, r, p, _⟩ := I.tuple sv; exact ⟨its, r, p⟩
  | false => obtain ⟨its, r, p, _⟩ := I.list sv; exact ⟨its, r, p.isList⟩
theorem SqAt.ne {tp : Bool} {h : Heap} {a it : Addr} {its : List Value} {i : Nat} (x : SqAt tp h a its) (y : SqIter tp h it a i) : a ≠ it := by
  rintro rfl
  cases tp with
  | true =>
    obtain ⟨o, e, c, _⟩ := (show h.IsTuple a its.toArray from x)
    obtain ⟨o', e', c', _⟩ := (show h.IsTupleIter a a i from y)
    rw [e] at e'; cases e'; rw [c] at c'; exact absurd c' (by decide)
  | false =>
    obtain ⟨o, e, c, _⟩ := (show h.IsList a its.toArray from x)
    obtain ⟨o', e', c', _⟩ := (show h.IsListIter a a i from y)
    rw [e] at e'; cases e'; rw [c] at c'; exact absurd c' (by decide)
/-- it draws the sequence's items -/
theorem sq_draws {P : Program} {w : World} (tp : Bool) {a it : Addr} (A : Around) (hh : A.handled = none) (its : List Value) (ne : a ≠ it) :
    Draws P w A it [it, a] its.toArray.size (fun i v => its.toArray[i]? = some v) (fun i h => SqIter tp h it a i ∧ SqAt tp h a its) := by
  cases tp with
  | true => exact Draws.tuple hh it a ne its.toArray
  | false => exact Draws.list hh it a ne its.toArray
/-- how it begins -/
def itO (tp : Bool) (a : Addr) : Obj := if tp = true then { cls := .type "tuple_iterator", data := .fields #[.ref a, .int 0 0] } else { cls := .type "list_iterator", data := .fields #[.ref a, .int 0 0] }
theorem sq_begins (tp : Bool) (a : Addr) (its : List Value) : Begins (.ref a) (itO tp a) (fun h => SqAt tp h a its) := by
  cases tp with
  | true => exact begins_tuple a its.toArray
  | false => exact begins_list a its.toArray
theorem itO_iter {tp : Bool} {h : Heap} {it a : Addr} (e : h.get? it = some (itO tp a)) : SqIter tp h it a 0 := by
  cases tp with
  | true => exact ⟨_, e, rfl, rfl⟩
  | false => exact ⟨_, e, rfl, rfl⟩
set_option maxHeartbeats 1000000 in
theorem enum_makes {v : Value} {o : Obj} {G : Heap → Prop} (B : Begins v o G) :
    Meets (Builtin.«enumerate.__new__» ⟨[.type "enumerate", v], []⟩) (fun _ R s => G s.heap ∧
      R (.ok (.ret (.ref (s.heap.push o).objs.size))) { s with heap := (s.heap.push o).push { cls := .type "enumerate", data := .fields #[.none, .bool false, .ref s.heap.objs.size, rawInt 0, .none, .none] } }) := by
  refine .of_wp fun P w A R s hh => ?_
  obtain ⟨hp, g, d, tk, os⟩ := s
  obtain ⟨hG, hR⟩ := hh
  have sub := sub_enumerate
  have start : ∀ {A' : Around} {E Q : Value → Shared → Prop}, Q (.ref hp.objs.size) ⟨hp.push o, g, d, tk, os⟩ → wpAny (model P w) A' (pyIter v) Q E ⟨hp, g, d, tk, os⟩ := fun q => B.iter P w _ _ ⟨hp, g, d, tk, os⟩ _ hG q
  wp_walk using start
  refine wpAny_stack_any fun st => wpAny_pure ?_
  split
  · rename_i c _ _ _ _ _
    cases (c == Value.type "enumerate") <;> (wp_walk using start; exact ⟨_, rfl, hR⟩)
  · wp_walk using start
    exact ⟨_, rfl, hR⟩
theorem enum_one {P : Program} {w : World} {A : Around} {E Q : Value → Shared → Prop} {s : Shared} {v : Value} {o : Obj} {G : Heap → Prop} (B : Begins v o G) (hG : G s.heap)
    (q : ∀ h', IsEnum h' (s.heap.objs.size + 1) s.heap.objs.size 0 .none → h'.get? s.heap.objs.size = some o → (∀ b x, s.heap.get? b = some x → h'.get? b = some x) → Q (.ref (s.heap.objs.size + 1)) { s with heap := h' }) :
    wpAny (model P w) A (call (.type "enumerate") [v]) Q E s := by
  refine callType_new F.called_enumerate (by decide) (F.typeCall_enumerate_1 _) (F.newCall_enumerate_1 _) (fun obj => F.args_object_init_2 obj _) F.entry_enumerate_new (enum_makes B) ⟨hG, ?_⟩
  have z : (s.heap.push o).objs.size = s.heap.objs.size + 1 := Heap.size_push ..
  have e := Heap.get?_push_size (s.heap.push o) (o := { cls := .type "enumerate", data := .fields #[.none, .bool false, .ref s.heap.objs.size, rawInt 0, .none, .none] }) rfl
  rw [z] at e
  show _ ∧ _
  rw [z]
  exact ⟨⟨_, e, rfl⟩, q _ e (Heap.get?_push_of_some _ (Heap.get?_push_size _ B.free)) fun b x y => Heap.get?_push_of_some _ (Heap.get?_push_of_some _ y)⟩

theorem turn_enumS {P : Program} {w : World} {K : PySem.W.Frag} {elts : List Expr} {kk : Nat} {tpos : Pos} (tp : Bool) (a e it : Addr) :
    Turn P w K (.Tuple elts kk tpos) (ItE K tp a) [e, it] e (fun i h => (∃ old, IsEnum h e it (0 + (i : Int)) old) ∧ SqIter tp h it a i ∧ e ≠ it) where
  mem := by simp
  obj := fun i h st b hb => by
    obtain ⟨⟨old, he⟩, hi, _⟩ := st
    rcases (show b = e ∨ b = it by simpa using hb) with rfl | rfl
    · exact ⟨_, he, fun v q => nomatch q⟩
    · exact hi.obj
  keep := fun i h h' st k => by
    obtain ⟨⟨old, he⟩, hi, hne⟩ := st
    exact ⟨⟨old, k e (by simp) _ he⟩, hi.at_ fun o q => k it (by simp) o q, hne⟩
  item := by
    intro X hP hw hK hc i pins s σ H E I hf st hg
    subst hP hw hK
    obtain ⟨⟨old, he⟩, hit, hne⟩ := st
    obtain ⟨xs, x, hq, hx⟩ := hg
    obtain ⟨its, rv, sa⟩ := sq_at I hq
    obtain ⟨u, hu, ru⟩ := rv.get hx
    have nea : e ≠ a := by
      rintro rfl
      cases tp with
      | true =>
        obtain ⟨o, e1, c1, _⟩ := (show s.heap.IsTuple e its.toArray from sa)
        rw [show s.heap.get? e = some _ from he] at e1
        cases e1; exact absurd (show Value.type "enumerate" = Value.type "tuple" from c1) (by decide)
      | false =>
        obtain ⟨o, e1, c1, _⟩ := (show s.heap.IsList e its.toArray from sa)
        rw [show s.heap.get? e = some _ from he] at e1
        cases e1; exact absurd (show Value.type "enumerate" = Value.type "list" from c1) (by decide)
    have W := WalksT.enumFrom (prog := X.prog) (w := X.w) (A := X.A) 0 (sq_draws tp X.A.in1 (I.ok.hd hc) its (sa.ne hit)) e hne (by simp [hne, nea]) (by simp)
    have hil : i < its.toArray.size := by
      have := (List.getElem?_eq_some_iff.mp hu).1
      simpa using this
    refine W.item i s _ _ hil ⟨⟨old, he⟩, hit, sa⟩ fun T vals h' tk hp hT it' mid hk => ⟨_, rfl, ?_⟩
    refine W.go elts kk tpos i T { s with heap := h', toks := tk } _ _ mid fun h'' st'' hk' => ?_
    obtain ⟨t, y, hy, hv⟩ := hp
    have ey : y = u := by
      have hu' : its.toArray[i]? = some u := by simpa using hu
      rw [hu'] at hy
      exact (Option.some.inj hy).symm
    subst ey hv
    have nT := W.apart i T h' mid
    obtain ⟨o, ho, hoc, n, hod⟩ := it'
    have hT2 := hk' T o nT ho
    have new : ObjOk X.prog X.w (upd H T (.tup [.int (i : Nat), x])) h'' T (.tup [.int (i : Nat), x]) :=
      ⟨by show 2 ≤ sizeLine; decide, [.int (0 + (i : Int)) t, y], .cons ⟨t, by rw [Int.zero_add]⟩ (.cons ru .nil), o, hT2, hoc, n, hod⟩
    have I1 : Inv X pins σ (upd H T (.tup [.int (i : Nat), x])) { s with heap := h'', toks := tk } :=
      I.turnedNew (ch := [e, it]) (fun b ob hb q => hk' b ob hb (hk b ob hb q)) hf hT new
    obtain ⟨st1, st2, _⟩ := st''
    refine ⟨.ref T, _, I1, rfl, ⟨T, x, rfl, I.hok.fresh hT, rfl, fun ys hy => by rw [sq_inj I hy hq]; exact hx⟩, ⟨st1, st2, hne⟩, fun b hb => ?_⟩
    have hbl : b < s.heap.objs.size := by
      rcases (show b = e ∨ b = it by simpa using hb) with rfl | rfl
      · exact Heap.lt_size he
      · obtain ⟨o, e1, _⟩ := hit.obj; exact Heap.lt_size e1
    rw [upd_ne (Nat.ne_of_lt (Nat.lt_of_lt_of_le hbl hT))]
    exact (hf b hb).1
  done := by
    intro X hP hw hK hc i pins s σ H E I hf st hg
    subst hP hw hK
    obtain ⟨⟨old, he⟩, hit, hne⟩ := st
    obtain ⟨xs, hq, hx⟩ := hg
    obtain ⟨its, rv, sa⟩ := sq_at I hq
    have nea : e ≠ a := by
      rintro rfl
      cases tp with
      | true =>
        obtain ⟨o, e1, c1, _⟩ := (show s.heap.IsTuple e its.toArray from sa)
        rw [show s.heap.get? e = some _ from he] at e1
        cases e1; exact absurd (show Value.type "enumerate" = Value.type "tuple" from c1) (by decide)
      | false =>
        obtain ⟨o, e1, c1, _⟩ := (show s.heap.IsList e its.toArray from sa)
        rw [show s.heap.get? e = some _ from he] at e1
        cases e1; exact absurd (show Value.type "enumerate" = Value.type "list" from c1) (by decide)
    have len := rv.length
    have W := WalksT.enumFrom (prog := X.prog) (w := X.w) (A := X.A) 0 (sq_draws tp X.A.in1 (I.ok.hd hc) its (sa.ne hit)) e hne (by simp [hne, nea]) (by simp)
    have hn : i = its.toArray.size := by simp; omega
    subst hn
    exact W.done s _ _ ⟨⟨old, he⟩, hit, sa⟩ fun h' tk hk => ⟨rfl, I.turnedL (ch := [e, it]) hk hf⟩
  self := fun A i s Q E st h => wpAny_pyIter_enum st.1.choose_spec h
/-- the new iterator's objects are ours to turn -/
theorem fp_new {pins : List (Addr × Obj)} {s : Shared} {σ : L2.St} {H : Hp} (I : Inv X pins σ H s) {fp : List Addr} (h : ∀ b ∈ fp, s.heap.objs.size ≤ b) : ∀ b ∈ fp, FpOk X pins H b := fun b hb => I.fpOk (h b hb) (I.hok.fresh (h b hb))
theorem iter_enum {pins : List (Addr × Obj)} {s : Shared} {σ : L2.St} {H : Hp} {elts : List Expr} {kk : Nat} {tpos : Pos} {R : L2.It → Hp → Prop} {tp : Bool} {a : Addr} {vs : List V} (I : Inv X pins σ H s) (sv : Sq X.K tp H a vs) (q : R (ItE X.K tp a) H) :
    wpAny (model X.prog X.w) X.A (call (.type "enumerate") [.ref a]) (fun v s1 => wpAny (model X.prog X.w) X.A (pyIter v) (PIE X pins σ (.Tuple elts kk tpos) R) X.xe s1) X.xe s := by
  obtain ⟨its, rv, sa⟩ := sq_at I sv
  refine enum_one (sq_begins tp a its) sa fun h' he hit hk => wpAny_pyIter_enum he ?_
  refine ⟨s.heap.objs.size + 1, [s.heap.objs.size + 1, s.heap.objs.size], _, _, H, rfl, I.kept (t' := s.toks) hk, turn_enumS tp a (s.heap.objs.size + 1) s.heap.objs.size, ⟨⟨.none, he⟩, itO_iter hit, Nat.succ_ne_self _⟩, fp_new I fun b hb => ?_, q⟩
  rcases (show b = s.heap.objs.size + 1 ∨ b = s.heap.objs.size by simpa using hb) with rfl | rfl
  · exact Nat.le_succ _
  · exact Nat.le_refl _
theorem src_enum {K : PySem.W.Frag} {H : Hp} {μ : List Addr} {tp : Bool} {a : Addr} {items : List D} {gs : Gs} (s : SeqSrc K cl μ H tp a items gs) : Srcs K cl μ H (ItE K tp a) (numbered items) gs := by
  intro i H' μ' h' g ok
  obtain ⟨vs, sv, rv⟩ := s.later H' μ' h' g ok
  have len := rv.length
  refine ⟨fun d e => ?_, fun e => ⟨vs, sv, by rw [e]; simp [numbered, len]⟩⟩
  have hi : ∃ x, items[i]? = some x ∧ d = .tup [.int (i : Nat), x] := by
    unfold numbered at e
    rw [List.getElem?_map, List.getElem?_zipIdx] at e
    cases q : items[i]? with
    | none => rw [q] at e; cases e
    | some x => rw [q] at e; cases e; exact ⟨x, rfl, by simp⟩
  obtain ⟨y, ey, rfl⟩ := hi
  obtain ⟨v, ev, r⟩ := rv.get ey
  refine ⟨⟨vs, v, sv, ev⟩, fun x H'' yl => ?_⟩
  obtain ⟨T, z, rfl, nT, rfl, hz⟩ := yl
  have q := hz vs sv
  rw [ev] at q; cases q
  exact ⟨.new g.rh nT, Rl.tup_iff.mpr ⟨T, _, rfl, .of upd_same, Rls.two_iff.mpr ⟨_, _, rfl, Rl.int_iff.mpr rfl, r.mono (Tp.upd_new nT) List.prefix_rfl⟩⟩⟩

/-! ### zip -/
def ItZ (K : PySem.W.Frag) (t1 t2 : Bool) (a b : Addr) : L2.It :=
  ⟨fun i H => ∃ (xs ys : List V) (x y : V), Sq K t1 H a xs ∧ Sq K t2 H b ys ∧ xs[i]? = some x ∧ ys[i]? = some y,
    fun i H v H' => ∃ T x y, v = .ref T ∧ H T = none ∧ H' = upd H T (.tup [x, y]) ∧ (∀ xs, Sq K t1 H a xs → xs[i]? = some x) ∧ ∀ ys, Sq K t2 H b ys → ys[i]? = some y,
    fun i H => ∃ xs ys : List V, Sq K t1 H a xs ∧ Sq K t2 H b ys ∧ i = min xs.length ys.length⟩
/-- where zip's own objects lie, beside the sequences -/
structure Apart (z TI TO i1 i2 : Addr) : Prop where
  TIz : TI ≠ z
  TOz : TO ≠ z
  TITO : TI ≠ TO
  TIi1 : TI ≠ i1
  TIi2 : TI ≠ i2
  i1z : i1 ≠ z
  i2z : i2 ≠ z
  i1TO : i1 ≠ TO
  i2TO : i2 ≠ TO
  i12 : i1 ≠ i2
theorem not_seq {pins : List (Addr × Obj)} {s : Shared} {σ : L2.St} {H : Hp} {tp : Bool} {a b : Addr} {its : List Value} {o : Obj} (sa : SqAt tp s.heap a its) (e : s.heap.get? b = some o) (c : ∀ n, o.cls = .type n → n ≠ "list" ∧ n ≠ "tuple") : b ≠ a := by
  rintro rfl
  cases tp with
  | true =>
    obtain ⟨o', e1, c1, _⟩ := (show s.heap.IsTuple b its.toArray from sa)
    rw [e] at e1; cases e1
    exact (c _ c1).2 rfl
  | false =>
    obtain ⟨o', e1, c1, _⟩ := (show s.heap.IsList b its.toArray from sa)
    rw [e] at e1; cases e1
    exact (c _ c1).1 rfl
theorem turn_zipS {P : Program} {w : World} {K : PySem.W.Frag} {elts : List Expr} {kk : Nat} {tpos : Pos} (t1 t2 : Bool) {a b z TI TO i1 i2 : Addr} (Z : Apart z TI TO i1 i2) :
    Turn P w K (.Tuple elts kk tpos) (ItZ K t1 t2 a b) [z, TI, TO, i1, i2] z (fun i h => IsZip h z TI TO .none ∧ IsTupOf2 h TI (.ref i1) (.ref i2) ∧ (∃ x y, IsTupOf2 h TO x y) ∧ SqIter t1 h i1 a i ∧ SqIter t2 h i2 b i ∧ TO ≠ a ∧ TO ≠ b) where
  mem := by simp
  obj := fun i h st c hc => by
    obtain ⟨hz, hI, ⟨x, y, hO⟩, h1, h2, _⟩ := st
    rcases (show c = z ∨ c = TI ∨ c = TO ∨ c = i1 ∨ c = i2 by simpa using hc) with rfl | rfl | rfl | rfl | rfl
    · exact ⟨_, hz, fun v q => nomatch q⟩
    · exact ⟨_, hI, fun v q => nomatch q⟩
    · exact ⟨_, hO, fun v q => nomatch q⟩
    · exact h1.obj
    · exact h2.obj
  keep := fun i h h' st k => by
    obtain ⟨hz, hI, ⟨x, y, hO⟩, h1, h2, n1, n2⟩ := st
    exact ⟨k z (by simp) _ hz, k TI (by simp) _ hI, ⟨x, y, k TO (by simp) _ hO⟩, h1.at_ fun o q => k i1 (by simp) o q, h2.at_ fun o q => k i2 (by simp) o q, n1, n2⟩
  item := by
    intro X hP hw hK hc i pins s σ H E I hf st hg
    subst hP hw hK
    obtain ⟨hz, hI, hO, h1, h2, n1, n2⟩ := st
    obtain ⟨xs, ys, x, y, hq1, hq2, hx, hy⟩ := hg
    obtain ⟨its, rv, sa⟩ := sq_at I hq1
    obtain ⟨its2, rv2, sb⟩ := sq_at I hq2
    obtain ⟨u, hu, ru⟩ := rv.get hx
    obtain ⟨u2, hu2, ru2⟩ := rv2.get hy
    have W := WalksT.zipD2 (prog := X.prog) (w := X.w) (A := X.A) (z := z) (TI := TI) (TO := TO) (i1 := i1) (i2 := i2) (zipSep Z hz sa sb h1 h2 n1 n2) (sq_draws t1 X.A.in1 (I.ok.hd hc) its (sa.ne h1)) (sq_draws t2 X.A.in1 (I.ok.hd hc) its2 (sb.ne h2))
    have hil : i < min its.toArray.size its2.toArray.size := by
      have := (List.getElem?_eq_some_iff.mp hu).1
      have := (List.getElem?_eq_some_iff.mp hu2).1
      simp; omega
    refine W.item i s _ _ hil ⟨hz, hI, hO, ⟨h1, sa⟩, ⟨h2, sb⟩⟩ fun T vals h' tk hp hT it' mid hk => ⟨_, rfl, ?_⟩
    refine W.go elts kk tpos i T { s with heap := h', toks := tk } _ _ mid fun h'' st'' hk' => ?_
    obtain ⟨w1, w2, hw1, hw2, hv⟩ := hp
    have e1 : w1 = u := by
      rw [show its.toArray[i]? = some u by simpa using hu] at hw1
      exact (Option.some.inj hw1).symm
    have e2 : w2 = u2 := by
      rw [show its2.toArray[i]? = some u2 by simpa using hu2] at hw2
      exact (Option.some.inj hw2).symm
    subst e1 e2 hv
    have nT := W.apart i T h' mid
    obtain ⟨o, ho, hoc, n, hod⟩ := it'
    have hT2 := hk' T o nT ho
    have new : ObjOk X.prog X.w (upd H T (.tup [x, y])) h'' T (.tup [x, y]) := ⟨by show 2 ≤ sizeLine; decide, [w1, w2], .cons ru (.cons ru2 .nil), o, hT2, hoc, n, hod⟩
    have hf' : ∀ c ∈ [z, TO, i1, i2], FpOk X pins H c := fun c hcm => hf c (by
      rcases (show c = z ∨ c = TO ∨ c = i1 ∨ c = i2 by simpa using hcm) with rfl | rfl | rfl | rfl <;> simp)
    have I1 : Inv X pins σ (upd H T (.tup [x, y])) { s with heap := h'', toks := tk } := I.turnedNew (ch := [z, TO, i1, i2]) (fun c ob hb q => hk' c ob hb (hk c ob hb q)) hf' hT new
    obtain ⟨st1, st2, st3, st4, st5⟩ := st''
    refine ⟨.ref T, _, I1, rfl, ⟨T, x, y, rfl, I.hok.fresh hT, rfl, fun zs hzs => by rw [sq_inj I hzs hq1]; exact hx, fun zs hzs => by rw [sq_inj I hzs hq2]; exact hy⟩, ⟨st1, st2, st3, st4.1, st5.1, n1, n2⟩, fun c hcm => ?_⟩
    have hbl : c < s.heap.objs.size := by
      rcases (show c = z ∨ c = TI ∨ c = TO ∨ c = i1 ∨ c = i2 by simpa using hcm) with rfl | rfl | rfl | rfl | rfl
      · exact Heap.lt_size hz
      · exact Heap.lt_size hI
      · obtain ⟨_, _, q⟩ := hO; exact Heap.lt_size q
      · obtain ⟨o, e1, _⟩ := h1.obj; exact Heap.lt_size e1
      · obtain ⟨o, e1, _⟩ := h2.obj; exact Heap.lt_size e1
    rw [upd_ne (Nat.ne_of_lt (Nat.lt_of_lt_of_le hbl hT))]
    exact (hf c hcm).1
  done := by
    intro X hP hw hK hc i pins s σ H E I hf st hg
    subst hP hw hK
    obtain ⟨hz, hI, hO, h1, h2, n1, n2⟩ := st
    obtain ⟨xs, ys, hq1, hq2, hi⟩ := hg
    obtain ⟨its, rv, sa⟩ := sq_at I hq1
    obtain ⟨its2, rv2, sb⟩ := sq_at I hq2
    have l1 := rv.length
    have l2 := rv2.length
    have W := WalksT.zipD2 (prog := X.prog) (w := X.w) (A := X.A) (z := z) (TI := TI) (TO := TO) (i1 := i1) (i2 := i2) (zipSep Z hz sa sb h1 h2 n1 n2) (sq_draws t1 X.A.in1 (I.ok.hd hc) its (sa.ne h1)) (sq_draws t2 X.A.in1 (I.ok.hd hc) its2 (sb.ne h2))
    have hn : i = min its.toArray.size its2.toArray.size := by simp; omega
    subst hn
    have hf' : ∀ c ∈ [z, TO, i1, i2], FpOk X pins H c := fun c hcm => hf c (by
      rcases (show c = z ∨ c = TO ∨ c = i1 ∨ c = i2 by simpa using hcm) with rfl | rfl | rfl | rfl <;> simp)
    exact W.done s _ _ ⟨hz, hI, hO, ⟨h1, sa⟩, ⟨h2, sb⟩⟩ fun h' tk hk => ⟨rfl, I.turnedL (ch := [z, TO, i1, i2]) hk hf'⟩
  self := fun A i s Q E st h => wpAny_pyIter_zip st.1 h
where
  zipSep {h : Heap} {its its2 : List Value} {i : Nat} (Z : Apart z TI TO i1 i2) (hz : IsZip h z TI TO .none) (sa : SqAt t1 h a its) (sb : SqAt t2 h b its2) (h1 : SqIter t1 h i1 a i) (h2 : SqIter t2 h i2 b i) (n1 : TO ≠ a) (n2 : TO ≠ b) : ZipSep2 z TI TO i1 i2 [i1, a] [i2, b] := by
    have za : z ≠ a := by
      rintro rfl
      cases t1 with
      | true =>
        obtain ⟨o', e1, c1, _⟩ := (show h.IsTuple z its.toArray from sa)
        rw [show h.get? z = some _ from hz] at e1; cases e1
        exact absurd (show Value.type "zip" = Value.type "tuple" from c1) (by decide)
      | false =>
        obtain ⟨o', e1, c1, _⟩ := (show h.IsList z its.toArray from sa)
        rw [show h.get? z = some _ from hz] at e1; cases e1
        exact absurd (show Value.type "zip" = Value.type "list" from c1) (by decide)
    have zb : z ≠ b := by
      rintro rfl
      cases t2 with
      | true =>
        obtain ⟨o', e1, c1, _⟩ := (show h.IsTuple z its2.toArray from sb)
        rw [show h.get? z = some _ from hz] at e1; cases e1
        exact absurd (show Value.type "zip" = Value.type "tuple" from c1) (by decide)
      | false =>
        obtain ⟨o', e1, c1, _⟩ := (show h.IsList z its2.toArray from sb)
        rw [show h.get? z = some _ from hz] at e1; cases e1
        exact absurd (show Value.type "zip" = Value.type "list" from c1) (by decide)
    have i1b : i1 ≠ b := by
      rintro rfl
      obtain ⟨o, e, c⟩ := itcls h1
      cases t2 with
      | true =>
        obtain ⟨o', e1, c1, _⟩ := (show h.IsTuple i1 its2.toArray from sb)
        rw [e] at e1; cases e1; rw [c1] at c
        rcases c with c | c <;> exact absurd c (by decide)
      | false =>
        obtain ⟨o', e1, c1, _⟩ := (show h.IsList i1 its2.toArray from sb)
        rw [e] at e1; cases e1; rw [c1] at c
        rcases c with c | c <;> exact absurd c (by decide)
    have i2a : i2 ≠ a := by
      rintro rfl
      obtain ⟨o, e, c⟩ := itcls h2
      cases t1 with
      | true =>
        obtain ⟨o', e1, c1, _⟩ := (show h.IsTuple i2 its.toArray from sa)
        rw [e] at e1; cases e1; rw [c1] at c
        rcases c with c | c <;> exact absurd c (by decide)
      | false =>
        obtain ⟨o', e1, c1, _⟩ := (show h.IsList i2 its.toArray from sa)
        rw [e] at e1; cases e1; rw [c1] at c
        rcases c with c | c <;> exact absurd c (by decide)
    exact { TIz := Z.TIz, TOz := Z.TOz, TITO := Z.TITO, TIi1 := Z.TIi1, mem1 := by simp, zf1 := by simp [Z.i1z.symm, za], Tf1 := by simp [Z.i1TO.symm, n1], TIi2 := Z.TIi2, mem2 := by simp, zf2 := by simp [Z.i2z.symm, zb], Tf2 := by simp [Z.i2TO.symm, n2], sep1_2 := by simp [Z.i12, i1b], sep2_1 := by simp [Z.i12.symm, i2a] }
  itcls {tp : Bool} {h : Heap} {it c : Addr} {i : Nat} (x : SqIter tp h it c i) : ∃ o, h.get? it = some o ∧ (o.cls = .type "tuple_iterator" ∨ o.cls = .type "list_iterator") := by
    cases tp with
    | true => obtain ⟨o, e, c, _⟩ := (show h.IsTupleIter it _ i from x); exact ⟨o, e, .inl c⟩
    | false => obtain ⟨o, e, c, _⟩ := (show h.IsListIter it _ i from x); exact ⟨o, e, .inr c⟩
theorem iter_zip {pins : List (Addr × Obj)} {s : Shared} {σ : L2.St} {H : Hp} {elts : List Expr} {kk : Nat} {tpos : Pos} {R : L2.It → Hp → Prop} {t1 t2 : Bool} {a b : Addr} {vs ws : List V} (I : Inv X pins σ H s) (sv : Sq X.K t1 H a vs) (sw : Sq X.K t2 H b ws) (q : R (ItZ X.K t1 t2 a b) H) :
    wpAny (model X.prog X.w) X.A (call (.type "zip") [.ref a, .ref b]) (fun v s1 => wpAny (model X.prog X.w) X.A (pyIter v) (PIE X pins σ (.Tuple elts kk tpos) R) X.xe s1) X.xe s := by
  obtain ⟨its, rv, sa⟩ := sq_at I sv
  obtain ⟨its2, rv2, sb⟩ := sq_at I sw
  have lt : ∀ {tp : Bool} {c : Addr} {l : List Value}, SqAt tp s.heap c l → c < s.heap.objs.size := fun {tp c l} x => by
    cases tp with
    | true => obtain ⟨o, e, _⟩ := (show s.heap.IsTuple c l.toArray from x); exact Heap.lt_size e
    | false => obtain ⟨o, e, _⟩ := (show s.heap.IsList c l.toArray from x); exact Heap.lt_size e
  have la := lt sa
  have lb := lt sb
  refine zip_begins2 (sq_begins t1 a its) (sq_begins t2 b its2) sa sb fun h' hz hI hO e1 e2 _ hk => wpAny_pyIter_zip hz ?_
  refine ⟨s.heap.objs.size + 4, [s.heap.objs.size + 4, s.heap.objs.size + 2, s.heap.objs.size + 3, s.heap.objs.size, s.heap.objs.size + 1], _, _, H, rfl, I.kept (t' := s.toks) hk, turn_zipS t1 t2 (new_apart _), ⟨hz, hI, ⟨_, _, hO⟩, itO_iter e1, itO_iter e2, new_ne la, new_ne lb⟩, fp_new I fun c hc => ?_, q⟩
  rcases (show c = s.heap.objs.size + 4 ∨ c = s.heap.objs.size + 2 ∨ c = s.heap.objs.size + 3 ∨ c = s.heap.objs.size ∨ c = s.heap.objs.size + 1 by simpa using hc) with rfl | rfl | rfl | rfl | rfl
  · exact Nat.le_add_right _ _
  · exact Nat.le_add_right _ _
  · exact Nat.le_add_right _ _
  · exact Nat.le_refl _
  · exact Nat.le_add_right _ _
where
  new_apart (N : Nat) : Apart (N + 4 : Nat) (N + 2 : Nat) (N + 3 : Nat) N (N + 1 : Nat) :=
    { TIz := show (N + 2 : Nat) ≠ N + 4 by omega, TOz := show (N + 3 : Nat) ≠ N + 4 by omega, TITO := show (N + 2 : Nat) ≠ N + 3 by omega, TIi1 := show (N + 2 : Nat) ≠ N by omega, TIi2 := show (N + 2 : Nat) ≠ N + 1 by omega, i1z := show (N : Nat) ≠ N + 4 by omega, i2z := show (N + 1 : Nat) ≠ N + 4 by omega, i1TO := show (N : Nat) ≠ N + 3 by omega, i2TO := show (N + 1 : Nat) ≠ N + 3 by omega, i12 := show (N : Nat) ≠ N + 1 by omega }
  new_ne {N : Nat} {c : Addr} (h : c < N) : (N + 3 : Nat) ≠ c := Nat.ne_of_gt (Nat.lt_of_lt_of_le h (Nat.le_add_right N 3))
theorem src_zip {K : PySem.W.Frag} {H : Hp} {μ : List Addr} {t1 t2 : Bool} {a b : Addr} {items items2 : List D} {gs gs2 : Gs} (s : SeqSrc K cl μ H t1 a items gs) (s2 : SeqSrc K cl μ H t2 b items2 gs2) : Srcs K cl μ H (ItZ K t1 t2 a b) (pairs items items2) (gs ++ gs2) := by
  intro i H' μ' h' g ok
  obtain ⟨vs, sv, rv⟩ := s.later H' μ' h' g fun p hp => ok p (List.mem_append_left _ hp)
  obtain ⟨ws, sw, rw'⟩ := s2.later H' μ' h' g fun p hp => ok p (List.mem_append_right _ hp)
  have l1 := rv.length
  have l2 := rw'.length
  refine ⟨fun d e => ?_, fun e => ⟨vs, ws, sv, sw, by rw [e]; simp [pairs, l1, l2]⟩⟩
  have hi : ∃ x y, items[i]? = some x ∧ items2[i]? = some y ∧ d = .tup [x, y] := by
    unfold pairs at e
    rw [List.getElem?_map] at e
    cases q : (items.zip items2)[i]? with
    | none => rw [q] at e; cases e
    | some p =>
      rw [q] at e; cases e
      obtain ⟨e1, e2⟩ := List.getElem?_zip_eq_some.mp q
      exact ⟨p.1, p.2, e1, e2, rfl⟩
  obtain ⟨y1, y2, ey1, ey2, rfl⟩ := hi
  obtain ⟨v, ev, r⟩ := rv.get ey1
  obtain ⟨u, eu, ru⟩ := rw'.get ey2
  refine ⟨⟨vs, ws, v, u, sv, sw, ev, eu⟩, fun x H'' yl => ?_⟩
  obtain ⟨T, z, z2, rfl, nT, rfl, hz, hz2⟩ := yl
  have q := hz vs sv
  rw [ev] at q; cases q
  have q := hz2 ws sw
  rw [eu] at q; cases q
  exact ⟨.new g.rh nT, Rl.tup_iff.mpr ⟨T, _, rfl, .of upd_same, Rls.two_iff.mpr ⟨_, _, rfl, r.mono (Tp.upd_new nT) List.prefix_rfl, ru.mono (Tp.upd_new nT) List.prefix_rfl⟩⟩⟩

/-! ### reversed -/
def ItR (K : PySem.W.Frag) (tp : Bool) (a : Addr) (n : Nat) : L2.It := if tp = true then RT.ItvT K a n else Itv K a n
theorem src_rev {K : PySem.W.Frag} {H : Hp} {μ : List Addr} {tp : Bool} {a : Addr} {items : List D} {gs : Gs} {n : Nat} (hn : n = items.length) (s : SeqSrc K cl μ H tp a items gs) : Srcs K cl μ H (ItR K tp a n) items.reverse gs := by
  intro i H' μ' h' g ok
  obtain ⟨vs, sv, rv⟩ := s.later H' μ' h' g ok
  have len := rv.length
  have get : ∀ d, items.reverse[i]? = some d → i < n ∧ ∃ v, vs[n - 1 - i]? = some v ∧ Rl K cl H' μ' d v := fun d e => by
    have hi : i < items.length := by
      have := (List.getElem?_eq_some_iff.mp e).1
      simpa using this
    rw [List.getElem?_reverse hi] at e
    obtain ⟨v, ev, r⟩ := rv.get e
    exact ⟨by omega, v, by rw [hn]; exact ev, r⟩
  cases tp with
  | true =>
    refine ⟨fun d e => ?_, fun e => by show n ≤ i; rw [e]; simp [hn]⟩
    obtain ⟨hi, v, ev, r⟩ := get d e
    refine ⟨⟨hi, vs, v, sv, ev⟩, fun x H'' y => ?_⟩
    obtain ⟨rfl, y⟩ := y
    have q := y vs sv
    rw [ev] at q; cases q
    exact ⟨.refl g.rh, r⟩
  | false =>
    refine ⟨fun d e => ?_, fun e => by show n ≤ i; rw [e]; simp [hn]⟩
    obtain ⟨hi, v, ev, r⟩ := get d e
    refine ⟨⟨hi, vs, v, sv, ev⟩, fun x H'' y => ?_⟩
    obtain ⟨rfl, y⟩ := y
    have q := y vs sv
    rw [ev] at q; cases q
    exact ⟨.refl g.rh, r⟩

/-! ### ranges -/
theorem src_up {K : PySem.W.Frag} {H : Hp} {μ : List Addr} {lo : Int} {n : Nat} : Srcs K cl μ H (Itr lo n) (upFrom lo n) [] := by
  intro i H' μ' h' g ok
  refine ⟨fun d e => ?_, fun e => by show n ≤ i; rw [e]; simp [upFrom]⟩
  have hi : i < n := by
    have := (List.getElem?_eq_some_iff.mp e).1
    simpa [upFrom] using this
  refine ⟨hi, fun x H'' y => ?_⟩
  obtain ⟨rfl, rfl⟩ := y
  simp [upFrom, hi] at e
  subst e
  exact ⟨.refl g.rh, Rl.int_iff.mpr rfl⟩
theorem src_down {K : PySem.W.Frag} {H : Hp} {μ : List Addr} {hi : Int} {n : Nat} : Srcs K cl μ H (Itc hi (-1) n) (downFrom hi n) [] := by
  intro i H' μ' h' g ok
  refine ⟨fun d e => ?_, fun e => by show n ≤ i; rw [e]; simp [downFrom]⟩
  have hi : i < n := by
    have := (List.getElem?_eq_some_iff.mp e).1
    simpa [downFrom] using this
  refine ⟨hi, fun x H'' y => ?_⟩
  obtain ⟨rfl, rfl⟩ := y
  simp only [downFrom, List.getElem?_map, List.getElem?_range hi, Option.map_some, Option.some.injEq] at e
  subst e
  exact ⟨.refl g.rh, Rl.int_iff.mpr rfl⟩
end
end HS

/-! Each construct does what the evaluator tells. -/
namespace HS
open PySem L2 PyProof.Rows

/-! ### weaker readings -/
section
variable {X : Cx}
theorem wkE {e : Expr} {t t' : TE} (h : PE X e t) (w : ∀ σ H Q, t' σ H Q → t σ H Q) : PE X e t' := ⟨fun pins s σ H Q I q => h.run pins s σ H Q I (w σ H Q q)⟩
theorem wkT {e : Expr} {t t' : TT} (h : PT X e t) (w : ∀ σ H Q, t' σ H Q → t σ H Q) : PT X e t' := ⟨fun pins s σ H Q I q => h.run pins s σ H Q I (w σ H Q q)⟩
theorem wkW {e : Expr} {t t' : TT} (h : PW X e t) (w : ∀ σ H Q, t' σ H Q → t σ H Q) : PW X e t' := ⟨fun wh pins s σ H Q I q => h.run wh pins s σ H Q I (w σ H Q q)⟩
theorem wkA {e : List Expr} {t t' : TA} (h : PA X e t) (w : ∀ σ H Q, t' σ H Q → t σ H Q) : PA X e t' := ⟨fun pos pins s σ H Q I q => h.run pos pins s σ H Q I (w σ H Q q)⟩
theorem wkO {e : Option Expr} {t t' : TO} (h : PO X e t) (w : ∀ σ H Q, t' σ H Q → t σ H Q) : PO X e t' := ⟨fun pins s σ H Q I q => h.run pins s σ H Q I (w σ H Q q)⟩
theorem wkI {tg e : Expr} {t t' : TI} (h : PI X tg e t) (w : ∀ σ H Q, t' σ H Q → t σ H Q) : PI X tg e t' := ⟨fun pins s σ H Q I q => h.run pins s σ H Q I (w σ H Q q)⟩
theorem wkS {st : Stmt} {t t' : TS} (h : PS X st t) (w : ∀ D σ H, t' D σ H → t D σ H) : PS X st t' := ⟨fun pins s σ H D I q => h.run pins s σ H D I (w D σ H q)⟩
theorem wkSs {st : List Stmt} {t t' : TS} (h : PSs X st t) (w : ∀ D σ H, t' D σ H → t D σ H) : PSs X st t' := ⟨fun pins s σ H D I q => h.run pins s σ H D I (w D σ H q)⟩
theorem wkG {tg : Expr} {t t' : TG} (h : PG X tg t) (w : ∀ v σ H Q, t' v σ H Q → t v σ H Q) : PG X tg t' := ⟨fun pins s σ H v u Q I r q => h.run pins s σ H v u Q I r (w v σ H Q q)⟩
theorem wkGs {tg : List Expr} {t t' : TGs} (h : PGs X tg t) (w : ∀ v σ H Q, t' v σ H Q → t v σ H Q) : PGs X tg t' := ⟨fun pins s σ H v u Q I r q => h.run pins s σ H v u Q I r (w v σ H Q q)⟩
end

/-- an expression's own shape: no star, no slice, no set display, no generator -/
def plainX : Expr → Bool
  | .Name .. | .Constant .. | .BinOp .. | .UnaryOp .. | .Compare .. | .BoolOp .. | .IfExp .. | .Call .. | .Attribute .. | .Subscript .. | .Tuple .. | .List .. | .Dict .. | .ListComp .. | .Lambda .. => true
  | _ => false
/-- no comprehension, too -/
def plainV : Expr → Bool
  | .Name .. | .Constant .. | .BinOp .. | .UnaryOp .. | .Compare .. | .BoolOp .. | .IfExp .. | .Call .. | .Attribute .. | .Subscript .. | .Tuple .. | .List .. | .Dict .. | .Lambda .. => true
  | _ => false
/-- as a test it is just its truth -/
def plainB : Expr → Bool
  | .Name .. | .Constant .. | .BinOp .. | .Call .. | .Attribute .. | .Subscript .. | .ListComp .. => true
  | _ => false
theorem star_cons {e : Expr} {es : List Expr} {env : Env} (h : plainX e = true) : starEach (e :: es) env = (false, eval e env) :: starEach es env := by
  cases e <;> first | rfl | (simp [plainX] at h)
theorem back_plain {pos : Pos} {env : Env} : ∀ {es : List Expr}, es.all plainX = true → (backTo pos (starEach es env)).any (·.1) = false
  | [], _ => rfl
  | e :: es, h => by
    simp only [List.all_cons, Bool.and_eq_true] at h
    rw [star_cons h.1]
    exact back_plain (pos := pos) h.2
theorem sub_plain {b : Expr} (h : plainX b = true) : PlainIx b := by
  intro o i
  cases b <;> first | rfl | (simp [plainX] at h)
theorem mark_plain {b : Expr} {op : CmpOp} (h : plainX b = true) : behindInMarks op b = false := by
  cases b <;> first | rfl | (simp [plainX] at h)
theorem swap_plain {e : Expr} {t : Option Expr} {l : Nat} {env : Env} (h : plainV e = true) : swapsWith e t l env = pure false := by
  cases e <;> first | rfl | (simp [plainV] at h)
theorem fold_plain {e : Expr} {env : Env} {x : Value} (h : plainX e = true) : foldedSetIterable e env x = pure x := by
  cases e <;> first | rfl | (simp [plainX] at h)
theorem plainV_X {e : Expr} (h : plainV e = true) : plainX e = true := by
  cases e <;> first | rfl | (simp [plainV] at h)

section
variable {X : Cx} {cl : Md} {W : WX} {m ma mb mc : En → Hh → R D} {a b c : Expr} {pos : Pos}
/-! ### the simple ones -/
theorem sVal {e : Expr} {v : V} {d : D} (h : PE X e (tC v)) (r : ∀ H μ, Rl X.K cl H μ d v) : PE X e (tE X.K cl W fun _ h => .ok d h) :=
  wkE h fun σ H Q ⟨μ, ρ, h, re, rh, pg⟩ => pg.val rh (r H μ)
theorem sVar {i : Nat} {x : Str} (hN : X.N[i]? = some x) (hv : Vis X.env.scope x) (hd : (x == ("__debug__" : Str)) = false) (hcd : (x == ("__classdict__" : Str)) = false) :
    PE X (.Name x pos) (tE X.K cl W fun ρ h => match ρ[i]? with | some (some d) => .ok d h | _ => .bad) := by
  refine wkE (pe_var hN hv hd hcd) fun σ H Q hh => ?_
  obtain ⟨μ, ρ, h, re, rh, pg⟩ := hh
  dsimp only at pg
  split at pg
  · rename_i d e
    obtain ⟨v, e1, r⟩ := re.at_ i d e
    exact ⟨v, e1, pg.val rh r⟩
  · exact pg.elim
theorem sBin {o : BO} (ha : PE X a (tE X.K cl W ma)) (hb : PE X b (tE X.K cl W mb)) : PE X (.BinOp a (boOf o) b pos) (tE X.K cl W fun ρ h => (ma ρ h).bind fun x h => (mb ρ h).bind fun y h => bop o x y h) := by
  refine wkE (pe_op (opr_bop (cl := cl) o) ha hb) fun σ H Q ⟨μ, ρ, h, re, rh, pg⟩ => ⟨μ, ρ, h, re, rh, pg.bind.imp (fun x h1 μ1 H1 g1 p1 v rv => ?_) fun _ _ _ _ _ w => w⟩
  exact ⟨μ1, ρ, h1, re.mono g1.tp g1.pre, g1.rh, p1.bind.imp (fun y h2 μ2 H2 g2 p2 u ru => ⟨μ2, h2, x, y, _, g2.rh, rv.mono g2.tp g2.pre, ru, p2⟩) fun _ _ _ _ _ w => w⟩
theorem sCmp {o : CmpOp} (hu : X.A.units + 65 < cLine) (sy : SysOk X.base) (hp : plainX b = true) (ha : PE X a (tE X.K cl W ma)) (hb : PE X b (tE X.K cl W mb)) :
    PE X (.Compare a [o] [b] pos) (tE X.K cl W fun ρ h => (ma ρ h).bind fun x h => (mb ρ h).bind fun y h => cmpD o x y h) := by
  refine wkE (pe_cmpR (opr_cmp (cl := cl) hu sy o) ha hb (mark_plain hp)) fun σ H Q ⟨μ, ρ, h, re, rh, pg⟩ => ⟨μ, ρ, h, re, rh, pg.bind.imp (fun x h1 μ1 H1 g1 p1 v rv => ?_) fun _ _ _ _ _ w => w⟩
  exact ⟨μ1, ρ, h1, re.mono g1.tp g1.pre, g1.rh, p1.bind.imp (fun y h2 μ2 H2 g2 p2 u ru => ⟨μ2, h2, x, y, _, g2.rh, rv.mono g2.tp g2.pre, ru, p2⟩) fun _ _ _ _ _ w => w⟩
theorem sCmpT {o : CmpOp} (hu : X.A.units + 65 < cLine) (sy : SysOk X.base) (hp : plainX b = true) (ha : PE X a (tE X.K cl W ma)) (hb : PE X b (tE X.K cl W mb)) :
    PT X (.Compare a [o] [b] pos) (tT X.K cl W fun ρ h => ((ma ρ h).bind fun x h => (mb ρ h).bind fun y h => cmpD o x y h).bind asBl) := by
  refine wkT (pt_cmpR (opr_cmp (cl := cl) hu sy o) ha hb (mark_plain hp)) fun σ H Q ⟨μ, ρ, h, re, rh, pg⟩ => ?_
  have pg := pg.bind
  refine ⟨μ, ρ, h, re, rh, pg.bind.imp (fun x h1 μ1 H1 g1 p1 v rv => ?_) fun _ _ _ _ _ w => w⟩
  refine ⟨μ1, ρ, h1, re.mono g1.tp g1.pre, g1.rh, p1.bind.imp (fun y h2 μ2 H2 g2 p2 u ru => ⟨μ2, h2, x, y, _, g2.rh, rv.mono g2.tp g2.pre, ru, p2.imp (fun d h3 μ3 H3 g3 p3 z rz => ?_) fun _ _ _ _ _ w => w⟩) fun _ _ _ _ _ w => w⟩
  unfold asBl at p3
  split at p3
  · rw [Rl.bl_iff] at rz
    exact ⟨_, rz, p3 μ3 H3 (.refl g3.rh)⟩
  · exact p3.elim
theorem sNeg (ha : PE X a (tE X.K cl W ma)) : PE X (.UnaryOp .USub a pos) (tE X.K cl W fun ρ h => (ma ρ h).bind fun x h => match x with | .int i => .ok (.int (-i)) h | _ => .bad) := by
  refine wkE (pe_un un_neg ha) fun σ H Q ⟨μ, ρ, h, re, rh, pg⟩ => ⟨μ, ρ, h, re, rh, pg.bind.imp (fun x h1 μ1 H1 g1 p1 v rv => ?_) fun _ _ _ _ _ w => w⟩
  split at p1
  · rw [Rl.int_iff] at rv
    exact ⟨_, rv, p1.val g1.rh (Rl.int_iff.mpr rfl)⟩
  · exact p1.elim
theorem sNot (ha : PE X a (tE X.K cl W ma)) : PE X (.UnaryOp .Not a pos) (tE X.K cl W fun ρ h => (ma ρ h).bind fun x h => match x with | .bl b => .ok (.bl (!b)) h | _ => .bad) := by
  refine wkE (pe_not ha) fun σ H Q ⟨μ, ρ, h, re, rh, pg⟩ => ⟨μ, ρ, h, re, rh, pg.bind.imp (fun x h1 μ1 H1 g1 p1 v rv => ?_) fun _ _ _ _ _ w => w⟩
  split at p1
  · rw [Rl.bl_iff] at rv
    exact ⟨_, rv, p1.val g1.rh (Rl.bl_iff.mpr rfl)⟩
  · exact p1.elim
/-- two tests one behind the other, as values -/
theorem sAnd {rest : List Expr} (ha : PE X a (tE X.K cl W ma)) (hb : PE X (.BoolOp .And (b :: rest) pos) (tE X.K cl W mb)) :
    PE X (.BoolOp .And (a :: b :: rest) pos) (tE X.K cl W fun ρ h => (ma ρ h).bind fun x h => match x with | .bl true => mb ρ h | .bl false => .ok (.bl false) h | _ => .bad) := by
  refine wkE (pe_and ha hb) fun σ H Q ⟨μ, ρ, h, re, rh, pg⟩ => ⟨μ, ρ, h, re, rh, pg.bind.imp (fun x h1 μ1 H1 g1 p1 v rv => ?_) fun _ _ _ _ _ w => w⟩
  split at p1
  · rw [Rl.bl_iff] at rv
    refine ⟨_, rv, ?_⟩
    rw [if_pos rfl]
    exact ⟨μ1, ρ, h1, re.mono g1.tp g1.pre, g1.rh, p1⟩
  · rw [Rl.bl_iff] at rv
    refine ⟨_, rv, ?_⟩
    rw [if_neg (by decide)]
    exact p1.val g1.rh (Rl.bl_iff.mpr rfl)
  · exact p1.elim
theorem sOr {rest : List Expr} (ha : PE X a (tE X.K cl W ma)) (hb : PE X (.BoolOp .Or (b :: rest) pos) (tE X.K cl W mb)) :
    PE X (.BoolOp .Or (a :: b :: rest) pos) (tE X.K cl W fun ρ h => (ma ρ h).bind fun x h => match x with | .bl false => mb ρ h | .bl true => .ok (.bl true) h | _ => .bad) := by
  refine wkE (pe_or ha hb) fun σ H Q ⟨μ, ρ, h, re, rh, pg⟩ => ⟨μ, ρ, h, re, rh, pg.bind.imp (fun x h1 μ1 H1 g1 p1 v rv => ?_) fun _ _ _ _ _ w => w⟩
  split at p1
  · rw [Rl.bl_iff] at rv
    refine ⟨_, rv, ?_⟩
    rw [if_neg (by decide)]
    exact ⟨μ1, ρ, h1, re.mono g1.tp g1.pre, g1.rh, p1⟩
  · rw [Rl.bl_iff] at rv
    refine ⟨_, rv, ?_⟩
    rw [if_pos rfl]
    exact p1.val g1.rh (Rl.bl_iff.mpr rfl)
  · exact p1.elim
/-- .. as tests -/
theorem sAndT {rest : List Expr} {mb : En → Hh → R D} (ha : PT X a (tT X.K cl W fun ρ h => (ma ρ h).bind asBl)) (hb : PW X (.BoolOp .And (b :: rest) pos) (tT X.K cl W fun ρ h => (mb ρ h).bind asBl)) :
    PW X (.BoolOp .And (a :: b :: rest) pos) (tT X.K cl W fun ρ h => ((ma ρ h).bind fun x h => match x with | .bl true => mb ρ h | .bl false => .ok (.bl false) h | _ => .bad).bind asBl) := by
  refine wkW (pw_and ha hb) fun σ H Q ⟨μ, ρ, h, re, rh, pg⟩ => ⟨μ, ρ, h, re, rh, ?_⟩
  dsimp only at pg ⊢
  cases e : ma ρ h with
  | bad => rw [e] at pg; exact pg
  | ex x h1 => rw [e] at pg; exact pg
  | ok x h1 =>
    rw [e] at pg
    cases x with
    | bl t =>
      intro μ1 H1 g1
      have p1 := Pg.far g1 pg
      cases t with
      | true =>
        rw [if_pos rfl]
        exact ⟨μ1, ρ, h1, re.mono g1.tp g1.pre, g1.rh, p1⟩
      | false =>
        rw [if_neg (by decide)]
        exact p1 μ1 H1 (.refl g1.rh)
    | _ => exact pg
theorem sOrT {rest : List Expr} {mb : En → Hh → R D} (ha : PT X a (tT X.K cl W fun ρ h => (ma ρ h).bind asBl)) (hb : PW X (.BoolOp .Or (b :: rest) pos) (tT X.K cl W fun ρ h => (mb ρ h).bind asBl)) :
    PW X (.BoolOp .Or (a :: b :: rest) pos) (tT X.K cl W fun ρ h => ((ma ρ h).bind fun x h => match x with | .bl false => mb ρ h | .bl true => .ok (.bl true) h | _ => .bad).bind asBl) := by
  refine wkW (pw_or ha hb) fun σ H Q ⟨μ, ρ, h, re, rh, pg⟩ => ⟨μ, ρ, h, re, rh, ?_⟩
  dsimp only at pg ⊢
  cases e : ma ρ h with
  | bad => rw [e] at pg; exact pg
  | ex x h1 => rw [e] at pg; exact pg
  | ok x h1 =>
    rw [e] at pg
    cases x with
    | bl t =>
      intro μ1 H1 g1
      have p1 := Pg.far g1 pg
      cases t with
      | true =>
        rw [if_pos rfl]
        exact p1 μ1 H1 (.refl g1.rh)
      | false =>
        rw [if_neg (by decide)]
        exact ⟨μ1, ρ, h1, re.mono g1.tp g1.pre, g1.rh, p1⟩
    | _ => exact pg
theorem sNotT (ha : PT X a (tT X.K cl W fun ρ h => (ma ρ h).bind asBl)) : PT X (.UnaryOp .Not a pos) (tT X.K cl W fun ρ h => ((ma ρ h).bind fun x h => match x with | .bl b => .ok (.bl (!b)) h | _ => .bad).bind asBl) := by
  refine wkT (pt_not ha) fun σ H Q ⟨μ, ρ, h, re, rh, pg⟩ => ⟨μ, ρ, h, re, rh, ?_⟩
  dsimp only at pg ⊢
  cases e : ma ρ h with
  | bad => rw [e] at pg; exact pg
  | ex x h1 => rw [e] at pg; exact pg
  | ok x h1 =>
    rw [e] at pg
    cases x with
    | bl t => exact fun μ1 H1 g1 => pg μ1 H1 g1
    | _ => exact pg
theorem sValT (hp : plainB a = true) (ha : PE X a (tE X.K cl W ma)) : PT X a (tT X.K cl W fun ρ h => (ma ρ h).bind asBl) := by
  refine wkT (pt_val ha (fun _ => by cases a <;> first | rfl | (simp [plainB] at hp))) fun σ H Q ⟨μ, ρ, h, re, rh, pg⟩ => ⟨μ, ρ, h, re, rh, pg.bind.imp (fun x h1 μ1 H1 g1 p1 v rv => ?_) fun _ _ _ _ _ w => w⟩
  unfold asBl at p1
  split at p1
  · rw [Rl.bl_iff] at rv
    exact ⟨_, rv, p1 μ1 H1 (.refl g1.rh)⟩
  · exact p1.elim
theorem sIfe (hc : PT X c (tT X.K cl W fun ρ h => (mc ρ h).bind asBl)) (ha : PE X a (tE X.K cl W ma)) (hb : PE X b (tE X.K cl W mb)) :
    PE X (.IfExp c a b pos) (tE X.K cl W fun ρ h => (mc ρ h).bind fun x h => match x with | .bl true => ma ρ h | .bl false => mb ρ h | _ => .bad) := by
  refine wkE (pe_ifExp hc ha hb) fun σ H Q ⟨μ, ρ, h, re, rh, pg⟩ => ⟨μ, ρ, h, re, rh, ?_⟩
  dsimp only at pg ⊢
  cases e : mc ρ h with
  | bad => rw [e] at pg; exact pg
  | ex x h1 => rw [e] at pg; exact pg
  | ok x h1 =>
    rw [e] at pg
    cases x with
    | bl t =>
      intro μ1 H1 g1
      have p1 := Pg.far g1 pg
      cases t with
      | true => rw [if_pos rfl]; exact ⟨μ1, ρ, h1, re.mono g1.tp g1.pre, g1.rh, p1⟩
      | false => rw [if_neg (by decide)]; exact ⟨μ1, ρ, h1, re.mono g1.tp g1.pre, g1.rh, p1⟩
    | _ => exact pg
theorem sCmp2 {o p : CmpOp} (hu : X.A.units + 65 < cLine) (sy : SysOk X.base) (hb' : plainX b = true) (hc' : plainX c = true) (ha : PE X a (tE X.K cl W ma)) (hb : PE X b (tE X.K cl W mb)) (hc : PE X c (tE X.K cl W mc)) :
    PE X (.Compare a [o, p] [b, c] pos) (tE X.K cl W fun ρ h => (ma ρ h).bind fun x h => (mb ρ h).bind fun y h => (cmpD o x y h).bind fun r h => match r with
      | .bl true => (mc ρ h).bind fun z h => cmpD p y z h
      | .bl false => .ok (.bl false) h
      | _ => .bad) := by
  refine wkE (pe_chain (opr_cmp (cl := cl) hu sy o) (opr_cmp (cl := cl) hu sy p) ha hb hc (by show behindInMarks p c = false; exact mark_plain hc')) fun σ H Q ⟨μ, ρ, h, re, rh, pg⟩ => ⟨μ, ρ, h, re, rh, pg.bind.imp (fun x h1 μ1 H1 g1 p1 v rv => ?_) fun _ _ _ _ _ w => w⟩
  refine ⟨μ1, ρ, h1, re.mono g1.tp g1.pre, g1.rh, p1.bind.imp (fun y h2 μ2 H2 g2 p2 u ru => ⟨μ2, h2, x, y, _, g2.rh, rv.mono g2.tp g2.pre, ru, p2.bind.imp (fun r h3 μ3 H3 g3 p3 w rw' => ?_) fun _ _ _ _ _ w => w⟩) fun _ _ _ _ _ w => w⟩
  split at p3
  · rw [Rl.bl_iff] at rw'
    refine ⟨_, rw', ?_⟩
    rw [if_pos rfl]
    exact ⟨μ3, ρ, h3, (re.mono g1.tp g1.pre).mono (g2.tp.trans g3.tp) (g2.pre.trans g3.pre), g3.rh, p3.bind.imp (fun z h4 μ4 H4 g4 p4 t rt => ⟨μ4, h4, y, z, _, g4.rh, ru.mono (g3.tp.trans g4.tp) (g3.pre.trans g4.pre), rt, p4⟩) fun _ _ _ _ _ w => w⟩
  · rw [Rl.bl_iff] at rw'
    refine ⟨_, rw', ?_⟩
    rw [if_neg (by decide)]
    exact p3.val g3.rh (Rl.bl_iff.mpr rfl)
  · exact p3.elim
theorem sCmp2T {o p : CmpOp} (hu : X.A.units + 65 < cLine) (sy : SysOk X.base) (hb' : plainX b = true) (hc' : plainX c = true) (ha : PE X a (tE X.K cl W ma)) (hb : PE X b (tE X.K cl W mb)) (hc : PE X c (tE X.K cl W mc)) :
    PT X (.Compare a [o, p] [b, c] pos) (tT X.K cl W fun ρ h => ((ma ρ h).bind fun x h => (mb ρ h).bind fun y h => (cmpD o x y h).bind fun r h => match r with
      | .bl true => (mc ρ h).bind fun z h => cmpD p y z h
      | .bl false => .ok (.bl false) h
      | _ => .bad).bind asBl) := by
  have fin : ∀ {Q : Bool → Hp → Prop} {d : D} {h3 : Hh} {μ3 : List Addr} {H3 : Hp} {z : V} {Wx}, RlH X.K cl H3 μ3 h3 → Pg X.K cl μ3 H3 (asBl d h3) (fun b _ _ H' => Q b H') Wx → Rl X.K cl H3 μ3 d z → ∃ k, z = .bl k ∧ Q k H3 := fun {Q d h3 μ3 H3 z Wx} r p q => by
    unfold asBl at p
    split at p
    · rw [Rl.bl_iff] at q
      exact ⟨_, q, p μ3 H3 (.refl r)⟩
    · exact p.elim
  refine wkT (pt_chain (opr_cmp (cl := cl) hu sy o) (opr_cmp (cl := cl) hu sy p) ha hb hc (by show behindInMarks p c = false; exact mark_plain hc')) fun σ H Q ⟨μ, ρ, h, re, rh, pg⟩ => ?_
  have pg := pg.bind
  refine ⟨μ, ρ, h, re, rh, pg.bind.imp (fun x h1 μ1 H1 g1 p1 v rv => ?_) fun _ _ _ _ _ w => w⟩
  refine ⟨μ1, ρ, h1, re.mono g1.tp g1.pre, g1.rh, p1.bind.imp (fun y h2 μ2 H2 g2 p2 u ru => ⟨μ2, h2, x, y, _, g2.rh, rv.mono g2.tp g2.pre, ru, p2.bind.imp (fun r h3 μ3 H3 g3 p3 w rw' => ?_) fun _ _ _ _ _ w => w⟩) fun _ _ _ _ _ w => w⟩
  split at p3
  · rw [Rl.bl_iff] at rw'
    refine ⟨_, rw', ?_⟩
    rw [if_pos rfl]
    exact ⟨μ3, ρ, h3, (re.mono g1.tp g1.pre).mono (g2.tp.trans g3.tp) (g2.pre.trans g3.pre), g3.rh, p3.bind.imp (fun z h4 μ4 H4 g4 p4 t rt => ⟨μ4, h4, y, z, _, g4.rh, ru.mono (g3.tp.trans g4.tp) (g3.pre.trans g4.pre), rt, p4.imp (fun d h5 μ5 H5 g5 p5 t2 rt2 => fin g5.rh p5 rt2) fun _ _ _ _ _ w => w⟩) fun _ _ _ _ _ w => w⟩
  · rw [Rl.bl_iff] at rw'
    refine ⟨_, rw', ?_⟩
    rw [if_neg (by decide)]
    exact fin g3.rh (p3 μ3 H3 (.refl g3.rh)) (Rl.bl_iff.mpr rfl)
  · exact p3.elim
/-! ### displays, arguments -/
theorem sNil : PA X [] (tA X.K cl W fun _ h => .ok [] h) := wkA pa_nil fun σ H Q ⟨μ, ρ, h, re, rh, pg⟩ => pg μ H (.refl rh) _ (Rls.nil.mpr rfl)
theorem sCons {es : List Expr} {ms : En → Hh → R (List D)} (hp : plainX a = true) (ha : PE X a (tE X.K cl W ma)) (hs : PA X es (tA X.K cl W ms)) :
    PA X (a :: es) (tA X.K cl W fun ρ h => (ma ρ h).bind fun x h => (ms ρ h).bind fun xs h => .ok (x :: xs) h) := by
  refine wkA (pa_cons ha hs (star_cons hp)) fun σ H Q ⟨μ, ρ, h, re, rh, pg⟩ => ⟨μ, ρ, h, re, rh, pg.bind.imp (fun x h1 μ1 H1 g1 p1 v rv => ?_) fun _ _ _ _ _ w => w⟩
  exact ⟨μ1, ρ, h1, re.mono g1.tp g1.pre, g1.rh, p1.bind.imp (fun xs h2 μ2 H2 g2 p2 vs rvs => p2 μ2 H2 (.refl g2.rh) _ (Rls.cons.mpr ⟨v, vs, rfl, rv.mono g2.tp g2.pre, rvs⟩)) fun _ _ _ _ _ w => w⟩
theorem sTup {es : List Expr} {ms : En → Hh → R (List D)} {k : Nat} (hs : PA X es (tA X.K cl W ms)) : PE X (.Tuple es k pos) (tE X.K cl W fun ρ h => (ms ρ h).bind fun xs h => if lineOk xs.length then .ok (.tup xs) h else .bad) := by
  refine wkE (pe_tup hs) fun σ H Q ⟨μ, ρ, h, re, rh, pg⟩ => ⟨μ, ρ, h, re, rh, pg.bind.imp (fun xs h1 μ1 H1 g1 p1 vs rv => ?_) fun _ _ _ _ _ w => w⟩
  split at p1
  · rename_i hl
    have hl := lineOk_le hl
    rw [rv.length] at hl
    exact ⟨hl, fun p np => p1.tup g1.rh rv np⟩
  · exact p1.elim
theorem sLst {es : List Expr} {ms : En → Hh → R (List D)} (hs : PA X es (tA X.K cl W ms)) : PE X (.List es pos) (tE X.K cl W fun ρ h => (ms ρ h).bind fun xs h => if lineOk xs.length then alloc (.lst xs) h else .bad) := by
  refine wkE (pe_lst hs) fun σ H Q ⟨μ, ρ, h, re, rh, pg⟩ => ⟨μ, ρ, h, re, rh, pg.bind.imp (fun xs h1 μ1 H1 g1 p1 vs rv => ?_) fun _ _ _ _ _ w => w⟩
  split at p1
  · rename_i hl
    have hl := lineOk_le hl
    rw [rv.length] at hl
    exact ⟨hl, fun p np => p1.lst g1.rh rv np⟩
  · exact p1.elim
theorem sDic : PE X (.Dict [] [] pos) (tE X.K cl W fun _ h => alloc (.dic []) h) := by
  refine wkE pe_dnewK fun σ H Q ⟨μ, ρ, h, re, rh, pg⟩ p np => ?_
  refine pg (μ ++ [p]) _ (.alloc rh np ⟨rfl, upd_same⟩) _ (Rl.ref_iff.mpr ⟨p, rfl, ?_⟩)
  rw [← rh.len]
  simp
/-! ### subscripts, slices -/
theorem sIdx (hp : plainX b = true) (ha : PE X a (tE X.K cl W ma)) (hb : PE X b (tE X.K cl W mb)) : PE X (.Subscript a b pos) (tE X.K cl W fun ρ h => (ma ρ h).bind fun x h => (mb ρ h).bind fun y h => ixD x y h) := by
  refine wkE (pe_ix (ixr (cl := cl)) ha hb (sub_plain hp)) fun σ H Q ⟨μ, ρ, h, re, rh, pg⟩ => ⟨μ, ρ, h, re, rh, pg.bind.imp (fun x h1 μ1 H1 g1 p1 v rv => ?_) fun _ _ _ _ _ w => w⟩
  exact ⟨μ1, ρ, h1, re.mono g1.tp g1.pre, g1.rh, p1.bind.imp (fun y h2 μ2 H2 g2 p2 u ru => ⟨μ2, h2, x, y, _, g2.rh, rv.mono g2.tp g2.pre, ru, p2⟩) fun _ _ _ _ _ w => w⟩
theorem sNo : PO X none (tO X.K cl W fun _ h => .ok none h) := wkO po_none fun σ H Q ⟨μ, ρ, h, re, rh, pg⟩ => pg μ H (.refl rh)
theorem sSo (ha : PE X a (tE X.K cl W ma)) : PO X (some a) (tO X.K cl W fun ρ h => (ma ρ h).bind fun x h => getI x h) := by
  refine wkO (po_some ha) fun σ H Q ⟨μ, ρ, h, re, rh, pg⟩ => ⟨μ, ρ, h, re, rh, pg.bind.imp (fun x h1 μ1 H1 g1 p1 v rv => ?_) fun _ _ _ _ _ w => w⟩
  unfold getI at p1
  split at p1
  · rw [Rl.int_iff] at rv
    exact ⟨_, rv, p1 μ1 H1 (.refl g1.rh)⟩
  · exact p1.elim
theorem sSlc {lo hi : Option Expr} {ml mh : En → Hh → R (Option Int)} {p2 : Pos} (ha : PE X a (tE X.K cl W ma)) (hl : PO X lo (tO X.K cl W ml)) (hh : PO X hi (tO X.K cl W mh)) :
    PE X (.Subscript a (.Slice lo hi none p2) pos) (tE X.K cl W fun ρ h => (ma ρ h).bind fun x h => (ml ρ h).bind fun l h => (mh ρ h).bind fun u h => slD x l u h) := by
  refine wkE (pe_slice (slr (cl := cl)) ha hl hh) fun σ H Q ⟨μ, ρ, h, re, rh, pg⟩ => ⟨μ, ρ, h, re, rh, pg.bind.imp (fun x h1 μ1 H1 g1 p1 v rv => ?_) fun _ _ _ _ _ w => w⟩
  refine ⟨μ1, ρ, h1, re.mono g1.tp g1.pre, g1.rh, p1.bind.imp (fun l h2 μ2 H2 g2 p2 => ?_) fun _ _ _ _ _ w => w⟩
  exact ⟨μ2, ρ, h2, (re.mono g1.tp g1.pre).mono g2.tp g2.pre, g2.rh, p2.bind.imp (fun u h3 μ3 H3 g3 p3 => ⟨μ3, h3, x, _, g3.rh, rv.mono (g2.tp.trans g3.tp) (g2.pre.trans g3.pre), p3⟩) fun _ _ _ _ _ w => w⟩
end
end HS

/-! Calls, comprehensions, targets, statements. -/
namespace HS
open PySem L2 PyProof.Rows

/-- a def's promise by the evaluator -/
def spF (K : PySem.W.Frag) (cl : Md) (m : Fn) : Sp := fun vs H Q E => ∃ μ h ds, RlH K cl H μ h ∧ Rls K cl H μ ds vs ∧ Pg K cl μ H (m ds h) (VP K cl Q) (fun e _ μ' H' => ∀ c dd, RlX K cl H' μ' e c dd → E c dd H')
/-- the def at f keeps it, wherever nothing is being written out -/
structure FnG (P : Program) (w : World) (K : PySem.W.Frag) (mg : Str → Option Value) (base : Heap) (k : Nat) (f : Addr) (fd : FuncData) (ps : List Str) (sp : Sp) : Prop where
  len : ∀ vs H Q E, sp vs H Q E → vs.length = ps.length
  run : ∀ (A : Around) (outer : List Env) (s : Shared) (H : Hp) (args : Args) (us : List Value) (vs : List V) (Q : VK) (E : XK), A.guards = some [] → Room k A → Env0 P w K mg base A outer s H → BindsTo s fd args (ps.zip us) → Vals vs us → sp vs H Q E →
    codeAny (model P w) A (.call (.ref f) args) (CR (L2.CX P w) outer P w H s Q E) s
theorem FnG.mono {P : Program} {w : World} {K : PySem.W.Frag} {mg : Str → Option Value} {base : Heap} {j k : Nat} {f : Addr} {fd : FuncData} {ps : List Str} {sp : Sp} (F : FnG P w K mg base j f fd ps sp) (h : j ≤ k) : FnG P w K mg base k f fd ps sp :=
  ⟨F.len, fun A outer s H args us vs Q E hg hr => F.run A outer s H args us vs Q E hg (hr.mono h)⟩

section
variable {X : Cx} {cl : Md} {W : WX} {m ma mb mc : En → Hh → R D} {a b c : Expr} {pos : Pos}
/-- the callee runs -/
theorem run_g {pins : List (Addr × Obj)} {σ : L2.St} {H : Hp} {s : Shared} {Q : VK} {args : Args} {us : List Value} {vs : List V} {k : Nat} {f : Addr} {fd : FuncData} {ps : List Str} {mf : Fn} (F : FnG X.prog X.w X.K X.mg X.base k f fd ps (spF X.K cl mf)) (hg : X.A.guards = some []) (hr : Room k X.A) (tk : Takes X W)
    (I : Inv X pins σ H s) (hb : BindsTo s fd args (ps.zip us)) (r : Vals vs us) (h : spF X.K cl mf vs H Q (fun c dd H' => W c dd σ H')) : wpAny (model X.prog X.w) X.A (call (.ref f) args.pos args.kw) (EP X pins σ Q) X.xe s := by
  refine wpAny_call (codeAny_mono (F.run X.A X.stack s H args us vs Q _ hg hr I.env0 hb r h) fun r s' q => ?_)
  cases r with
  | error e => exact tk e s' (XE.of_call I (fun _ _ _ z => z) q)
  | ok fl =>
    cases fl with
    | ret u => exact I.after q
    | next => exact False.elim q
    | brk => exact False.elim q
    | cont => exact False.elim q
/-- what is known of a def that is called -/
structure Cal (X : Cx) (cl : Md) (k : Nat) (x : Str) (ps : List Str) (mf : Fn) (f : Addr) (fd : FuncData) : Prop where
  fn : FnG X.prog X.w X.K X.mg X.base k f fd ps (spF X.K cl mf)
  mg : X.mg x = some (.ref f)
  kp : PySem.W.keepIn X.K (.ref f) = true
  bd : ∀ (s : Shared) (us : List Value), us.length = ps.length → BindsTo s fd ⟨us, []⟩ (ps.zip us)
theorem sCall {k : Nat} {f : Addr} {fd : FuncData} {ps : List Str} {mf : Fn} {x : Str} {p : Pos} {e : Expr} {es : List Expr} {ms : En → Hh → R (List D)} (F : Cal X cl k x ps mf f fd) (hg : X.A.guards = some []) (hr : Room k X.A) (tk : Takes X W)
    (hx : Gl X x) (hd : (x == ("__debug__" : Str)) = false) (hp : (e :: es).all plainX = true) (hs : PA X (e :: es) (tA X.K cl W ms)) :
    PE X (.Call (.Name x p) (e :: es) [] pos) (tE X.K cl W fun ρ h => (ms ρ h).bind fun xs h => mf xs h) := by
  refine ⟨fun pins s σ H Q I ⟨μ, ρ, h, re, rh, pg⟩ => ?_⟩
  refine wpAny_Call_Name_kw (ld_glob I hx F.mg ?_ hd)
  have arg : wpAny (model X.prog X.w) X.A (spliced (backTo pos (starEach (e :: es) X.env))) (AP X pins σ fun vs H1 => spF X.K cl mf vs H1 Q fun c dd H' => W c dd σ H') X.xe s :=
    hs.run pos pins s σ H _ I ⟨μ, ρ, h, re, rh, pg.bind.imp (fun xs h1 μ1 H1 g1 p1 vs rv => ⟨μ1, h1, xs, g1.rh, rv, p1⟩) fun _ _ _ _ _ w => w⟩
  simp only [List.all_cons, Bool.and_eq_true] at hp
  refine PySem.W.callWith_K (h₀ := X.base) I.ok.mod.kin F.kp (thn arg fun us s1 ⟨vs, H1, I1, r, q⟩ => ⟨I1.kIn, ?_⟩) (star_cons hp.1) (back_plain hp.2)
  have hl := F.fn.len _ _ _ _ q
  exact run_g F.fn hg hr tk I1 (F.bd s1 us (by rw [← r.length]; exact hl)) r q
theorem sCall0 {k : Nat} {f : Addr} {fd : FuncData} {ps : List Str} {mf : Fn} {x : Str} {p : Pos} (F : Cal X cl k x ps mf f fd) (hg : X.A.guards = some []) (hr : Room k X.A) (tk : Takes X W)
    (hx : Gl X x) (hd : (x == ("__debug__" : Str)) = false) : PE X (.Call (.Name x p) [] [] pos) (tE X.K cl W fun _ h => mf [] h) := by
  refine ⟨fun pins s σ H Q I ⟨μ, ρ, h, re, rh, pg⟩ => ?_⟩
  refine wpAny_Call_Name_kw (ld_glob I hx F.mg ?_ hd)
  have q : spF X.K cl mf [] H Q (fun c dd H' => W c dd σ H') := ⟨μ, h, [], rh, Rls.nil.mpr rfl, pg⟩
  have hl := F.fn.len _ _ _ _ q
  exact PySem.W.callWith_K0 I.kIn F.kp (run_g (us := []) F.fn hg hr tk I (F.bd s [] (by simpa using hl)) .nil q)
theorem sKNil : PK X [] (tA X.K cl W fun _ h => .ok [] h) := ⟨fun pos pins s σ H Q I ⟨μ, ρ, h, re, rh, pg⟩ => pk_nil.run pos pins s σ H Q I (pg μ H (.refl rh) _ (Rls.nil.mpr rfl))⟩
theorem sKCons {ks : List Keyword} {nm : Option Str} {kpos : Pos} {ms : En → Hh → R (List D)} (ha : PE X a (tE X.K cl W ma)) (hs : PK X ks (tA X.K cl W ms)) :
    PK X (⟨nm, a, kpos⟩ :: ks) (tA X.K cl W fun ρ h => (ma ρ h).bind fun x h => (ms ρ h).bind fun xs h => .ok (x :: xs) h) := by
  refine ⟨fun pos pins s σ H Q I ⟨μ, ρ, h, re, rh, pg⟩ => (pk_cons ha hs).run pos pins s σ H Q I ⟨μ, ρ, h, re, rh, pg.bind.imp (fun x h1 μ1 H1 g1 p1 v rv => ?_) fun _ _ _ _ _ w => w⟩⟩
  exact ⟨μ1, ρ, h1, re.mono g1.tp g1.pre, g1.rh, p1.bind.imp (fun xs h2 μ2 H2 g2 p2 vs rvs => p2 μ2 H2 (.refl g2.rh) _ (Rls.cons.mpr ⟨v, vs, rfl, rv.mono g2.tp g2.pre, rvs⟩)) fun _ _ _ _ _ w => w⟩
/-- how keywords bind -/
def KwOk (fd : FuncData) (ps nm : List Str) (np : Nat) (idx : List Nat) : Prop :=
  ∀ (s : Shared) (us ws : List Value), us.length = np → ws.length = nm.length → BindsTo s fd ⟨us, nm.zip ws⟩ (ps.zip (us ++ idx.map fun i => ws.getD i .none))
theorem Rls.pick {K : PySem.W.Frag} {H : Hp} {μ : List Addr} {ds : List D} {vs : List V} (r : Rls K cl H μ ds vs) : ∀ idx : List Nat, idx.all (· < ds.length) = true → Rls K cl H μ (idx.map fun i => ds.getD i .non) (idx.map fun i => vs.getD i .non)
  | [], _ => Rls.nil.mpr rfl
  | i :: idx, h => by
    simp only [List.all_cons, Bool.and_eq_true, decide_eq_true_eq] at h
    obtain ⟨v, ev, rv⟩ := r.get (show ds[i]? = some ds[i] by simp [h.1])
    rw [List.map_cons, List.map_cons, Rls.cons]
    refine ⟨_, _, rfl, ?_, Rls.pick r idx (by simpa using h.2)⟩
    rw [List.getD_eq_getElem?_getD, List.getD_eq_getElem?_getD, ev]
    simp [h.1]
    exact rv
theorem vals_pick {vs : List V} {us : List Value} (r : Vals vs us) : ∀ idx : List Nat, idx.all (· < vs.length) = true → Vals (idx.map fun i => vs.getD i .non) (idx.map fun i => us.getD i .none)
  | [], _ => .nil
  | i :: idx, h => by
    simp only [List.all_cons, Bool.and_eq_true, decide_eq_true_eq] at h
    obtain ⟨u, eu, ru⟩ := r.get (show vs[i]? = some vs[i] by simp [h.1])
    refine .cons ?_ (vals_pick r idx (by simpa using h.2))
    show RelV (vs.getD i .non) (us.getD i .none)
    rw [List.getD_eq_getElem?_getD, List.getD_eq_getElem?_getD, eu]
    simp [h.1]
    exact ru
theorem sCallk {k np : Nat} {f : Addr} {fd : FuncData} {ps nm : List Str} {idx : List Nat} {mf : Fn} {x : Str} {p : Pos} {es : List Expr} {ks : List Keyword} {ms mk : En → Hh → R (List D)} (F : Cal X cl k x ps mf f fd) (kw : KwOk fd ps nm np idx) (hg : X.A.guards = some []) (hr : Room k X.A) (tk : Takes X W)
    (hx : Gl X x) (hd : (x == ("__debug__" : Str)) = false) (hp : es.all plainX = true) (hnp : es.length = np) (hnm : ks.map (·.arg) = nm.map some) (hidx : idx.all (· < nm.length) = true) (hm0 : es = [] → ms = fun _ h => .ok [] h) (hms : ∀ ρ h xs h', ms ρ h = .ok xs h' → xs.length = es.length) (hmk : ∀ ρ h xs h', mk ρ h = .ok xs h' → xs.length = ks.length)
    (hs : PA X es (tA X.K cl W ms)) (hk : PK X ks (tA X.K cl W mk)) :
    PE X (.Call (.Name x p) es ks pos) (tE X.K cl W fun ρ h => (ms ρ h).bind fun xs h => (mk ρ h).bind fun ys h => mf (xs ++ idx.map fun i => ys.getD i .non) h) := by
  have nmz : ∀ (ks : List Keyword) (nm : List Str), ks.map (·.arg) = nm.map some → (backToKw pos (keywordEach ks X.env)).all (·.1.isSome) = true ∧ (backToKw pos (keywordEach ks X.env)).filterMap (·.1) = nm ∧ (backToKw pos (keywordEach ks X.env)).any (·.1.isNone) = false := by
    intro ks
    induction ks with
    | nil =>
      intro nm h
      cases nm with
      | nil => exact ⟨rfl, rfl, rfl⟩
      | cons _ _ => simp at h
    | cons q ks ih =>
      intro nm h
      cases nm with
      | nil => simp at h
      | cons y nm =>
        simp only [List.map_cons, List.cons.injEq] at h
        obtain ⟨h1, h2, h3⟩ := ih nm h.2
        obtain ⟨an, v, kp⟩ := q
        have e : an = some y := h.1
        subst e
        exact ⟨h1, congrArg (y :: ·) h2, h3⟩
  obtain ⟨n1, n2, n3⟩ := nmz ks nm hnm
  have lks : ks.length = nm.length := by simpa using congrArg List.length hnm
  refine ⟨fun pins s σ H Q I ⟨μ, ρ, h, re, rh, pg⟩ => ?_⟩
  refine wpAny_Call_Name_kw (ld_glob I hx F.mg ?_ hd)
  have pg := pg.bind
  have fin : ∀ {us ws : List Value} {vs zs : List V} {s2 : Shared} {H2 : Hp}, Inv X pins σ H2 s2 → Vals vs us → Vals zs ws → vs.length = np → zs.length = nm.length → spF X.K cl mf (vs ++ idx.map fun i => zs.getD i .non) H2 Q (fun c dd H' => W c dd σ H') → wpAny (model X.prog X.w) X.A (call (.ref f) us (nm.zip ws)) (EP X pins σ Q) X.xe s2 :=
    fun {us ws vs zs s2 H2} I2 r rz l1 l2 q => run_g (args := ⟨us, nm.zip ws⟩) F.fn hg hr tk I2 (kw s2 us ws (by rw [← r.length]; exact l1) (by rw [← rz.length]; exact l2)) (r.append (vals_pick rz idx (by rw [l2]; exact hidx))) q
  have kws : ∀ {us : List Value} {vs : List V} {s1 : Shared} {H1 : Hp} {xs : List D} {h1 : Hh} {μ1 : List Addr}, Inv X pins σ H1 s1 → Vals vs us → xs.length = np → RlE X.K cl H1 μ1 σ ρ → RlH X.K cl H1 μ1 h1 → Rls X.K cl H1 μ1 xs vs →
      Pg X.K cl μ1 H1 ((mk ρ h1).bind fun ys h => mf (xs ++ idx.map fun i => ys.getD i .non) h) (VP X.K cl Q) (wX X.K cl W σ) →
      wpAny (model X.prog X.w) X.A (evalAll ((backToKw pos (keywordEach ks X.env)).map (·.2))) (fun ws s2 => X.K.In s2.heap ∧ wpAny (model X.prog X.w) X.A (call (.ref f) us (nm.zip ws)) (EP X pins σ Q) X.xe s2) X.xe s1 := by
    intro us vs s1 H1 xs h1 μ1 I1 r lx re1 rh1 rv p1
    have ly : ∀ ys h2, mk ρ h1 = .ok ys h2 → ys.length = nm.length := fun ys h2 e => by rw [← lks]; exact hmk _ _ _ _ e
    refine thn (hk.run pos pins s1 σ H1 (fun zs H2 => zs.length = nm.length ∧ spF X.K cl mf (vs ++ idx.map fun i => zs.getD i .non) H2 Q (fun c dd H' => W c dd σ H')) I1 ⟨μ1, ρ, h1, re1, rh1, ?_⟩) fun ws s2 ⟨zs, H2, I2, rz, lz, q⟩ => ⟨I2.kIn, fin I2 r rz (by rw [← rv.length]; exact lx) lz q⟩
    cases e : mk ρ h1 with
    | bad => rw [e] at p1; exact p1
    | ex x h2 => rw [e] at p1; exact p1
    | ok ys h2 =>
      have l := ly ys h2 e
      rw [e] at p1
      intro μ2 H2 g2 zs rz
      refine ⟨by rw [← rz.length]; exact l, μ2, h2, _, g2.rh, (rv.mono g2.tp g2.pre).append (rz.pick idx (by rw [l]; exact hidx)), ?_⟩
      exact Pg.far g2 p1
  cases es with
  | nil =>
    refine PySem.W.callWith_KW0 (h₀ := X.base) I.ok.mod.kin F.kp n1 ?_ (by show (false || _) = false; rw [n3]; rfl)
    rw [n2]
    rw [hm0 rfl] at pg
    exact kws I .nil hnp re rh (Rls.nil.mpr rfl) (pg μ H (.refl rh))
  | cons e es =>
    simp only [List.all_cons, Bool.and_eq_true] at hp
    refine PySem.W.callWith_KW (h₀ := X.base) I.ok.mod.kin F.kp n1 ?_ (by rw [back_plain (by simpa using hp), n3]; rfl) (star_cons hp.1)
    rw [n2]
    refine thn (hs.run pos pins s σ H (fun vs H1 => ∃ xs h1 μ1, xs.length = np ∧ RlE X.K cl H1 μ1 σ ρ ∧ RlH X.K cl H1 μ1 h1 ∧ Rls X.K cl H1 μ1 xs vs ∧ Pg X.K cl μ1 H1 ((mk ρ h1).bind fun ys h => mf (xs ++ idx.map fun i => ys.getD i .non) h) (VP X.K cl Q) (wX X.K cl W σ)) I ⟨μ, ρ, h, re, rh, ?_⟩) fun us s1 ⟨vs, H1, I1, r, xs, h1, μ1, lx, re1, rh1, rv, p1⟩ => kws I1 r lx re1 rh1 rv p1
    cases q : ms ρ h with
    | bad => rw [q] at pg; exact pg
    | ex x h1 => rw [q] at pg; exact pg
    | ok xs h1 =>
      rw [q] at pg
      exact fun μ1 H1 g1 vs rv => ⟨xs, h1, μ1, by rw [← hnp]; exact hms _ _ _ _ q, re.mono g1.tp g1.pre, g1.rh, rv, pg μ1 H1 g1⟩
/-! ### built-in functions -/
/-- the name of a built-in function -/
def bfN : BF → Str
  | .len => "len" | .abs => "abs" | .int => "int" | .divmod => "divmod" | .gcd => "gcd" | .tuple => "tuple" | .list => "list" | .sum => "sum" | .max => "max" | .min => "min" | .all => "all" | .any => "any" | .repr => "repr" | .sorted => "sorted" | .comb => "comb"
/-- where it is found: math's functions are names of the module -/
def BfOk (mg : Str → Option Value) (b : BF) : Prop :=
  match b with
  | .gcd => mg "gcd" = some (.builtin "math.gcd")
  | .comb => False
  | b => mg (bfN b) = none
theorem boot_bf : ∀ b : BF, b ≠ .gcd → b ≠ .comb → bootBuiltins (bfN b) = some (bfV b) := by
  intro b h1 h2
  cases b <;> first | exact absurd rfl h1 | exact absurd rfl h2 | decide +kernel
theorem sBlt {f : BF} {p : Pos} {es : List Expr} {ms : En → Hh → R (List D)} (hc : X.calm = true) (hg : X.A.guards = some []) (hu : X.A.units + 65 < cLine) (sy : SysOk X.base) (ok : BfOk X.mg f) (hx : Gl X (bfN f)) (hp : (a :: es).all plainX = true) (hs : PA X (a :: es) (tA X.K cl W ms)) :
    PE X (.Call (.Name (bfN f) p) (a :: es) [] pos) (tE X.K cl W fun ρ h => (ms ρ h).bind fun xs h => bltD f xs h) := by
  simp only [List.all_cons, Bool.and_eq_true] at hp
  have s1 := star_cons (es := es) (env := X.env) hp.1
  have s2 := back_plain (pos := pos) (env := X.env) hp.2
  have key : PE X (.Call (.Name (bfN f) p) (a :: es) [] pos) (tCB (tBL X.K cl (bltD f)) (tA X.K cl W ms)) := by
    by_cases h1 : f = .gcd
    · subst h1
      exact pe_callBfun (callr hc hg hu sy .gcd) hx ok hs (by decide) s1 s2
    · by_cases h2 : f = .comb
      · subst h2; exact ok.elim
      · have ok' : X.mg (bfN f) = none := by
          cases f <;> first | exact ok | exact absurd rfl h1 | exact absurd rfl h2
        have bt := boot_bf f h1 h2
        have cr := callr (cl := cl) hc hg hu sy f
        cases f <;> first
          | exact absurd rfl h1
          | exact absurd rfl h2
          | exact pe_callB cr hx ok' bt hs (by decide) (by decide) s1 s2
          | exact pe_callTy cr hx ok' bt hs (by decide) (by decide) s1 s2
  refine wkE key fun σ H Q ⟨μ, ρ, h, re, rh, pg⟩ => ⟨μ, ρ, h, re, rh, pg.bind.imp (fun xs h1 μ1 H1 g1 p1 vs rv => ⟨μ1, h1, xs, _, g1.rh, rv, p1⟩) fun _ _ _ _ _ w => w⟩
theorem sIsi {n : String} {p p2 : Pos} {nm : Str} (hx : Gl X "isinstance") (hm : X.mg "isinstance" = none) (hn : Gl X nm) (hmn : X.mg nm = none) (hbn : bootBuiltins nm = some (.type n)) (hnn : nm ≠ "__name__") (hnd : (nm == ("__debug__" : Str)) = false) (hp : plainX a = true) (ha : PE X a (tE X.K cl W ma)) :
    PE X (.Call (.Name "isinstance" p) [a, .Name nm p2] [] pos) (tE X.K cl W fun ρ h => (ma ρ h).bind fun x h => isiD h x (.b n)) := by
  have st : starEach [a, .Name nm p2] X.env = (false, eval a X.env) :: starEach [.Name nm p2] X.env := star_cons hp
  refine wkE (pe_callB (callr_isi (cl := cl) n) hx hm (by decide +kernel) (pa_cons ha (pa_cons (pe_bltn (v := .ty n) hn hmn hbn rfl hnn hnd) pa_nil (by rfl)) st) (by decide) (by decide) st (by rfl)) fun σ H Q ⟨μ, ρ, h, re, rh, pg⟩ => ⟨μ, ρ, h, re, rh, pg.bind.imp (fun x h1 μ1 H1 g1 p1 v rv => ?_) fun _ _ _ _ _ w => w⟩
  exact ⟨v, μ1, h1, x, _, rfl, g1.rh, rv, p1⟩
/-- l.append(x) -/
theorem sApp {l : Expr} {apos : Pos} {ml : En → Hh → R D} (hbase : attributeBase l "append" X.env (eval l X.env) = eval l X.env) (hline : (apos.endLine == pos.line) = true) (hp : plainX a = true) (hl : PE X l (tE X.K cl W ml)) (ha : PE X a (tE X.K cl W ma)) :
    PE X (.Call (.Attribute l "append" apos) [a] [] pos) (tE X.K cl W fun ρ h => (ml ρ h).bind fun x h => (lstOk x h).bind fun x h => (ma ρ h).bind fun y h => app x y h) := by
  have st : starEach [a] X.env = (false, eval a X.env) :: starEach [] X.env := star_cons hp
  refine wkE (pe_bm PySem.F.plainAttrs_list PySem.F.slot_list_append PySem.F.type_list_append (mtr_append (cl := cl)) hl (pa_cons ha pa_nil st) hbase (by rw [st]; rfl) hline st (by rfl)) fun σ H Q ⟨μ, ρ, h, re, rh, pg⟩ => ?_
  refine ⟨μ, ρ, h, re, rh, pg.bind.imp (fun x h1 μ1 H1 g1 p1 v rv => ?_) fun _ _ _ _ _ w => w⟩
  unfold lstOk at p1
  split at p1
  · split at p1
    · rename_i n _ xs ex
      obtain ⟨q, ws, rfl, m, s1, r1⟩ := g1.rh.lst ex rv
      refine ⟨.inl ⟨rfl, ws, .of s1⟩, μ1, ρ, h1, re.mono g1.tp g1.pre, g1.rh, (p1.bind μ1 H1 (.refl g1.rh)).bind.imp (fun y h2 μ2 H2 g2 p2 u ru => ?_) fun _ _ _ _ _ w => w⟩
      exact ⟨u, μ2, h2, .ref n, y, _, rfl, g2.rh, rv.mono g2.tp g2.pre, ru, p2⟩
    · exact p1.elim
  · exact p1.elim
end
end HS

/-! Loops' sources, targets, comprehensions. -/
namespace HS
open PySem L2 PyProof.Rows
section
variable {X : Cx} {cl : Md} {W : WX} {m ma mb mc : En → Hh → R D} {a b c tg : Expr} {pos : Pos}
/-! ### sources -/
theorem sPln (ha : PE X a (tE X.K cl W ma)) : PI X tg a (tI X.K cl W fun ρ h => (ma ρ h).bind fun x h => itemsD x h) := by
  refine ⟨fun pins s σ H R I ⟨μ, ρ, h, re, rh, pg⟩ => ?_⟩
  refine thn (ha.run pins s σ H (fun v H1 => ∃ μ1 h1 x, RlH X.K cl H1 μ1 h1 ∧ Rl X.K cl H1 μ1 x v ∧ Pg X.K cl μ1 H1 (itemsD x h1) (fun p _ μ' H' => ∀ J, Srcs X.K cl μ' H' J p.1 p.2 → R J H') (wX X.K cl W σ)) I ⟨μ, ρ, h, re, rh, pg.bind.imp (fun x h1 μ1 H1 g1 p1 v rv => ⟨μ1, h1, x, g1.rh, rv, p1⟩) fun _ _ _ _ _ w => w⟩) fun u s1 ⟨v, H1, I1, r1, μ1, h1, x, rh1, rv, p1⟩ => ?_
  cases e : itemsD x h1 with
  | bad => rw [e] at p1; exact p1.elim
  | ex _ _ => unfold itemsD at e; split at e <;> first | cases e | (split at e <;> cases e)
  | ok p h2 =>
    obtain ⟨rfl, tp, q, rfl, src⟩ := itemsD_src rh1 rv e
    rw [e] at p1
    cases (show u = Value.ref q from r1)
    obtain ⟨vs, sv, _⟩ := src.here
    exact iter_seq I1 sv (p1 μ1 H1 (.refl rh1) _ (src_seq src))
theorem sRng {p : Pos} {es : List Expr} {ms : En → Hh → R (List D)} (hx : Gl X "range") (hm : X.mg "range" = none) (hp : (a :: es).all plainX = true) (hs : PA X (a :: es) (tA X.K cl W ms)) :
    PI X tg (.Call (.Name "range" p) (a :: es) [] pos) (tI X.K cl W fun ρ h => (ms ρ h).bind fun xs h => rngD xs h) := by
  simp only [List.all_cons, Bool.and_eq_true] at hp
  have lo : ∀ {i : Int}, small62 i = true → -(2 ^ 62) ≤ i ∧ i < 2 ^ 62 := fun h => of_decide_eq_true h
  refine ⟨fun pins s σ H R I ⟨μ, ρ, h, re, rh, pg⟩ => ?_⟩
  refine Call_ (ld_blt I hx hm boot_range (PyProof.Rows.callWith_type1 (thn (hs.run pos pins s σ H (fun vs H1 => ∃ μ1 h1 xs, RlH X.K cl H1 μ1 h1 ∧ Rls X.K cl H1 μ1 xs vs ∧ Pg X.K cl μ1 H1 (rngD xs h1) (fun p _ μ' H' => ∀ J, Srcs X.K cl μ' H' J p.1 p.2 → R J H') (wX X.K cl W σ)) I ⟨μ, ρ, h, re, rh, pg.bind.imp (fun xs h1 μ1 H1 g1 p1 vs rv => ⟨μ1, h1, xs, g1.rh, rv, p1⟩) fun _ _ _ _ _ w => w⟩) fun us s1 ⟨vs, H1, I1, r1, μ1, h1, xs, rh1, rv, p1⟩ => ?_) (star_cons hp.1) (back_plain hp.2)))
  unfold rngD at p1
  split at p1
  · obtain ⟨v, rfl, r2⟩ := Rls.one_iff.mp rv
    rw [Rl.int_iff] at r2; subst r2
    obtain ⟨u, rfl, t, rfl⟩ := vals1 r1
    split at p1
    · rename_i hj
      obtain ⟨q1, q2⟩ := lo hj
      exact call_range_1 (range_it I1 (by omega) (by omega) q1 q2 (by simpa using p1 μ1 H1 (.refl rh1) _ src_up))
    · exact p1.elim
  · obtain ⟨v, w, rfl, r2, r3⟩ := Rls.two_iff.mp rv
    rw [Rl.int_iff] at r2 r3; subst r2 r3
    obtain ⟨u, u2, rfl, ⟨t, rfl⟩, t2, rfl⟩ := vals2 r1
    split at p1
    · rename_i hj
      rw [Bool.and_eq_true] at hj
      obtain ⟨q1, q2⟩ := lo hj.1
      obtain ⟨q3, q4⟩ := lo hj.2
      exact call_range_2 (range_it I1 q1 q2 q3 q4 (p1 μ1 H1 (.refl rh1) _ src_up))
    · exact p1.elim
  · rename_i i j
    obtain ⟨v, vr, rfl, r2, rr⟩ := Rls.cons.mp rv
    obtain ⟨w, z, rfl, r3, r4⟩ := Rls.two_iff.mp rr
    rw [Rl.int_iff] at r2 r3 r4; subst r2 r3 r4
    split at p1
    · rename_i hj
      rw [Bool.and_eq_true] at hj
      obtain ⟨q1, q2⟩ := lo hj.1
      obtain ⟨q3, q4⟩ := lo hj.2
      obtain ⟨c0, c1, c2, c3⟩ := RgC.neg q1 q2 q3 q4
      cases r1 with
      | cons r rr =>
        obtain ⟨t, rfl⟩ := (show ∃ t, _ = Value.int i t from r)
        obtain ⟨u1, u2, rfl, ⟨t', rfl⟩, t'', rfl⟩ := vals2 rr
        refine call_range_3 c0 ?_ (.inl (PyProof.noPylong_small c1))
        refine wpAny_pyIter_range (IsRange.new ..) c2 ?_
        have I2 : Inv X pins σ H1 { s1 with heap := s1.heap.push { cls := .type "range", data := .fields #[.int i t, .int j t', .int (-1) t''] } } := I1.kept (t' := s1.toks) fun b o e => Heap.get?_push_of_some _ e
        refine pi_one (tk := s1.toks) I2 _ (turn_rangeC _ i (-1) (i - j).toNat) ?_ (p1 μ1 H1 (.refl rh1) _ src_down)
        have e1 : i + ((0 : Nat) : Int) * (-1) = i := by simp
        have e2 : (((i - j).toNat : Nat) : Int) - ((0 : Nat) : Int) = Builtin.Range.rangeSize i j (-1) := by rw [c3]; simp
        show IsRangeIter _ _ (i + ((0 : Nat) : Int) * (-1)) ((((i - j).toNat : Nat) : Int) - ((0 : Nat) : Int)) (-1)
        rw [e1, e2]
        exact Heap.get?_push_size _ rfl
    · exact p1.elim
  · exact p1.elim
theorem itemsD_noex {x : D} {h h' : Hh} {e : HS.X} : itemsD x h ≠ .ex e h' := by
  unfold itemsD
  intro q
  split at q <;> first | cases q | (split at q <;> cases q)
theorem sEnm {p tpos : Pos} {elts : List Expr} {kk : Nat} (hx : Gl X "enumerate") (hm : X.mg "enumerate" = none) (hp : plainX a = true) (ha : PE X a (tE X.K cl W ma)) :
    PI X (.Tuple elts kk tpos) (.Call (.Name "enumerate" p) [a] [] pos) (tI X.K cl W fun ρ h => (ma ρ h).bind fun x h => (itemsD x h).bind fun p h => .ok (numbered p.1, p.2) h) := by
  have st : starEach [a] X.env = (false, eval a X.env) :: starEach [] X.env := star_cons hp
  refine ⟨fun pins s σ H R I ⟨μ, ρ, h, re, rh, pg⟩ => ?_⟩
  refine Call_ (ld_blt I hx hm boot_enumerate (PyProof.Rows.callWith_type1 ?_ st (by rfl)))
  rw [st]
  refine Calls.spliced_cons (thn (ha.run pins s σ H (fun v H1 => ∃ μ1 h1 x, RlH X.K cl H1 μ1 h1 ∧ Rl X.K cl H1 μ1 x v ∧ Pg X.K cl μ1 H1 ((itemsD x h1).bind fun p h => .ok (numbered p.1, p.2) h) (fun p _ μ' H' => ∀ J, Srcs X.K cl μ' H' J p.1 p.2 → R J H') (wX X.K cl W σ)) I ⟨μ, ρ, h, re, rh, pg.bind.imp (fun x h1 μ1 H1 g1 p1 v rv => ⟨μ1, h1, x, g1.rh, rv, p1⟩) fun _ _ _ _ _ w => w⟩) fun u s1 ⟨v, H1, I1, r1, μ1, h1, x, rh1, rv, p1⟩ => Calls.spliced_nil ?_)
  cases e : itemsD x h1 with
  | bad => rw [e] at p1; exact p1.elim
  | ex _ _ => exact absurd e itemsD_noex
  | ok p h2 =>
    obtain ⟨rfl, tp, q, rfl, src⟩ := itemsD_src rh1 rv e
    rw [e] at p1
    cases (show u = Value.ref q from r1)
    obtain ⟨vs, sv, _⟩ := src.here
    exact iter_enum I1 sv (p1 μ1 H1 (.refl rh1) _ (src_enum src))
theorem sZip {p tpos : Pos} {elts : List Expr} {kk : Nat} (hx : Gl X "zip") (hm : X.mg "zip" = none) (hp : plainX a = true) (hp' : plainX b = true) (ha : PE X a (tE X.K cl W ma)) (hb : PE X b (tE X.K cl W mb)) :
    PI X (.Tuple elts kk tpos) (.Call (.Name "zip" p) [a, b] [] pos) (tI X.K cl W fun ρ h => (ma ρ h).bind fun x h => (mb ρ h).bind fun y h => (itemsD x h).bind fun p h => (itemsD y h).bind fun q h => .ok (pairs p.1 q.1, p.2 ++ q.2) h) := by
  have st2 : starEach [b] X.env = (false, eval b X.env) :: starEach [] X.env := star_cons hp'
  have st : starEach [a, b] X.env = (false, eval a X.env) :: starEach [b] X.env := star_cons hp
  refine ⟨fun pins s σ H R I ⟨μ, ρ, h, re, rh, pg⟩ => ?_⟩
  refine Call_ (ld_blt I hx hm PyProof.Rows.boot_zip (PyProof.Rows.callWith_type1 ?_ st (by rw [st2]; rfl)))
  refine thn ((pa_cons ha (pa_cons hb pa_nil st2) st).run pos pins s σ H (fun vs H1 => ∃ μ1 h1 x y v u, vs = [v, u] ∧ RlH X.K cl H1 μ1 h1 ∧ Rl X.K cl H1 μ1 x v ∧ Rl X.K cl H1 μ1 y u ∧ Pg X.K cl μ1 H1 ((itemsD x h1).bind fun p h => (itemsD y h).bind fun q h => .ok (pairs p.1 q.1, p.2 ++ q.2) h) (fun p _ μ' H' => ∀ J, Srcs X.K cl μ' H' J p.1 p.2 → R J H') (wX X.K cl W σ)) I
    ⟨μ, ρ, h, re, rh, pg.bind.imp (fun x h1 μ1 H1 g1 p1 v rv => ⟨μ1, ρ, h1, re.mono g1.tp g1.pre, g1.rh, p1.bind.imp (fun y h2 μ2 H2 g2 p2 u ru => ⟨μ2, h2, x, y, v, u, rfl, g2.rh, rv.mono g2.tp g2.pre, ru, p2⟩) fun _ _ _ _ _ w => w⟩) fun _ _ _ _ _ w => w⟩) fun us s1 ⟨vs, H1, I1, r1, μ1, h1, x, y, v, u, ev, rh1, rv, ru, p1⟩ => ?_
  subst ev
  obtain ⟨w1, w2, rfl, q1, q2⟩ := vals2 r1
  cases e : itemsD x h1 with
  | bad => rw [e] at p1; exact p1.elim
  | ex _ _ => exact absurd e itemsD_noex
  | ok p h2 =>
    obtain ⟨rfl, tp, q, rfl, src⟩ := itemsD_src rh1 rv e
    rw [e] at p1
    cases e' : itemsD y h2 with
    | bad => simp only [HS.R.bind_ok, e'] at p1; exact p1.elim
    | ex _ _ => exact absurd e' itemsD_noex
    | ok p' h3 =>
      obtain ⟨rfl, tp', q', rfl, src'⟩ := itemsD_src rh1 ru e'
      simp only [HS.R.bind_ok, e'] at p1
      cases (show w1 = Value.ref q from q1)
      cases (show w2 = Value.ref q' from q2)
      obtain ⟨vs, sv, _⟩ := src.here
      obtain ⟨ws, sw, _⟩ := src'.here
      exact iter_zip I1 sv sw (p1 μ1 H1 (.refl rh1) _ (src_zip src src'))
theorem sRev {p : Pos} (hx : Gl X "reversed") (hm : X.mg "reversed" = none) (hp : plainX a = true) (ha : PE X a (tE X.K cl W ma)) :
    PI X tg (.Call (.Name "reversed" p) [a] [] pos) (tI X.K cl W fun ρ h => (ma ρ h).bind fun x h => (itemsD x h).bind fun p h => .ok (p.1.reverse, p.2) h) := by
  refine wkI (RT.pi_revA hx hm ha (star_cons hp)) fun σ H R ⟨μ, ρ, h, re, rh, pg⟩ => ⟨μ, ρ, h, re, rh, pg.bind.imp (fun x h1 μ1 H1 g1 p1 v rv => ?_) fun _ _ _ _ _ w => w⟩
  cases e : itemsD x h1 with
  | bad => rw [e] at p1; exact p1.elim
  | ex _ _ => exact absurd e itemsD_noex
  | ok p h2 =>
    obtain ⟨rfl, tp, q, rfl, src⟩ := itemsD_src g1.rh rv e
    rw [e] at p1
    obtain ⟨vs, sv, rs⟩ := src.here
    have k := p1 μ1 H1 (.refl g1.rh) _ (src_rev (n := vs.length) rs.length.symm src)
    cases tp with
    | true => exact ⟨q, vs, rfl, .inr ⟨sv, k⟩⟩
    | false => exact ⟨q, vs, rfl, .inl ⟨sv, k⟩⟩
end
end HS

/-! A range walked from its end. -/
namespace HS
open PySem L2 PyProof.Rows
section
variable {X : Cx} {cl : Md} {W : WX} {a tg : Expr} {pos pos2 : Pos}
/-- a range's two ends -/
def ends (vs : List V) (Q : Int → Int → Prop) : Prop := (∃ j, vs = [.int j] ∧ Q 0 j) ∨ ∃ i j, vs = [.int i, .int j] ∧ Q i j
theorem prgA {p : Pos} {es : List Expr} {ms : En → Hh → R (List D)} (hx : Gl X "range") (hm : X.mg "range" = none) (hp : (a :: es).all plainX = true) (hs : PA X (a :: es) (tA X.K cl W ms)) :
    PRg X (.Call (.Name "range" p) (a :: es) [] pos) (fun σ H Q => tA X.K cl W ms σ H fun vs H1 => ends vs fun i j => Q i j H1) := by
  simp only [List.all_cons, Bool.and_eq_true] at hp
  intro pins s σ H Q I h
  refine Call_ (ld_blt I hx hm boot_range (PyProof.Rows.callWith_type1 (thn (hs.run pos pins s σ H _ I h) fun us s1 ⟨vs, H1, I1, r1, c⟩ => ?_) (star_cons hp.1) (back_plain hp.2)))
  rcases c with ⟨j, rfl, q⟩ | ⟨i, j, rfl, q⟩
  · obtain ⟨u, rfl, t, rfl⟩ := vals1 r1
    exact call_range_1 ⟨_, 0, j, _, _, _, H1, rfl, IsRange.new _ _ _ _ _ _ _, I1.kept fun b u e => Heap.get?_push_of_some _ e, q⟩
  · obtain ⟨u, u2, rfl, ⟨t, rfl⟩, t2, rfl⟩ := vals2 r1
    exact call_range_2 ⟨_, i, j, _, _, _, H1, rfl, IsRange.new _ _ _ _ _ _ _, I1.kept fun b u e => Heap.get?_push_of_some _ e, q⟩
theorem sRrng {p p2 : Pos} {es : List Expr} {ms : En → Hh → R (List D)} (hv : Gl X "reversed") (hmv : X.mg "reversed" = none) (hx : Gl X "range") (hm : X.mg "range" = none) (hp : (a :: es).all plainX = true) (hs : PA X (a :: es) (tA X.K cl W ms)) :
    PI X tg (.Call (.Name "reversed" p) [.Call (.Name "range" p2) (a :: es) [] pos2] [] pos) (tI X.K cl W fun ρ h => (ms ρ h).bind fun xs h => rrngD xs h) := by
  have lo : ∀ {i : Int}, small62 i = true → -(2 ^ 62) ≤ i ∧ i < 2 ^ 62 := fun h => of_decide_eq_true h
  refine ⟨fun pins s σ H R I ⟨μ, ρ, h, re, rh, pg⟩ => ?_⟩
  refine (pi_revR hv hmv (prgA hx hm hp hs) (star_cons rfl)).run pins s σ H R I ⟨μ, ρ, h, re, rh, pg.bind.imp (fun xs h1 μ1 H1 g1 p1 vs rv => ?_) fun _ _ _ _ _ w => w⟩
  unfold rrngD at p1
  split at p1
  · obtain ⟨v, rfl, r2⟩ := Rls.one_iff.mp rv
    rw [Rl.int_iff] at r2; subst r2
    split at p1
    · rename_i hj
      obtain ⟨q1, q2⟩ := lo hj
      refine .inl ⟨_, rfl, by omega, by omega, q1, q2, ?_⟩
      have z := p1 μ1 H1 (.refl g1.rh) _ src_down
      simpa using z
    · exact p1.elim
  · obtain ⟨v, w, rfl, r2, r3⟩ := Rls.two_iff.mp rv
    rw [Rl.int_iff] at r2 r3; subst r2 r3
    split at p1
    · rename_i hj
      rw [Bool.and_eq_true] at hj
      obtain ⟨q1, q2⟩ := lo hj.1
      obtain ⟨q3, q4⟩ := lo hj.2
      exact .inr ⟨_, _, rfl, q1, q2, q3, q4, p1 μ1 H1 (.refl g1.rh) _ src_down⟩
    · exact p1.elim
  · exact p1.elim
end
end HS

/-! Instances: attributes, methods, a new one. -/
namespace HS
open PySem L2 PyProof.Rows
section
variable {K : PySem.W.Frag} {cl : Md} {H H' : Hp} {μ μ' : List Addr}
/-- fields of an instance, name by name -/
theorem fl_look {f : Str} : ∀ {fs : List (Str × D)} {vs : List (Str × V)}, fs.map (·.1) = vs.map (·.1) → Rls K cl H μ (fs.map (·.2)) (vs.map (·.2)) → (∀ d, fs.lookup f = some d → ∃ v, vs.lookup f = some v ∧ Rl K cl H μ d v) ∧ (fs.lookup f = none → vs.lookup f = none)
  | [], [], _, _ => ⟨fun d h => by simp at h, fun _ => rfl⟩
  | [], _ :: _, h, _ => by simp at h
  | _ :: _, [], h, _ => by simp at h
  | (a, d) :: fs, (b, v) :: vs, h, r => by
    simp only [List.map_cons, List.cons.injEq] at h
    obtain ⟨e, h⟩ := h
    have e : a = b := e
    subst e
    simp only [List.map_cons] at r
    rw [Rls.cons] at r
    obtain ⟨v', r', e', r1, r2⟩ := r
    simp only [List.cons.injEq] at e'
    obtain ⟨rfl, rfl⟩ := e'
    obtain ⟨i1, i2⟩ := fl_look (f := f) h r2
    by_cases q : f = a
    · subst q
      refine ⟨fun d' h' => ?_, fun h' => ?_⟩
      · simp only [List.lookup_cons_self, Option.some.injEq] at h' ⊢
        subst h'
        exact ⟨v, rfl, r1⟩
      · simp only [List.lookup_cons_self] at h'
        cases h'
    · have qb : (f == a) = false := by simpa using q
      refine ⟨fun d' h' => ?_, fun h' => ?_⟩
      · simp only [List.lookup, qb] at h' ⊢
        exact i1 d' h'
      · simp only [List.lookup, qb] at h' ⊢
        exact i2 h'
theorem fl_put {f : Str} {d : D} {v : V} (rv : Rl K cl H μ d v) : ∀ {fs : List (Str × D)} {vs : List (Str × V)}, fs.map (·.1) = vs.map (·.1) → Rls K cl H μ (fs.map (·.2)) (vs.map (·.2)) → (putFd f d fs).map (·.1) = (putF f v vs).map (·.1) ∧ Rls K cl H μ ((putFd f d fs).map (·.2)) ((putF f v vs).map (·.2))
  | [], [], _, _ => ⟨rfl, Rls.one rv⟩
  | [], _ :: _, h, _ => by simp at h
  | _ :: _, [], h, _ => by simp at h
  | (a, e) :: fs, (b, u) :: vs, h, r => by
    simp only [List.map_cons, List.cons.injEq] at h
    obtain ⟨e', h⟩ := h
    have e' : a = b := e'
    subst e'
    simp only [List.map_cons] at r
    rw [Rls.cons] at r
    obtain ⟨v', r', e'', r1, r2⟩ := r
    simp only [List.cons.injEq] at e''
    obtain ⟨rfl, rfl⟩ := e''
    by_cases q : a = f
    · simp only [putFd, putF, q, if_true, List.map_cons]
      exact ⟨by rw [h], Rls.cons.mpr ⟨_, _, rfl, rv, r2⟩⟩
    · obtain ⟨i1, i2⟩ := fl_put (f := f) (d := d) (v := v) rv h r2
      simp only [putFd, putF, q, if_false, List.map_cons]
      exact ⟨by rw [i1], Rls.cons.mpr ⟨_, _, rfl, r1, i2⟩⟩
end
/-- what is known of the classes of instances: ats are the names that are read or written -/
def InsK (K : PySem.W.Frag) (cl : Md) (ats : List Str) : Prop := ∀ k C, cl.i k = some C → Cls K C ∧ ∀ f ∈ ats, NoAttr K C f
/-- a method of the class k, x by name -/
structure CalM (X : Cx) (cl : Md) (j k : Nat) (x : Str) (np : Nat) (mf : Fn) : Prop where
  ex : ∃ (C g : Addr) (fd : FuncData) (ps : List Str), ps.length = np ∧ cl.i k = some C ∧ Meth X.K C x g ∧ FnG X.prog X.w X.K X.mg X.base j g fd ps (spF X.K cl mf) ∧ (∀ (s : Shared) (us : List Value), us.length = ps.length → BindsTo s fd ⟨us, []⟩ (ps.zip us))
/-- the class k by its name y, made by the def f -/
structure CalN (X : Cx) (cl : Md) (j k : Nat) (y : Str) (np : Nat) (mf : Fn) : Prop where
  ex : ∃ (C g : Addr) (fd : FuncData) (ps : List Str), ps.length = np ∧ cl.i k = some C ∧ X.mg y = some (.ref C) ∧ Mk X.K C g ∧ FnG X.prog X.w X.K X.mg X.base j g fd ps (spF X.K cl mf) ∧ (∀ (s : Shared) (us : List Value), us.length = ps.length → BindsTo s fd ⟨us, []⟩ (ps.zip us))
theorem mtree {o : Expr} {m : Str} {apos pos : Pos} {args : List Expr} {env : Env} (hb : attributeBase o m env (eval o env) = eval o env) (hp : args.all plainX = true) (hl : args.length < 30) (hln : (apos.endLine == pos.line) = true) :
    eval (.Call (.Attribute o m apos) args [] pos) env = (do
      let ov ← eval o env
      standAt apos.atName
      let (f, first) ← holding [ov] (getMethod ov m (do return (← importBound o env).getD true))
      callWith pos f first (backTo pos (starEach args env)) (backToKw pos (keywordEach [] env))) := by
  refine mcall_of hb fun ov => ?_
  have form : methodCallForm (args.length + ([] : List Keyword).length) (backTo pos (starEach args env)) (backToKw pos (keywordEach [] env)) = true := by
    have b := back_plain (pos := pos) (env := env) hp
    have a : (backTo pos (starEach args env)).all (!·.1) = true := by
      rw [List.all_eq_true]
      intro x hx
      rw [List.any_eq_false] at b
      simpa using b x hx
    unfold methodCallForm
    rw [a]
    have k0 : backToKw pos (keywordEach [] env) = [] := rfl
    rw [k0]
    simp
    omega
  unfold methodCall
  rw [form]
  unfold calleeOf methodCallPos
  simp only [if_true, Bool.not_true, Bool.false_or, hln, pure_bind]
section
variable {X : Cx} {cl : Md} {W : WX} {m ma mb mc : En → Hh → R D} {a b c : Expr} {pos : Pos}
theorem sAtt {f : Str} {ats : List Str} (ik : InsK X.K cl ats) (hf : f ∈ ats) (ha : PE X a (tE X.K cl W ma)) (hb : attributeBase a f X.env (eval a X.env) = eval a X.env) : PE X (.Attribute a f pos) (tE X.K cl W fun ρ h => (ma ρ h).bind fun x h => attD x f h) := by
  refine wkE (pe_fld ha hb) fun σ H Q ⟨μ, ρ, h, re, rh, pg⟩ => ⟨μ, ρ, h, re, rh, pg.bind.imp (fun x h1 μ1 H1 g1 p1 v rv => ?_) fun _ _ _ _ _ w => w⟩
  unfold attD at p1
  split at p1 <;> try exact p1.elim
  rename_i n
  split at p1 <;> try exact p1.elim
  rename_i k fs eh
  split at p1 <;> try exact p1.elim
  rename_i d el
  obtain ⟨a1, rfl, ea⟩ := Rl.ref_iff.mp rv
  obtain ⟨C, dx, vs, q0, q, q1, q2, r⟩ := g1.rh.at_ n _ a1 eh ea
  obtain ⟨v, lv, rv'⟩ := (fl_look (f := f) q2 r).1 d el
  obtain ⟨c1, c2⟩ := ik k C q0
  exact ⟨a1, C, dx, vs, v, rfl, q, c1, c2 f hf, lv, p1.val g1.rh rv'⟩
theorem sBits {apos : Pos} (ha : PE X a (tE X.K cl W ma)) (hb : attributeBase a "bit_length" X.env (eval a X.env) = eval a X.env) (hln : (apos.endLine == pos.line) = true) : PE X (.Call (.Attribute a "bit_length" apos) [] [] pos) (tE X.K cl W fun ρ h => (ma ρ h).bind fun x h => bitD x h) := by
  refine wkE (pe_bits ha hb hln) fun σ H Q ⟨μ, ρ, h, re, rh, pg⟩ => ⟨μ, ρ, h, re, rh, pg.bind.imp (fun x h1 μ1 H1 g1 p1 v rv => ?_) fun _ _ _ _ _ w => w⟩
  unfold bitD at p1
  split at p1 <;> try exact p1.elim
  exact ⟨_, Rl.int_iff.mp rv, p1.val g1.rh (Rl.int_iff.mpr rfl)⟩
theorem sMth {j k np : Nat} {x : Str} {mf : Fn} {apos : Pos} {es : List Expr} {ms : En → Hh → R (List D)} {ats : List Str} (ik : InsK X.K cl ats) (F : CalM X cl j k x np mf) (hg : X.A.guards = some []) (hr : Room j X.A) (tk : Takes X W)
    (hb : attributeBase a x X.env (eval a X.env) = eval a X.env) (hp : es.all plainX = true) (hl : es.length < 30) (hln : (apos.endLine == pos.line) = true) (ha : PE X a (tE X.K cl W ma)) (hs : PA X es (tA X.K cl W ms)) (h0 : es = [] → ms = fun _ h => .ok [] h) :
    PE X (.Call (.Attribute a x apos) es [] pos) (tE X.K cl W fun ρ h => (ma ρ h).bind fun o h => if insOk k x o h = true then (ms ρ h).bind fun xs h => mf (o :: xs) h else .bad) := by
  obtain ⟨C, g, fd, ps, _, hC, hm, hF, hbd⟩ := F.ex
  refine ⟨fun pins s σ H Q I ⟨μ, ρ, h, re, rh, pg⟩ => ?_⟩
  let Wish : VK := fun v H1 => ∃ a1 dx vs, v = .ref a1 ∧ H1 a1 = some (.ins C dx vs) ∧ vs.lookup x = none ∧ tA X.K cl W ms σ H1 (fun ws H2 => spF X.K cl mf (v :: ws) H2 Q fun c dd H' => W c dd σ H')
  have hw : tE X.K cl W ma σ H Wish := ⟨μ, ρ, h, re, rh, pg.bind.imp (fun o h1 μ1 H1 g1 p1 v rv => by
    cases hi : insOk k x o h1 with
    | false => rw [hi] at p1; exact p1.elim
    | true =>
      rw [hi, if_pos rfl] at p1
      unfold insOk at hi
      split at hi
      · rename_i n
        split at hi
        · rename_i j' fs eh
          simp only [Bool.and_eq_true, decide_eq_true_eq] at hi
          obtain ⟨e1, e2⟩ := hi
          subst e1
          obtain ⟨a1, rfl, ea⟩ := Rl.ref_iff.mp rv
          obtain ⟨C', dx, vs, q0, q, q1, q2, r⟩ := g1.rh.at_ n _ a1 eh ea
          rw [hC] at q0
          cases q0
          have ln : fs.lookup x = none := by cases e : fs.lookup x with | none => rfl | some _ => rw [e] at e2; cases e2
          refine ⟨a1, dx, vs, rfl, q, (fl_look (f := x) q2 r).2 ln, μ1, ρ, h1, re.mono g1.tp g1.pre, g1.rh, p1.bind.imp (fun xs h2 μ2 H2 g2 p2 ws rws => ?_) fun _ _ _ _ _ w => w⟩
          exact ⟨μ2, h2, .ref n :: xs, g2.rh, Rls.cons.mpr ⟨_, _, rfl, rv.mono g2.tp g2.pre, rws⟩, p2⟩
        · cases hi
      · cases hi) fun _ _ _ _ _ w => w⟩
  refine PySem.W.methodCall_KW (thn (ha.run pins s σ H Wish I hw) fun u s1 ⟨v, H1, I1, rx, a1, dx, vs, ex, ea, l, q⟩ => ?_) (mtree hb hp hl hln)
  subst ex
  obtain rfl : u = Value.ref a1 := rx
  refine getmeth_ok I1 ea (ik k C hC).1 hm l ?_
  cases es with
  | nil =>
    rw [h0 rfl] at q
    obtain ⟨μ2, ρ2, h2, _, rh2, q2⟩ := q
    have q3 : spF X.K cl mf [.ref a1] H1 Q fun c dd H' => W c dd σ H' := q2 μ2 H1 (.refl rh2) [] (Rls.nil.mpr rfl)
    have hlen := hF.len _ _ _ _ q3
    exact PySem.W.callWith_K0 (first := [.ref a1]) I1.kIn hm.kp (run_g (us := [.ref a1]) hF hg hr tk I1 (hbd s1 [.ref a1] (by simpa using hlen)) (.cons (show RelV (V.ref a1) (Value.ref a1) from rfl) .nil) q3)
  | cons e es =>
    simp only [List.all_cons, Bool.and_eq_true] at hp
    refine PySem.W.callWith_K (first := [.ref a1]) (h₀ := X.base) I.ok.mod.kin hm.kp (thn (hs.run pos pins s1 σ H1 _ I1 q) fun us s2 ⟨ws, H2, I2, r, q2⟩ => ⟨I2.kIn, ?_⟩) (star_cons hp.1) (back_plain hp.2)
    have hlen := hF.len _ _ _ _ q2
    exact run_g (us := .ref a1 :: us) hF hg hr tk I2 (hbd s2 (.ref a1 :: us) (by rw [← hlen, List.length_cons, List.length_cons, r.length])) (.cons (show RelV (V.ref a1) (Value.ref a1) from rfl) r) q2
theorem make_guards {A : Around} {C : Addr} {us : List Value} {kw : List (Str × Value)} : (A.under (.builtin "type.__call__" ⟨.ref C :: us, kw⟩)).guards = A.guards := by
  first | rfl | simp [Around.under, Code.weight, Code.isCreation, Code.isGuard, Code.isCaller, Code.frames, Code.isFrame, guardIds]
theorem run_makeG {pins : List (Addr × Obj)} {σ : L2.St} {H : Hp} {s : Shared} {Q : VK} {us : List Value} {vs : List V} {k : Nat} {C g : Addr} {fd : FuncData} {ps : List Str} {mf : Fn} (M : Mk X.K C g) (F : FnG X.prog X.w X.K X.mg X.base k g fd ps (spF X.K cl mf)) (hg : X.A.guards = some []) (hr : Room (k + 1) X.A) (tk : Takes X W)
    (hbd : ∀ (s : Shared) (us : List Value), us.length = ps.length → BindsTo s fd ⟨us, []⟩ (ps.zip us)) (I : Inv X pins σ H s) (r : Vals vs us)
    (h : ∀ x dx, H x = none → H dx = none → dx ≠ x → spF X.K cl mf (.ref x :: vs) (upd (upd H dx (.own x)) x (.ins C dx [])) (fun v H2 => v = .non ∧ Q (.ref x) H2) (fun c dd H' => W c dd σ H')) :
    wpAny (model X.prog X.w) X.A (call (.ref C) us) (EP X pins σ Q) X.xe s := by
  have hq := h (s.heap.objs.size + 1) s.heap.objs.size (I.hok.fresh (Nat.le_succ _)) (I.hok.fresh (Nat.le_refl _)) (Nat.ne_of_lt (Nat.lt_succ_self _))
  have I2 := Inv.made (C := C) I
  have r2 : Vals (V.ref (s.heap.objs.size + 1) :: vs) (Value.ref (s.heap.objs.size + 1) :: us) := .cons rfl r
  have hl : (Value.ref (s.heap.objs.size + 1) :: us).length = ps.length := by
    have e := r2.length
    rw [F.len _ _ _ _ hq] at e
    exact e.symm
  refine wpAny_call (make_map (f := g) I.kIn M.makes M.init (beq_iff_eq.mp M.fn) (codeAny_mono (F.run _ X.stack _ _ ⟨Value.ref (s.heap.objs.size + 1) :: us, []⟩ (Value.ref (s.heap.objs.size + 1) :: us) _ _ _ (by rw [make_guards]; exact hg) (hr.make C us [])
    (I2.env0.make C us []) (hbd _ (Value.ref (s.heap.objs.size + 1) :: us) hl) r2 hq) fun r s' hq' => ?_))
  cases r with
  | error e => exact tk e s' (XE.of_call I2 (fun _ _ _ z => z) hq')
  | ok fl =>
    cases fl with
    | ret u =>
      obtain ⟨v, H', I3, rv, ev, q3⟩ := I2.after hq'
      subst ev
      exact ⟨rv, ⟨V.ref (s.heap.objs.size + 1), H', I3, rfl, q3⟩⟩
    | next => exact False.elim hq'
    | brk => exact False.elim hq'
    | cont => exact False.elim hq'
/-- a new instance is a step -/
theorem Go.made {K : PySem.W.Frag} {H : Hp} {μ : List Addr} {h : Hh} {k : Nat} {C x dx : Addr} (r : RlH K cl H μ h) (hC : cl.i k = some C) (nx : H x = none) (nd : H dx = none) (ne : dx ≠ x) : Go K cl μ H (h ++ [.ins k []]) (μ ++ [x]) (upd (upd H dx (.own x)) x (.ins C dx [])) := by
  have g1 : Go K cl μ H h μ (upd H dx (.own x)) := .new r nd
  have nx1 : upd H dx (.own x) x = none := by rw [upd_ne ne.symm]; exact nx
  refine g1.trans (.alloc g1.rh nx1 ⟨C, dx, [], hC, upd_same, ?_, rfl, Rls.nil.mpr rfl⟩)
  rw [upd_ne ne, upd_same]
theorem sNew {j k np : Nat} {y : Str} {mf : Fn} {p : Pos} {e : Expr} {es : List Expr} {ms : En → Hh → R (List D)} (F : CalN X cl j k y np mf) (hg : X.A.guards = some []) (hr : Room (j + 1) X.A) (tk : Takes X W)
    (hx : Gl X y) (hd : (y == ("__debug__" : Str)) = false) (hp : (e :: es).all plainX = true) (hs : PA X (e :: es) (tA X.K cl W ms)) :
    PE X (.Call (.Name y p) (e :: es) [] pos) (tE X.K cl W fun ρ h => (ms ρ h).bind fun xs h => (mf (.ref h.length :: xs) (h ++ [.ins k []])).bind fun d h1 => if isNon d = true then .ok (.ref h.length) h1 else .bad) := by
  obtain ⟨C, g, fd, ps, _, hC, hmg, hM, hF, hbd⟩ := F.ex
  refine ⟨fun pins s σ H Q I ⟨μ, ρ, h, re, rh, pg⟩ => ?_⟩
  refine wpAny_Call_Name_kw (ld_glob I hx hmg ?_ hd)
  have arg : wpAny (model X.prog X.w) X.A (spliced (backTo pos (starEach (e :: es) X.env))) (AP X pins σ fun vs H1 => ∀ x dx, H1 x = none → H1 dx = none → dx ≠ x → spF X.K cl mf (.ref x :: vs) (upd (upd H1 dx (.own x)) x (.ins C dx [])) (fun v H2 => v = .non ∧ Q (.ref x) H2) (fun c dd H' => W c dd σ H')) X.xe s := by
    refine hs.run pos pins s σ H _ I ⟨μ, ρ, h, re, rh, pg.bind.imp (fun xs h1 μ1 H1 g1 p1 vs rv x dx nx nd ne => ?_) fun _ _ _ _ _ w => w⟩
    have gm := Go.made (cl := cl) g1.rh hC nx nd ne
    have ln : (μ1 ++ [x])[h1.length]? = some x := by rw [← g1.rh.len]; simp
    refine ⟨μ1 ++ [x], h1 ++ [.ins k []], .ref h1.length :: xs, gm.rh, Rls.cons.mpr ⟨_, _, rfl, Rl.ref_iff.mpr ⟨x, rfl, ln⟩, rv.mono gm.tp gm.pre⟩, ?_⟩
    refine (Pg.far gm p1).bind.imp (fun d h2 μ2 H2 g2 p2 v rv2 => ?_) fun _ _ _ _ _ w => w
    cases hd : isNon d with
    | false => rw [hd] at p2; exact p2.elim
    | true =>
      rw [hd, if_pos rfl] at p2
      have en := isNon_eq hd
      subst en
      refine ⟨Rl.non_iff.mp rv2, ?_⟩
      exact p2 μ2 H2 (.refl g2.rh) _ (Rl.ref_iff.mpr ⟨x, rfl, pre_get g2.pre ln⟩)
  simp only [List.all_cons, Bool.and_eq_true] at hp
  refine PySem.W.callWith_K (h₀ := X.base) I.ok.mod.kin hM.kp (thn arg fun us s1 ⟨vs, H1, I1, r, q⟩ => ⟨I1.kIn, ?_⟩) (star_cons hp.1) (back_plain hp.2)
  exact run_makeG hM hF hg hr tk hbd I1 r q
end
end HS

/-! Targets, comprehensions, statements. -/
namespace HS
open PySem L2 PyProof.Rows

/-- nothing but these slots changes -/
structure Only (vs : List Nat) (σ σ' : L2.St) : Prop where
  len : σ'.length = σ.length
  at_ : ∀ j, j ∉ vs → σ'[j]? = σ[j]?
theorem Only.refl {vs : List Nat} {σ : L2.St} : Only vs σ σ := ⟨rfl, fun _ _ => rfl⟩
theorem Only.trans {vs : List Nat} {σ σ' σ'' : L2.St} (a : Only vs σ σ') (b : Only vs σ' σ'') : Only vs σ σ'' := ⟨b.len.trans a.len, fun j h => (b.at_ j h).trans (a.at_ j h)⟩
theorem Only.mono {vs ws : List Nat} {σ σ' : L2.St} (a : Only vs σ σ') (h : ∀ j ∈ vs, j ∈ ws) : Only ws σ σ' := ⟨a.len, fun j q => a.at_ j fun z => q (h j z)⟩
theorem Only.set {i : Nat} {σ : L2.St} {x : Option V} : Only [i] σ (σ.set i x) := ⟨by simp, fun j h => by rw [List.getElem?_set_ne (fun z => h (by simp [z]))]⟩
theorem wipe_in {σ : L2.St} {j : Nat} : ∀ {vs : List Nat}, j ∈ vs → j < σ.length → (wipe σ vs)[j]? = some none
  | v :: vs, h, l => by
    unfold wipe
    by_cases e : v = j
    · subst e
      rw [List.getElem?_set_self (by rw [wipe_length]; exact l)]
    · rw [List.getElem?_set_ne e]
      rcases List.mem_cons.mp h with h | h
      · exact absurd h.symm e
      · exact wipe_in h l
theorem wipe_off {σ : L2.St} {j : Nat} : ∀ {vs : List Nat}, j ∉ vs → (wipe σ vs)[j]? = σ[j]?
  | [], _ => rfl
  | v :: vs, h => by
    unfold wipe
    simp only [List.mem_cons, not_or] at h
    rw [List.getElem?_set_ne (Ne.symm h.1)]
    exact wipe_off h.2
theorem Only.wipe {vs : List Nat} {σ σ' : L2.St} (a : Only vs σ σ') : wipe σ' vs = wipe σ vs := by
  apply List.ext_getElem?
  intro j
  by_cases h : j ∈ vs
  · by_cases l : j < σ.length
    · rw [wipe_in h (by rw [a.len]; exact l), wipe_in h l]
    · rw [List.getElem?_eq_none (by rw [wipe_length, a.len]; omega), List.getElem?_eq_none (by rw [wipe_length]; omega)]
  · rw [wipe_off h, wipe_off h]
    exact a.at_ j h
theorem wipe_wipe {σ : L2.St} {vs : List Nat} : wipe (wipe σ vs) vs = wipe σ vs :=
  Only.wipe ⟨wipe_length σ vs, fun j h => wipe_off h⟩

def NoW : WX := fun _ _ _ _ => False
/-- a target by the evaluator; vs: the slots that it may set -/
def tG (K : PySem.W.Frag) (cl : Md) (vs : List Nat) (m : D → En → Hh → R En) : TG := fun v σ H Q => ∃ μ ρ h d ρ' h', RlE K cl H μ σ ρ ∧ RlH K cl H μ h ∧ Rl K cl H μ d v ∧ m d ρ h = .ok ρ' h' ∧ ∀ μ' H' σ', Go K cl μ H h' μ' H' → RlE K cl H' μ' σ' ρ' → Only vs σ σ' → Q σ' H'
def tGs (K : PySem.W.Frag) (cl : Md) (vs : List Nat) (m : List D → En → Hh → R En) : TGs := fun us σ H Q => ∃ μ ρ h ds ρ' h', RlE K cl H μ σ ρ ∧ RlH K cl H μ h ∧ Rls K cl H μ ds us ∧ m ds ρ h = .ok ρ' h' ∧ ∀ μ' H' σ', Go K cl μ H h' μ' H' → RlE K cl H' μ' σ' ρ' → Only vs σ σ' → Q σ' H'
theorem R.bind_inv {α β : Type} {r : R α} {f : α → Hh → R β} {b : β} {h : Hh} (e : r.bind f = .ok b h) : ∃ a h1, r = .ok a h1 ∧ f a h1 = .ok b h := by
  cases r with
  | ok a h1 => exact ⟨a, h1, rfl, e⟩
  | ex _ _ => cases e
  | bad => cases e
theorem R.calm_inv {α : Type} {r : R α} {b : α} {h : Hh} (e : r.calm = .ok b h) : r = .ok b h := by
  cases r with
  | ok a h1 => exact e
  | ex _ _ => cases e
  | bad => cases e
theorem Pg.okAt {α : Type} {K : PySem.W.Frag} {cl : Md} {μ : List Addr} {H : Hp} {r : R α} {a : α} {h' : Hh} {P : α → Hh → List Addr → Hp → Prop} {W : HS.X → Hh → List Addr → Hp → Prop} (e : r = .ok a h') (f : ∀ μ' H', Go K cl μ H h' μ' H' → P a h' μ' H') : Pg K cl μ H r P W := by
  rw [e]; exact f

section
variable {X : Cx} {cl : Md} {W : WX} {m ma mb mc : En → Hh → R D} {a b c tg : Expr} {pos : Pos}
/-! ### targets -/
theorem gNm {i : Nat} {x : Str} (hN : X.N.Nodup) (hi : X.N[i]? = some x) (hx : Loc X.env.scope x) (hf : X.fn x = true ∨ X.env.scope.names.lookup x = some .local) : PG X (.Name x pos) (tG X.K cl [i] fun d ρ h => .ok (ρ.set i (some d)) h) :=
  wkG (pg_name hN hi hx hf) fun v σ H Q ⟨μ, ρ, h, d, ρ', h', re, rh, rl, e, q⟩ => by
    cases e
    exact q μ H _ (.refl rh) (re.set rl i) .set
theorem gsNil : PGs X [] (tGs X.K cl [] fun xs ρ h => match xs with | [] => .ok ρ h | _ => .bad) :=
  wkGs pgs_nil fun v σ H Q ⟨μ, ρ, h, d, ρ', h', re, rh, rl, e, q⟩ => by
    dsimp only at e
    split at e
    · cases e
      rw [Rls.nil] at rl
      exact ⟨rl, q μ H σ (.refl rh) re .refl⟩
    · cases e
theorem gsCons {e : Expr} {es : List Expr} {vs ws : List Nat} {m1 : D → En → Hh → R En} {m2 : List D → En → Hh → R En} (h1 : PG X e (tG X.K cl vs m1)) (h2 : PGs X es (tGs X.K cl ws m2))
    (hs : (assignEach (e :: es) X.env).map (·.2) = assign e X.env :: (assignEach es X.env).map (·.2)) :
    PGs X (e :: es) (tGs X.K cl (vs ++ ws) fun xs ρ h => match xs with | x :: xs => (m1 x ρ h).bind fun ρ h => m2 xs ρ h | [] => .bad) :=
  wkGs (pgs_cons h1 h2 hs) fun v σ H Q ⟨μ, ρ, h, d, ρ', h', re, rh, rl, e, q⟩ => by
    dsimp only at e
    split at e
    · rw [Rls.cons] at rl
      obtain ⟨u, r, rfl, r1, r2⟩ := rl
      obtain ⟨ρ1, h1, e1, e2⟩ := R.bind_inv e
      exact ⟨u, r, rfl, μ, ρ, h, _, ρ1, h1, re, rh, r1, e1, fun μ1 H1 σ1 g1 re1 o1 => ⟨μ1, ρ1, h1, _, ρ', h', re1, g1.rh, r2.mono g1.tp g1.pre, e2, fun μ2 H2 σ2 g2 re2 o2 => q μ2 H2 σ2 (g1.trans g2) re2 ((o1.mono fun j z => List.mem_append_left _ z).trans (o2.mono fun j z => List.mem_append_right _ z))⟩⟩
    · cases e
theorem gTp {es : List Expr} {k : Nat} {vs : List Nat} {n : Nat} {ms : List D → En → Hh → R En} (hc : X.calm = true) (h : PGs X es (tGs X.K cl vs ms)) (hn : (assignEach es X.env).length = n) (hst : (assignEach es X.env).findIdx? (·.1) = none)
    (hl : ∀ xs ρ h ρ' h', ms xs ρ h = .ok ρ' h' → xs.length = n) : PG X (.Tuple es k pos) (tG X.K cl vs fun d ρ h => match d with | .tup xs => ms xs ρ h | _ => .bad) :=
  wkG (pg_tup hc h hn hst) fun v σ H Q ⟨μ, ρ, h, d, ρ', h', re, rh, rl, e, q⟩ => by
    dsimp only at e
    split at e
    · obtain ⟨a, us, rfl, s, r⟩ := Rl.tup_iff.mp rl
      refine ⟨a, us, rfl, s, ?_, μ, ρ, h, _, ρ', h', re, rh, r, e, q⟩
      rw [← r.length]
      exact hl _ _ _ _ _ e
    · cases e
theorem gSb (hp : ∀ v, assign (.Subscript a b pos) X.env v = (do
      let ov ← holding [v] (eval a X.env)
      let iv ← holding [v, ov] (eval b X.env)
      standAt pos
      holding [v, ov, iv] (setItem ov iv v)
      release [v, ov, iv] [])) (ha : PE X a (tE X.K cl W ma)) (hb : PE X b (tE X.K cl W mb)) :
    PG X (.Subscript a b pos) (tG X.K cl [] fun d ρ h => (ma ρ h).bind fun o h => (mb ρ h).bind fun k h => (setI o k d h).bind fun _ h => .ok ρ h) :=
  wkG (pg_sub ha hb (pset (cl := cl)) hp) fun v σ H Q ⟨μ, ρ, h, d, ρ', h', re, rh, rl, e, q⟩ => by
    obtain ⟨o, h1, e1, e⟩ := R.bind_inv e
    obtain ⟨k, h2, e2, e⟩ := R.bind_inv e
    obtain ⟨_, h3, e3, e⟩ := R.bind_inv e
    cases e
    refine ⟨μ, ρ, h, re, rh, Pg.okAt e1 fun μ1 H1 g1 ov ro => ⟨μ1, ρ, h1, re.mono g1.tp g1.pre, g1.rh, Pg.okAt e2 fun μ2 H2 g2 iv ri => ?_⟩⟩
    refine ⟨μ2, h2, o, k, d, NoX, g2.rh, ro.mono g2.tp g2.pre, ri, rl.mono (g1.tp.trans g2.tp) (g1.pre.trans g2.pre), Pg.okAt e3 fun μ3 H3 g3 => ?_⟩
    have g := (g1.trans g2).trans g3
    exact q μ3 H3 σ g (re.mono g.tp g.pre) .refl

/-! ### comprehensions -/
theorem tsNo : PTs X [] (tT X.K cl W fun _ h => .ok true h) := ⟨fun pins s σ H Q I ⟨μ, ρ, h, re, rh, pg⟩ => pts_nil.run pins s σ H Q I (pg μ H (.refl rh))⟩
theorem tsSo {mt : En → Hh → R Bool} (h : PT X c (tT X.K cl W mt)) : PTs X [c] (tT X.K cl W mt) := pts_one h
end
/-- a thing beside the cells is changed -/
theorem Go.side {K : PySem.W.Frag} {cl : Md} {μ μ' : List Addr} {H H' : Hp} {h' : Hh} {D : Addr} {u o : HO} (g : Go K cl μ H h' μ' H') (n : H D = none) (dm : D ∉ μ') (eu : H' D = some u) (m : Mut (some u)) (mx : ∀ φ, u ≠ .ext φ) : Go K cl μ H h' μ' (upd H' D o) := by
  have t : Tp H' (upd H' D o) := Tp.upd_mut eu m
  refine ⟨g.pre, g.tp.trans t, fun a x na nt e => ?_, g.nw, tabs_upd g.rh.tb eu (fun ps z => by rw [z] at m; exact m) mx, g.rh.len, g.rh.nd, fun j c b e1 e2 => ?_⟩
  · rw [upd_ne (ne_of_none e n)]
    exact g.fr a x na nt e
  · have q := g.rh.at_ j c b e1 e2
    exact q.mono t List.prefix_rfl (by rw [upd_ne fun z => dm (by rw [← z]; exact List.mem_of_getElem? e2)])
theorem Go.apart {K : PySem.W.Frag} {cl : Md} {μ μ' : List Addr} {H H' : Hp} {h' : Hh} {D : Addr} {u : HO} (g : Go K cl μ H h' μ' H') (dm : D ∉ μ) (e : H D = some u) (nt : ∀ ps, u ≠ .tbl ps := by intro ps z; cases z) : D ∉ μ' ∧ H' D = some u :=
  ⟨fun z => (g.nw D z).elim dm (fun n => by
    rcases n with n | ⟨ps, n⟩
    · rw [e] at n; cases n
    · rw [e] at n; exact nt ps (Option.some.inj n)), g.fr D u dm nt e⟩
/-- the new list becomes a cell -/
theorem Go.adopt {K : PySem.W.Frag} {cl : Md} {μ μ' : List Addr} {H H' : Hp} {h' : Hh} {D : Addr} {ds : List HS.D} {vs : List V} (g : Go K cl μ H h' μ' H') (n : NoT H D) (dm : D ∉ μ') (e : H' D = some (.lst vs)) (r : Rls K cl H' μ' ds vs) : Go K cl μ H (h' ++ [.lst ds]) (μ' ++ [D]) H' := by
  refine ⟨g.pre.trans (List.prefix_append _ _), g.tp, g.fr, fun a m => ?_, g.rh.tb, by simp [g.rh.len], ?_, fun m c a e1 e2 => ?_⟩
  · rcases List.mem_append.mp m with m | m
    · exact g.nw a m
    · exact .inr (by rw [List.mem_singleton.mp m]; exact n)
  · exact List.nodup_append.mpr ⟨g.rh.nd, by simp, fun a ha b hb => fun z => dm (by rw [List.mem_singleton.mp hb] at z; rw [← z]; exact ha)⟩
  · by_cases hm : m < h'.length
    · rw [List.getElem?_append_left hm] at e1
      rw [List.getElem?_append_left (by rw [g.rh.len]; exact hm)] at e2
      exact (g.rh.at_ m c a e1 e2).mono .refl (List.prefix_append _ _) rfl
    · have em : m = h'.length := by
        have := (List.getElem?_eq_some_iff.mp e1).1
        simp at this
        omega
      subst em
      rw [List.getElem?_append_right (Nat.le_refl _)] at e1
      rw [List.getElem?_append_right (by rw [g.rh.len]; exact Nat.le_refl _)] at e2
      simp at e1
      rw [g.rh.len] at e2
      simp at e2
      subst e1 e2
      exact ⟨vs, e, r.mono .refl (List.prefix_append _ _)⟩

theorem drop_cons {α : Type} {l r : List α} {d : α} {i : Nat} (h : l.drop i = d :: r) : l[i]? = some d ∧ l.drop (i + 1) = r ∧ i < l.length := by
  have hi : i < l.length := by
    rcases Nat.lt_or_ge i l.length with z | z
    · exact z
    · rw [List.drop_eq_nil_of_le z] at h; cases h
  rw [List.drop_eq_getElem_cons hi] at h
  injection h with h1 h2
  exact ⟨by rw [List.getElem?_eq_getElem hi, h1], h2, hi⟩
theorem drop_nil' {α : Type} {l : List α} {i : Nat} (h : l.drop i = []) (hi : i ≤ l.length) : i = l.length := by
  have := congrArg List.length h
  simp at this
  omega
/-- one item's turn -/
noncomputable def elM (mt : D → En → Hh → R En) (mc : En → Hh → R Bool) (me : En → Hh → R D) (own : List Nat) (ρ : En) : D → Hh → R (Option D) := fun d h => ((mt d (wipeD ρ own) h).bind fun ρ1 h => (mc ρ1 h).bind fun b h =>
  if b = true then (me ρ1 h).bind fun y h => .ok (some y) h else .ok none h).calm
section
variable {X : Cx} {cl : Md} {W : WX} {K : PySem.W.Frag}
/-- the layer's reading of a comprehension follows from the evaluator's -/
theorem lcR {mi : En → Hh → R (List D × Gs)} {mt : D → En → Hh → R En} {mc : En → Hh → R Bool} {me : En → Hh → R D} {own vs : List Nat} (hv : ∀ j ∈ vs, j ∈ own) {σ : L2.St} {H : Hp} {Q : VK}
    (x : tE K cl W (fun ρ h => (mi ρ h).bind fun p h => lcL p.2 (elM mt mc me own ρ) p.1 [] h) σ H Q) :
    tLc (tI K cl W mi) (tG K cl vs mt) (tT K cl NoW mc) (tE K cl NoW me) own σ H Q := by
  obtain ⟨μ, ρ, h, re, rh, pg⟩ := x
  refine ⟨μ, ρ, h, re, rh, pg.bind.imp (fun p h1 μ1 H1 g1 p1 J src D nD => ?_) fun _ _ _ _ _ w => w⟩
  obtain ⟨items, gs⟩ := p
  dsimp only at p1 src
  have re1 := re.mono g1.tp g1.pre
  have dm1 : D ∉ μ1 := g1.rh.fresh nD
  refine ⟨fun i m H2 => m = items.length - i ∧ i ≤ items.length ∧ ∃ μ2 h2 acc vacc, Go K cl μ1 H1 h2 μ2 H2 ∧ D ∉ μ2 ∧ H2 D = some (.lst vacc) ∧ Rls K cl H2 μ2 acc vacc ∧ Pg K cl μ1 H1 (lcL gs (elM mt mc me own ρ) (items.drop i) acc h2) (VP K cl Q) (wX K cl W σ), ⟨items.length, rfl, Nat.zero_le _, μ1, h1, [], [], (Go.new g1.rh nD), dm1, upd_same, by rw [Rls.nil], by simpa using p1⟩, ?_⟩
  rintro i m H2 ⟨em, hi, μ2, h2, acc, vacc, g2, dm2, e2, ra, p2⟩
  cases hd : items.drop i with
  | nil =>
    refine .inl ?_
    rw [hd] at p2
    unfold lcL at p2
    split at p2
    · rename_i hg
      obtain ⟨hg, hl⟩ := hg
      refine ⟨(src i H2 μ2 h2 g2 hg).2 (drop_nil' hd hi), ?_⟩
      refine p2 (μ2 ++ [D]) H2 (g2.adopt (.inl nD) dm2 e2 ra) _ (Rl.ref_iff.mpr ⟨D, rfl, ?_⟩)
      rw [← g2.rh.len]
      simp
    · exact p2.elim
  | cons d ds =>
    obtain ⟨hd1, hd2, hlt⟩ := drop_cons hd
    refine .inr ?_
    rw [hd] at p2
    unfold lcL at p2
    split at p2
    · rename_i hg
      obtain ⟨hg, hl⟩ := hg
      obtain ⟨go, yld⟩ := (src i H2 μ2 h2 g2 hg).1 d hd1
      refine ⟨go, _, fun H' w => ⟨items.length - (i + 1), by omega, w⟩, fun x H' y => ?_⟩
      obtain ⟨g3, rx⟩ := yld x H' y
      have a3 := g3.apart dm2 e2
      have gg3 := g2.trans g3
      cases ee : elM mt mc me own ρ d h2 with
      | bad => rw [ee] at p2; exact p2.elim
      | ex e h' =>
        exfalso
        unfold elM at ee
        revert ee
        generalize ((mt d (wipeD ρ own) h2).bind fun ρ1 h => (mc ρ1 h).bind fun b h => if b = true then (me ρ1 h).bind fun y h => R.ok (some y) h else .ok none h) = r
        cases r <;> (intro ee; cases ee)
      | ok oy h5 =>
        rw [ee] at p2
        have p2 : Pg K cl μ1 H1 (match oy with | some y => lcL gs (elM mt mc me own ρ) ds (acc ++ [y]) h5 | none => lcL gs (elM mt mc me own ρ) ds acc h5) (VP K cl Q) (wX K cl W σ) := p2
        obtain ⟨ρ1, h3, e3, ee⟩ := R.bind_inv (R.calm_inv ee)
        obtain ⟨bb, h4, e4, ee⟩ := R.bind_inv ee
        refine ⟨μ2, wipeD ρ own, h2, d, ρ1, h3, ((re1.mono gg3.tp gg3.pre).wipe own), g3.rh, rx, e3, fun μ4 H4 σ4 g4 re4 o4 => ⟨by rw [(o4.mono hv).wipe, wipe_wipe], μ4, ρ1, h3, re4, g4.rh, Pg.okAt e4 fun μ5 H5 g5 => ?_⟩⟩
        have g35 := (g3.trans g4).trans g5
        have a5 := g35.apart dm2 e2
        have gg5 := g2.trans g35
        cases bb with
        | false =>
          rw [if_neg (by decide)] at ee
          dsimp only
          rw [if_neg (by decide)]
          cases ee
          exact ⟨rfl, hlt, μ5, h5, acc, vacc, gg5, a5.1, a5.2, ra.mono g35.tp g35.pre, by rw [hd2]; exact p2⟩
        | true =>
          rw [if_pos rfl] at ee
          dsimp only
          rw [if_pos rfl]
          obtain ⟨y, h6, e6, ee⟩ := R.bind_inv ee
          cases ee
          refine ⟨μ5, ρ1, h4, re4.mono g5.tp g5.pre, g5.rh, Pg.okAt e6 fun μ6 H6 g6 v rv => ?_⟩
          have g36 := g35.trans g6
          have a6 := g36.apart dm2 e2
          have gg6 := g2.trans g36
          have gs := gg6.side (o := .lst (vacc ++ [v])) nD a6.1 a6.2 trivial (fun _ z => by cases z)
          have t6 : Tp H6 (upd H6 D (.lst (vacc ++ [v]))) := Tp.upd_mut a6.2 trivial
          refine ⟨vacc, a6.2, by rw [← ra.length]; exact hl, rfl, hlt, μ6, h5, acc ++ [y], vacc ++ [v], gs, a6.1, upd_same, ((ra.mono g36.tp g36.pre).mono t6 List.prefix_rfl).append (Rls.one (rv.mono t6 List.prefix_rfl)), by rw [hd2]; exact p2⟩
    · exact p2.elim
end
end HS

/-! Statements. -/
namespace HS
open PySem L2 PyProof.Rows

/-- what a statement's end asks -/
def EndF (K : PySem.W.Frag) (cl : Md) (W : WX) (D : Ends) (f : F) (μ : List Addr) (H : Hp) : Prop :=
  match f with
  | .nx ρ => ∀ σ, RlE K cl H μ σ ρ → D.nx σ H
  | .bk ρ => ∀ σ, RlE K cl H μ σ ρ → D.bk σ H
  | .ct ρ => ∀ σ, RlE K cl H μ σ ρ → D.ct σ H
  | .rt d => ∀ v, Rl K cl H μ d v → D.rt v H
  | .xc e ρ => ∀ σ, RlE K cl H μ σ ρ → ∀ c dd, RlX K cl H μ e c dd → W c dd σ H
/-- a statement's reading by the evaluator -/
def tS (K : PySem.W.Frag) (cl : Md) (W : WX) (m : En → Hh → R F) : TS := fun D σ H => ∃ μ ρ h, RlE K cl H μ σ ρ ∧ RlH K cl H μ h ∧ Pg K cl μ H (m ρ h) (fun f _ μ' H' => EndF K cl W D f μ' H') NoX
theorem Pg.noEx {α : Type} {K : PySem.W.Frag} {cl : Md} {μ : List Addr} {H : Hp} {r : R α} {P P' : α → Hh → List Addr → Hp → Prop} {W' : HS.X → Hh → List Addr → Hp → Prop} (x : Pg K cl μ H r P NoX) (ne : ∀ e h, r ≠ .ex e h) (h : ∀ a h' μ' H', Go K cl μ H h' μ' H' → P a h' μ' H' → P' a h' μ' H') : Pg K cl μ H r P' W' := by
  cases r with
  | ok a h' => exact fun μ' H' g => h _ _ _ _ g (x μ' H' g)
  | ex e h' => exact absurd rfl (ne e h')
  | bad => exact x
/-- an expression within a statement -/
theorem Pg.toF {α : Type} {K : PySem.W.Frag} {cl : Md} {W : WX} {D : Ends} {μ : List Addr} {H : Hp} {σ : L2.St} {ρ : En} {r : R α} {k : α → Hh → R F} (re : RlE K cl H μ σ ρ)
    (x : Pg K cl μ H (r.toF ρ k) (fun f _ μ' H' => EndF K cl W D f μ' H') NoX) :
    Pg K cl μ H r (fun a h' μ' H' => Pg K cl μ' H' (k a h') (fun f _ μ' H' => EndF K cl W D f μ' H') NoX) (wX K cl W σ) := by
  cases r with
  | ok a h' => exact fun μ' H' g => Pg.far g (show Pg K cl μ H (k a h') _ NoX from x)
  | ex e h' => exact fun μ' H' g c dd rx => (show Pg K cl μ H (.ok (F.xc e ρ) h') _ NoX from x) μ' H' g σ (re.mono g.tp g.pre) c dd rx
  | bad => exact x
theorem R.calm_ne {α : Type} {r : R α} (e : HS.X) (h : Hh) : r.calm ≠ .ex e h := by
  cases r <;> (intro z; cases z)
section
variable {X : Cx} {cl : Md} {W : WX} {m ma mb mc : En → Hh → R D} {a b c tg : Expr} {pos : Pos}
/-- target = value: the reading -/
theorem asgR {K : PySem.W.Frag} {te : TE} {vs : List Nat} {mt : D → En → Hh → R En} {g : TG} {D : Ends} {σ : L2.St} {H : Hp} (hte : ∀ Q : VK, tE K cl W ma σ H Q → te σ H Q) (hg : ∀ v σ H Q, tG K cl vs mt v σ H Q → g v σ H Q)
    (x : tS K cl W (fun ρ h => (ma ρ h).toF ρ fun d h => (mt d ρ h).calm.toF ρ fun ρ1 h => .ok (.nx ρ1) h) D σ H) : tAsg te g D σ H := by
  obtain ⟨μ, ρ, h, re, rh, pg⟩ := x
  refine hte _ ⟨μ, ρ, h, re, rh, pg.toF re |>.imp (fun d h1 μ1 H1 g1 p1 v rv => ?_) fun _ _ _ _ _ w => w⟩
  refine hg _ _ _ _ ?_
  cases e : (mt d ρ h1).calm with
  | bad => rw [e] at p1; exact p1.elim
  | ex x h2 => exact absurd e (R.calm_ne _ _)
  | ok ρ' h2 =>
    rw [e] at p1
    exact ⟨μ1, ρ, h1, d, ρ', h2, re.mono g1.tp g1.pre, g1.rh, rv, R.calm_inv e, fun μ' H' σ' g re' _ => p1 μ' H' g σ' re'⟩
theorem tAsg_def {te : TE} {g : TG} {D : Ends} {σ : L2.St} {H : Hp} : tAsg te g D σ H = te σ H fun x H1 => g x σ H1 D.nx := rfl
theorem sAsg {vs : List Nat} {mt : D → En → Hh → R En} (he : PE X a (tE X.K cl W ma)) (hg : PG X tg (tG X.K cl vs mt)) (hs : swapsWithSole [tg] a pos.line X.env = pure false) (hw : swappedStores [tg] a X.env = pure none) (h1 : (assignEach [tg] X.env).map (·.2) = [assign tg X.env]) :
    PS X (.Assign [tg] a pos) (tS X.K cl W fun ρ h => (ma ρ h).toF ρ fun d h => (mt d ρ h).calm.toF ρ fun ρ1 h => .ok (.nx ρ1) h) :=
  wkS (ps_asg he hg hs hw h1) fun D σ H x => asgR (fun _ z => z) (fun _ _ _ _ z => z) x
theorem gName_of {K : PySem.W.Frag} {i : Nat} (v : V) (σ : L2.St) (H : Hp) (Q : L2.St → Hp → Prop) (x : tG K cl [i] (fun d ρ h => .ok (ρ.set i (some d)) h) v σ H Q) : gName i v σ H Q := by
  obtain ⟨μ, ρ, h, d, ρ', h', re, rh, rl, e, q⟩ := x
  cases e
  exact q μ H _ (.refl rh) (re.set rl i) .set
theorem sSet {i : Nat} {x : Str} {pos' : Pos} (hN : X.N.Nodup) (hi : X.N[i]? = some x) (hx : Loc X.env.scope x) (hf : X.fn x = true ∨ X.env.scope.names.lookup x = some .local) (hs : swapsWith a (some (.Name x pos')) pos.line X.env = pure false) (he : PE X a (tE X.K cl W ma)) :
    PS X (.Assign [.Name x pos'] a pos) (tS X.K cl W fun ρ h => (ma ρ h).toF ρ fun d h => (R.ok (ρ.set i (some d)) h).calm.toF ρ fun ρ1 h => .ok (.nx ρ1) h) :=
  wkS (ps_set hN hi hx he hs hf) fun D σ H x => asgR (mt := fun d ρ h => .ok (ρ.set i (some d)) h) (fun _ z => z) (fun _ _ _ _ z => gName_of _ _ _ _ z) x
theorem lcE {K : PySem.W.Frag} {mi : En → Hh → R (List D × Gs)} {mt : D → En → Hh → R En} {mcc : En → Hh → R Bool} {me : En → Hh → R D} {own vs : List Nat} (hv : ∀ j ∈ vs, j ∈ own) {e : Expr} (h : PE X e (tLc (tI X.K cl W mi) (tG X.K cl vs mt) (tT X.K cl NoW mcc) (tE X.K cl NoW me) own)) :
    PE X e (tE X.K cl W fun ρ h => (mi ρ h).bind fun p h => lcL p.2 (elM mt mcc me own ρ) p.1 [] h) := wkE h fun σ H Q z => lcR hv z
theorem sSetLc {i : Nat} {y : Str} {py : Pos} {elt iter : Expr} {ifs : List Expr} {scope : Scope} {own : List (Str × Nat)} {spos : Pos} {vs : List Nat} {mi : En → Hh → R (List D × Gs)} {mt : D → En → Hh → R En} {mcc : En → Hh → R Bool} {me : En → Hh → R D} (hv : ∀ j ∈ vs, j ∈ own.map (·.2))
    (h : PS X (.Assign [.Name y py] (.ListComp elt [⟨tg, iter, ifs, 0⟩] scope pos) spos) (tAsg (tLc (tI X.K cl W mi) (tG X.K cl vs mt) (tT X.K cl NoW mcc) (tE X.K cl NoW me) (own.map (·.2))) (gName i))) :
    PS X (.Assign [.Name y py] (.ListComp elt [⟨tg, iter, ifs, 0⟩] scope pos) spos) (tS X.K cl W fun ρ h => ((mi ρ h).bind fun p h => lcL p.2 (elM mt mcc me (own.map (·.2)) ρ) p.1 [] h).toF ρ fun d h => (R.ok (ρ.set i (some d)) h).calm.toF ρ fun ρ1 h => .ok (.nx ρ1) h) :=
  wkS h fun D σ H x => asgR (mt := fun d ρ h => .ok (ρ.set i (some d)) h) (fun _ z => lcR hv z) (fun _ _ _ _ z => gName_of _ _ _ _ z) x
/-- a, b = x, y, stored from the right -/
theorem parR {K : PySem.W.Frag} {ms : En → Hh → R (List HS.D)} {mt : HS.D → En → Hh → R En} {i j : Nat} {D : Ends} {σ : L2.St} {H : Hp}
    (hm : ∀ xs ρ h, mt (.tup xs) ρ h = match xs with | [a, b] => .ok ((ρ.set i (some a)).set j (some b)) h | _ => .bad)
    (x : tS K cl W (fun ρ h => ((ms ρ h).bind fun xs h => if lineOk xs.length then R.ok (HS.D.tup xs) h else .bad).toF ρ fun d h => (mt d ρ h).calm.toF ρ fun ρ1 h => .ok (.nx ρ1) h) D σ H) : tPar i j (tA K cl W ms) D σ H := by
  obtain ⟨μ, ρ, h, re, rh, pg⟩ := x
  have pg := pg.toF re
  refine ⟨μ, ρ, h, re, rh, pg.bind.imp (fun xs h1 μ1 H1 g1 p1 vs rv => ?_) fun _ _ _ _ _ w => w⟩
  split at p1
  · have p1 := p1 μ1 H1 (.refl g1.rh)
    have re1 := re.mono g1.tp g1.pre
    dsimp only at p1
    rw [hm] at p1
    match xs, rv, p1 with
    | [], rv, p1 => exact p1.elim
    | [_], rv, p1 => exact p1.elim
    | [d1, d2], rv, p1 =>
      obtain ⟨v, r, rfl, r1, rv⟩ := Rls.cons.mp rv
      obtain ⟨w, r, rfl, r2, rv⟩ := Rls.cons.mp rv
      rw [Rls.nil] at rv
      subst rv
      exact ⟨v, w, rfl, p1 μ1 H1 (.refl g1.rh) _ ((re1.set r1 i).set r2 j)⟩
    | _ :: _ :: _ :: _, rv, p1 => exact p1.elim
  · exact p1.elim
theorem par3R {K : PySem.W.Frag} {ms : En → Hh → R (List HS.D)} {mt : HS.D → En → Hh → R En} {i j l : Nat} {D : Ends} {σ : L2.St} {H : Hp}
    (hm : ∀ xs ρ h, mt (.tup xs) ρ h = match xs with | [a, b, c] => .ok (((ρ.set i (some a)).set j (some b)).set l (some c)) h | _ => .bad)
    (x : tS K cl W (fun ρ h => ((ms ρ h).bind fun xs h => if lineOk xs.length then R.ok (HS.D.tup xs) h else .bad).toF ρ fun d h => (mt d ρ h).calm.toF ρ fun ρ1 h => .ok (.nx ρ1) h) D σ H) : tPar3 i j l (tA K cl W ms) D σ H := by
  obtain ⟨μ, ρ, h, re, rh, pg⟩ := x
  have pg := pg.toF re
  refine ⟨μ, ρ, h, re, rh, pg.bind.imp (fun xs h1 μ1 H1 g1 p1 vs rv => ?_) fun _ _ _ _ _ w => w⟩
  split at p1
  · have p1 := p1 μ1 H1 (.refl g1.rh)
    have re1 := re.mono g1.tp g1.pre
    dsimp only at p1
    rw [hm] at p1
    match xs, rv, p1 with
    | [], rv, p1 => exact p1.elim
    | [_], rv, p1 => exact p1.elim
    | [_, _], rv, p1 => exact p1.elim
    | [d1, d2, d3], rv, p1 =>
      obtain ⟨v, r, rfl, r1, rv⟩ := Rls.cons.mp rv
      obtain ⟨w, r, rfl, r2, rv⟩ := Rls.cons.mp rv
      obtain ⟨u, r, rfl, r3, rv⟩ := Rls.cons.mp rv
      rw [Rls.nil] at rv
      subst rv
      exact ⟨v, w, u, rfl, p1 μ1 H1 (.refl g1.rh) _ (((re1.set r1 i).set r2 j).set r3 l)⟩
    | _ :: _ :: _ :: _ :: _, rv, p1 => exact p1.elim
  · exact p1.elim
theorem sExp (hs : swapsWith a none pos.line X.env = pure false) (he : PE X a (tE X.K cl W ma)) : PS X (.Expr a pos) (tS X.K cl W fun ρ h => (ma ρ h).toF ρ fun _ h => .ok (.nx ρ) h) :=
  wkS (ps_expr he hs) fun D σ H ⟨μ, ρ, h, re, rh, pg⟩ => ⟨μ, ρ, h, re, rh, (pg.toF re).imp (fun d h1 μ1 H1 g1 p1 v rv => p1 μ1 H1 (.refl g1.rh) _ (re.mono g1.tp g1.pre)) fun _ _ _ _ _ w => w⟩
theorem sRet (he : PE X a (tE X.K cl W ma)) : PS X (.Return (some a) pos) (tS X.K cl W fun ρ h => (ma ρ h).toF ρ fun d h => .ok (.rt d) h) :=
  wkS (ps_ret he) fun D σ H ⟨μ, ρ, h, re, rh, pg⟩ => ⟨μ, ρ, h, re, rh, (pg.toF re).imp (fun d h1 μ1 H1 g1 p1 v rv => p1 μ1 H1 (.refl g1.rh) _ rv) fun _ _ _ _ _ w => w⟩
theorem sRetN : PS X (.Return none pos) (tS X.K cl W fun _ h => .ok (.rt .non) h) :=
  wkS ps_retN fun D σ H ⟨μ, ρ, h, re, rh, pg⟩ => pg μ H (.refl rh) _ (Rl.non_iff.mpr rfl)
theorem sBrk : PS X (.Break pos) (tS X.K cl W fun ρ h => .ok (.bk ρ) h) := wkS ps_break fun D σ H ⟨μ, ρ, h, re, rh, pg⟩ => pg μ H (.refl rh) _ re
theorem sCnt : PS X (.Continue pos) (tS X.K cl W fun ρ h => .ok (.ct ρ) h) := wkS ps_continue fun D σ H ⟨μ, ρ, h, re, rh, pg⟩ => pg μ H (.refl rh) _ re
theorem sPas : PS X (.Pass pos) (tS X.K cl W fun ρ h => .ok (.nx ρ) h) := wkS ps_pass fun D σ H ⟨μ, ρ, h, re, rh, pg⟩ => pg μ H (.refl rh) _ re
theorem sDoc {x : Str} {j : Nat} {p : Pos} : PS X (.Expr (.Constant (.str x) j p) pos) (tS X.K cl W fun ρ h => .ok (.nx ρ) h) := wkS ps_doc fun D σ H ⟨μ, ρ, h, re, rh, pg⟩ => pg μ H (.refl rh) _ re
theorem sNev {st : Stmt} : PS X st (tS X.K cl W fun _ _ => .bad) := wkS ps_never fun D σ H ⟨μ, ρ, h, re, rh, pg⟩ => pg.elim
theorem sIf {p q : List Stmt} {mp mq : En → Hh → R F} (hc : PT X c (tT X.K cl W fun ρ h => (mc ρ h).bind asBl)) (hp : PSs X p (tS X.K cl W mp)) (hq : PSs X q (tS X.K cl W mq)) :
    PS X (.If c p q pos) (tS X.K cl W fun ρ h => ((mc ρ h).bind asBl).toF ρ fun t h => if t = true then mp ρ h else mq ρ h) :=
  wkS (ps_if hc hp hq) fun D σ H ⟨μ, ρ, h, re, rh, pg⟩ => ⟨μ, ρ, h, re, rh, (pg.toF re).imp (fun t h1 μ1 H1 g1 p1 => by
    cases t with
    | true => exact ⟨μ1, ρ, h1, re.mono g1.tp g1.pre, g1.rh, p1⟩
    | false => exact ⟨μ1, ρ, h1, re.mono g1.tp g1.pre, g1.rh, p1⟩) fun _ _ _ _ _ w => w⟩
theorem ssNil : PSs X [] (tS X.K cl W fun ρ h => .ok (.nx ρ) h) := wkSs pss_nil fun D σ H ⟨μ, ρ, h, re, rh, pg⟩ => pg μ H (.refl rh) _ re
theorem ssCons {st : Stmt} {sts : List Stmt} {m1 m2 : En → Hh → R F} (h1 : PS X st (tS X.K cl W m1)) (h2 : PSs X sts (tS X.K cl W m2)) :
    PSs X (st :: sts) (tS X.K cl W fun ρ h => (m1 ρ h).bind fun f h => match f with | .nx ρ1 => m2 ρ1 h | f => .ok f h) :=
  wkSs (pss_cons h1 h2) fun D σ H ⟨μ, ρ, h, re, rh, pg⟩ => ⟨μ, ρ, h, re, rh, pg.bind.imp (fun f h1 μ1 H1 g1 p1 => by
    cases f with
    | nx ρ1 => exact fun σ1 re1 => ⟨μ1, ρ1, h1, re1, g1.rh, p1⟩
    | bk ρ1 => exact p1 μ1 H1 (.refl g1.rh)
    | ct ρ1 => exact p1 μ1 H1 (.refl g1.rh)
    | rt d => exact p1 μ1 H1 (.refl g1.rh)
    | xc e ρ1 => exact p1 μ1 H1 (.refl g1.rh)) fun _ _ _ _ _ w => w⟩
theorem whN_bad {c : En → Hh → R Bool} {bd : En → Hh → R F} {n : Nat} {ρ : En} {h : Hh} {r : R F} (e : whN c bd n ρ h = some r) : ∃ k, n = k + 1 := by
  cases n with
  | zero => cases e
  | succ k => exact ⟨k, rfl⟩
theorem sWhl {body : List Stmt} {mw : En → Hh → R Bool} {mb : En → Hh → R F} (hp : PassesOwn (model X.prog X.w) X.A X.env X.xe) (hc : PT X c (tT X.K cl W mw)) (hb : PSs X body (tS X.K cl W mb)) :
    PS X (.While c body [] pos) (tS X.K cl W fun ρ h => whL mw mb ρ h) :=
  wkS (ps_while hp hc hb) fun D σ H ⟨μ, ρ, h, re, rh, pg⟩ => by
    unfold whL at pg
    dsimp only at pg
    split at pg
    · rename_i hx
      have hr := (Classical.choose_spec hx).choose_spec
      generalize (Classical.choose_spec hx).choose = r at pg hr
      generalize Classical.choose hx = n at hr
      refine ⟨fun m σ H => ∃ μ ρ h r, RlE X.K cl H μ σ ρ ∧ RlH X.K cl H μ h ∧ whN mw mb m ρ h = some r ∧ Pg X.K cl μ H r (fun f _ μ' H' => EndF X.K cl W D f μ' H') NoX, ⟨n, μ, ρ, h, r, re, rh, hr, pg⟩, ?_⟩
      rintro m σ H ⟨μ, ρ, h, r, re, rh, hr, pg⟩
      obtain ⟨m, rfl⟩ := whN_bad hr
      unfold whN at hr
      cases e1 : mw ρ h with
      | bad => rw [e1] at hr; cases hr; exact pg.elim
      | ex e h1 =>
        rw [e1] at hr; cases hr
        exact ⟨μ, ρ, h, re, rh, by rw [e1]; exact fun μ' H' g c dd rx => pg μ' H' g σ (re.mono g.tp g.pre) c dd rx⟩
      | ok b h1 =>
        refine ⟨μ, ρ, h, re, rh, Pg.okAt e1 fun μ1 H1 g1 => ?_⟩
        have re1 := re.mono g1.tp g1.pre
        rw [e1] at hr
        cases b with
        | false =>
          cases hr
          dsimp only
          rw [if_neg (by decide)]
          exact pg μ1 H1 g1 σ re1
        | true =>
          dsimp only at hr ⊢
          rw [if_pos rfl]
          refine ⟨_, fun σ' H' w => ⟨m, Nat.lt_succ_self m, w⟩, μ1, ρ, h1, re1, g1.rh, ?_⟩
          cases e2 : mb ρ h1 with
          | bad => rw [e2] at hr; cases hr; exact pg.elim
          | ex e h2 => rw [e2] at hr; cases hr; exact pg.elim
          | ok f h2 =>
            rw [e2] at hr
            intro μ2 H2 g2
            have g := g1.trans g2
            cases f with
            | nx ρ2 => exact fun σ2 re2 => ⟨μ2, ρ2, h2, r, re2, g.rh, hr, Pg.far g pg⟩
            | ct ρ2 => exact fun σ2 re2 => ⟨μ2, ρ2, h2, r, re2, g.rh, hr, Pg.far g pg⟩
            | bk ρ2 => cases hr; exact fun σ2 re2 => pg μ2 H2 g σ2 re2
            | rt d => cases hr; exact fun v rv => pg μ2 H2 g v rv
            | xc e ρ2 => cases hr; exact fun σ2 re2 => pg μ2 H2 g σ2 re2
    · exact pg.elim
theorem sFor {iter : Expr} {body : List Stmt} {vs : List Nat} {mi : En → Hh → R (List D × Gs)} {mt : D → En → Hh → R En} {mb : En → Hh → R F} (hp : PassesOwn (model X.prog X.w) X.A X.env X.xe) (hc : X.calm = true) (hi : PI X tg iter (tI X.K cl W mi)) (hg : PG X tg (tG X.K cl vs mt)) (hb : PSs X body (tS X.K cl W mb)) (hx : plainX iter = true) :
    PS X (.For tg iter body [] pos) (tS X.K cl W fun ρ h => (mi ρ h).toF ρ fun p h => forL p.2 mt mb p.1 ρ h) :=
  wkS (ps_for hp hc hi hg hb fun x => fold_plain hx) fun D σ H ⟨μ, ρ, h, re, rh, pg⟩ => by
    refine ⟨μ, ρ, h, re, rh, (pg.toF re).imp (fun p h1 μ1 H1 g1 p1 J src => ?_) fun _ _ _ _ _ w => w⟩
    obtain ⟨items, gs⟩ := p
    dsimp only at p1 src
    refine ⟨fun i m σ2 H2 => m = items.length - i ∧ i ≤ items.length ∧ ∃ μ2 ρ2 h2, Go X.K cl μ1 H1 h2 μ2 H2 ∧ RlE X.K cl H2 μ2 σ2 ρ2 ∧ Pg X.K cl μ2 H2 (forL gs mt mb (items.drop i) ρ2 h2) (fun f _ μ' H' => EndF X.K cl W D f μ' H') NoX, ⟨items.length, rfl, Nat.zero_le _, μ1, ρ, h1, .refl g1.rh, re.mono g1.tp g1.pre, p1⟩, ?_⟩
    rintro i m σ2 H2 ⟨em, hi, μ2, ρ2, h2, g2, re2, p2⟩
    cases hd : items.drop i with
    | nil =>
      refine .inl ?_
      rw [hd] at p2
      unfold forL at p2
      split at p2
      · rename_i hgs
        exact ⟨(src i H2 μ2 h2 g2 hgs).2 (drop_nil' hd hi), p2 μ2 H2 (.refl g2.rh) σ2 re2⟩
      · exact p2.elim
    | cons d ds =>
      obtain ⟨hd1, hd2, hlt⟩ := drop_cons hd
      refine .inr ?_
      rw [hd] at p2
      unfold forL at p2
      split at p2
      · rename_i hgs
        obtain ⟨go, yld⟩ := (src i H2 μ2 h2 g2 hgs).1 d hd1
        refine ⟨go, _, fun σ' H' w => ⟨items.length - (i + 1), by omega, w⟩, fun x H' y => ?_⟩
        obtain ⟨g3, rx⟩ := yld x H' y
        cases e3 : (mt d ρ2 h2).calm with
        | bad => rw [e3] at p2; exact p2.elim
        | ex e h' => exact absurd e3 (R.calm_ne _ _)
        | ok ρ3 h3 =>
          rw [e3] at p2
          refine ⟨μ2, ρ2, h2, d, ρ3, h3, re2.mono g3.tp g3.pre, g3.rh, rx, R.calm_inv e3, fun μ4 H4 σ4 g4 re4 o4 => ?_⟩
          have g24 := g3.trans g4
          have g14 := g2.trans g24
          refine ⟨μ4, ρ3, h3, re4, g4.rh, ?_⟩
          have p2 := Pg.far g24 p2
          refine Pg.imp (Pg.bind p2) (fun f h5 μ5 H5 g5 p5 => ?_) fun _ _ _ _ _ w => w
          cases f with
          | nx ρ5 => exact fun σ5 re5 => ⟨rfl, hlt, μ5, ρ5, h5, g14.trans g5, re5, by rw [hd2]; exact p5⟩
          | ct ρ5 => exact fun σ5 re5 => ⟨rfl, hlt, μ5, ρ5, h5, g14.trans g5, re5, by rw [hd2]; exact p5⟩
          | bk ρ5 => exact fun σ5 re5 => p5 μ5 H5 (.refl g5.rh) σ5 re5
          | rt d => exact fun v rv => p5 μ5 H5 (.refl g5.rh) v rv
          | xc e ρ5 => exact fun σ5 re5 => p5 μ5 H5 (.refl g5.rh) σ5 re5
      · exact p2.elim
end
end HS

/-! Slices from behind; errors that are raised and caught; a call handed to a def. -/
namespace HS
open PySem L2 PyProof.Rows
theorem rev_pick (items : Array Value) (lo : Option Int) : slicePick items lo none (some (-1)) = ((items.toList.take (rIx items.size lo)).reverse).toArray := by
  have hb : ∃ m : Nat, m = rIx items.size lo ∧ m ≤ items.size ∧ sliceBounds lo none (some (-1)) items.size = ((m : Int) - 1, -1, -1) := by
    refine ⟨_, rfl, ?_, ?_⟩
    · unfold rIx
      cases lo with
      | none => exact Nat.le_refl _
      | some v => dsimp only; split <;> omega
    · unfold rIx sliceBounds
      have h1 : ¬ ((-1 : Int) > 0) := by decide
      cases lo with
      | none => simp
      | some v =>
        simp only [Option.getD_some, h1, if_false]
        refine Prod.ext ?_ rfl
        dsimp only
        by_cases hv : v < 0
        · simp only [hv, if_true]
          omega
        · simp only [hv, if_false]
          omega
  obtain ⟨m, hm, hle, hb⟩ := hb
  rw [← hm]
  unfold slicePick
  rw [hb]
  show ((sliceRange ((m : Int) - 1) (-1) (-1)).filterMap (items[·]?)).toArray = _
  rw [PySem.W.krv_sliceRange, PySem.W.krv_range, List.filterMap_reverse]
  have h := pick_run items 0 m
  have e : (List.range m).map (0 + ·) = List.range m := by
    rw [show ((0 + ·) : Nat → Nat) = id from funext fun k => Nat.zero_add k, List.map_id]
  rw [e, List.drop_zero] at h
  rw [h]
section
variable {X : Cx} {cl : Md} {W : WX} {m ma mb mc : En → Hh → R D} {a b c tg : Expr} {pos : Pos}
theorem Rls.reverse {K : PySem.W.Frag} {H : Hp} {μ : List Addr} : ∀ {ds : List D} {vs : List V}, Rls K cl H μ ds vs → Rls K cl H μ ds.reverse vs.reverse
  | [], _, h => by rw [Rls.nil] at h; subst h; exact Rls.nil.mpr rfl
  | d :: ds, _, h => by
    rw [Rls.cons] at h
    obtain ⟨v, r, rfl, h1, h2⟩ := h
    rw [List.reverse_cons, List.reverse_cons]
    exact (Rls.reverse h2).append (Rls.one h1)
theorem sRsl {lo : Option Expr} {ml : En → Hh → R (Option Int)} {k : Nat} {z1 z2 z3 : Pos} (ha : PE X a (tE X.K cl W ma)) (hl : PO X lo (tO X.K cl W ml)) :
    PE X (.Subscript a (.Slice lo none (some (.UnaryOp .USub (.Constant (.int 1) k z1) z2)) z3) pos) (tE X.K cl W fun ρ h => (ma ρ h).bind fun x h => (ml ρ h).bind fun l h => rslD x l h) := by
  refine ⟨fun pins s σ H Q I ⟨μ, ρ, h, re, rh, pg⟩ => ?_⟩
  refine Subscript_ (thn (ha.run pins s σ H (fun v H1 => ∃ μ1 h1 x, RlE X.K cl H1 μ1 σ ρ ∧ RlH X.K cl H1 μ1 h1 ∧ Rl X.K cl H1 μ1 x v ∧ Pg X.K cl μ1 H1 ((ml ρ h1).bind fun l h => rslD x l h) (VP X.K cl Q) (wX X.K cl W σ)) I
    ⟨μ, ρ, h, re, rh, pg.bind.imp (fun x h1 μ1 H1 g1 p1 v rv => ⟨μ1, h1, x, re.mono g1.tp g1.pre, g1.rh, rv, p1⟩) fun _ _ _ _ _ w => w⟩) fun v s1 ⟨x, H1, I1, r1, μ1, h1, d, re1, rh1, rd, p1⟩ => ?_)
  have hst : PO X (some (.UnaryOp .USub (.Constant (.int 1) k z1) z2)) (tPart (tUn (rU fun i => .int (-i)) (tC (.int 1)))) := po_some (pe_un un_neg pe_int)
  refine wpAny_Slice (thn (hl.run pins s1 σ H1 (fun l H2 => ∃ μ2 h2, RlH X.K cl H2 μ2 h2 ∧ Rl X.K cl H2 μ2 d x ∧ Pg X.K cl μ2 H2 (rslD d l h2) (VP X.K cl Q) (wX X.K cl W σ)) I1
    ⟨μ1, ρ, h1, re1, rh1, p1.bind.imp (fun l h2 μ2 H2 g2 p2 => ⟨μ2, h2, g2.rh, rd.mono g2.tp g2.pre, p2⟩) fun _ _ _ _ _ w => w⟩) fun vl s2 ⟨l, H2, I2, pl, μ2, h2, rh2, rd2, p2⟩ => ?_)
  refine thn (po_none.run pins s2 σ H2 (fun o H3 => o = none ∧ H3 = H2) I2 ⟨rfl, rfl⟩) fun vu s3 ⟨u, H3, I3, pu, eu, e3⟩ => ?_
  subst eu e3
  refine thn (hst.run pins s3 σ H3 (fun o H4 => o = some (-1) ∧ H4 = H3) I3 ⟨1, rfl, -1, rfl, rfl, rfl⟩) fun vs s4 ⟨o, H4, I4, ps, eo, e4⟩ => ?_
  subst eo e4
  have I5 : Inv X pins σ H4 { s4 with heap := s4.heap.push { cls := .type "slice", data := .fields #[vl, vu, vs] } } := I4.kept (t' := s4.toks) fun b ob q => Heap.get?_push_of_some _ q
  unfold rslD at p2
  split at p2 <;> try exact p2.elim
  split at p2 <;> try exact p2.elim
  rename_i xs ex
  obtain ⟨p, ws, rfl, m, s1', r1'⟩ := rh2.lst (listAt_eq ex) rd2
  cases r1
  obtain ⟨its, r, ht, hz⟩ := I5.list (.of s1')
  have hlen := r.length
  show wpAny (model X.prog X.w) X.A (subscriptTail a (.Slice lo none (some (.UnaryOp .USub (.Constant (.int 1) k z1) z2)) z3) (.ref p) (.ref s4.heap.objs.size)) (EP X pins σ Q) X.xe { s4 with heap := s4.heap.push { cls := .type "slice", data := .fields #[vl, vu, vs] } }
  refine tail_any (ops := [.ref p, .ref s4.heap.objs.size]) ht.isList.typeIs (PySem.slot_list_getitem.lookup) ?_ (by with_unfolding_all rfl)
  refine wpAny_getItem_list_slice ht.isList (Heap.IsSliceOf.new _ vl vu vs) pl pu ps (by decide) ?_ (by rw [List.size_toArray]; omega)
  rw [rev_pick]
  have el : rIx its.toArray.size l = rIx xs.length l := by rw [List.size_toArray, ← hlen, ← r1'.length]
  rw [el]
  have rv := (r.take (rIx xs.length l)).reverse
  refine ⟨.ref _, _, I5.laid (t' := s4.toks) (o := .lst (ws.take (rIx xs.length l)).reverse) (fun b ob q => Heap.get?_push_of_some _ q) (Nat.le_refl _) ?_, rfl, p2.lst rh2 (Rls.reverse (r1'.take _)) (I5.hok.fresh (Nat.le_refl _))⟩
  exact ⟨by rw [List.length_reverse, List.length_take]; omega, _, 0, rv, Heap.get?_push_size _ rfl⟩
/-! ### classes of errors -/
/-- the k-th class of errors, called x here -/
structure ClsK (K : PySem.W.Frag) (mg : Str → Option Value) (cl : Md) (k : Nat) (x : Str) : Prop where
  ex : ∃ a, cl.c k = some a ∧ mg x = some (.ref a) ∧ PySem.W.keepIn K (.ref a) = true ∧ PySem.W.typeIn K (.ref a) = some (.type "type") ∧ ExcC K a
/-- it may be raised without a word -/
structure RazK (K : PySem.W.Frag) (cl : Md) (k : Nat) : Prop where
  ex : ∃ a, cl.c k = some a ∧ PySem.W.excIn K a [.type "ValueError", .type "Exception", .type "BaseException", .type "object"] "ValueError.__new__" = true
/-- how any two of them stand -/
structure SubK (K : PySem.W.Frag) (cl : Md) : Prop where
  exc : ∀ k a, cl.c k = some a → ExcC K a
  sub : ∀ k j a b, cl.c k = some a → cl.c j = some b → PySem.W.subIn K (.ref a) (.ref b) = some (subC k j) ∧ PySem.W.kitOne K (.ref a) (.ref b) = some (subC k j)
theorem mk_bare {C : Addr} {x : Str} {p : Pos} (q : PySem.W.excIn X.K C [.type "ValueError", .type "Exception", .type "BaseException", .type "object"] "ValueError.__new__" = true) (gC : X.mg x = some (.ref C)) (kC : PySem.W.keepIn X.K (.ref C) = true) (r : Raises X (.ref C)) (hg : Gl X x)
    (hdb : (x == ("__debug__" : Str)) = false) : PMk X (.Call (.Name x p) [] [] pos) (fun _ H Q => Q (.ref C) none H) := by
  intro pins s σ H Q I h
  refine wpAny_Call_Name_kw (ld_glob I hg gC ?_ hdb)
  refine PySem.W.callWith_K0 I.kIn kC ?_
  obtain ⟨bm, N, nm, qn, bs, hdct, sn, sub, ab, col, dd, k0, k1, k2, k3, k5, mN, hC, hN, hni, T⟩ := exc_obj I.kIn q
  exact wpAny_call_exc_subT F.excBase_ValueError T hC hN hni (fun h' e hm => mk_of I hm r h (I.hok.gone hm.new)) (by decide)
theorem sRse {k : Nat} {x : Str} {p cpos : Pos} (hc : X.calm = true) (tk : Takes X W) (C : ClsK X.K X.mg cl k x) (R : RazK X.K cl k) (hg : Gl X x) (hdb : (x == ("__debug__" : Str)) = false) :
    PS X (.Raise (some (.Call (.Name x p) [] [] cpos)) none pos) (tS X.K cl W fun ρ h => .ok (.xc ⟨k, []⟩ ρ) h) := by
  obtain ⟨a, c1, c2, c3, c4, c5⟩ := C.ex
  obtain ⟨b, r1, r2⟩ := R.ex
  rw [c1] at r1
  cases r1
  refine wkS (ps_raise hc tk (mk_bare r2 c2 c3 (raises_own c5.hs c4) hg hdb)) fun D σ H ⟨μ, ρ, h, re, rh, pg⟩ => ?_
  exact pg μ H (.refl rh) σ re (.ref a) none ⟨a, rfl, c1, fun _ => rfl, fun f x z => by cases z⟩
end
end HS

/-! A lambda of no parameters handed to a def that calls it within a try. -/
namespace HS
open PySem L2 PyProof.Rows
/-- the place may make lambdas: its code object and the table are known -/
structure LamOk (X : Cx) (cl : Md) : Prop where
  ex : ∃ c P, X.env.code = .ref c ∧ LamX.TabB X.base X.mg c P ∧ (P, X.env.qual ++ "<lambda>") ∈ cl.T ∧ ∀ p ∈ cl.T, p.1 = P → p.2 = X.env.qual ++ "<lambda>"
/-- no name that the model treats apart -/
def nameOk1 (x : Str) : Prop := (x == ("__debug__" : Str)) = false ∧ (x == ("__classdict__" : Str)) = false
/-- the context of the def that got the lambda, entered at s -/
abbrev gCx (X : Cx) (Ng : List Str) (x : Str) (sg : Scope) (g : Addr) (cdg : Value) (s : Shared) (H : Hp) : Cx := cxOf C8.CX0 X.prog X.w X.K X.mg X.base Ng x sg g cdg X.A X.stack s H C8.E0
section
variable {X : Cx} {cl : Md}
set_option maxHeartbeats 1000000 in
/-- a(), in the def that got the lambda -/
theorem act_g {pins : List (Addr × Obj)} {σ : L2.St} {H : Hp} {s : Shared} {Ng : List Str} {qg : Str} {sg : Scope} {g f c' : Addr} {cdg pm ctv : Value} {params : Arguments} {body : Expr} {scope : Scope} {k i : Nat} {a : Str} {pn : List (Addr × Obj)} {xe : Value → Shared → Prop} {W : WX} {E : XK} {tb : TE} {p1 p2 : Pos}
    (I : Inv X pins σ H s) (L : LamX.LamS X.env.scope scope) (hf : s.heap.get? f = some (PySem.W.kla_obj "<lambda>" (X.env.qual ++ "<lambda>") params body scope (cloFrom X.env.cells scope.names []) pm c' ctv)) (hfn : H f = none) (hfr : f ∉ frs X.stack)
    (hbind : bindArgs (PySem.W.kla_fn "<lambda>" (X.env.qual ++ "<lambda>") params body scope (cloFrom X.env.cells scope.names []) pm (.ref c') ctv) ⟨[], []⟩ = pure [])
    (tk : Takes ((gCx X Ng qg sg g cdg s H).tr pn xe) W) (hW : ∀ c d σ' H', σ'.length = Ng.length → E c d H' → W c d σ' H') (hg : X.A.guards = some []) (hr : Room (k + 1) (X.A.deeper (envOfC qg sg s.heap.objs.size g cdg)))
    (hbody : ∀ (A : Around) (outer : List Env) (s : Shared) (H : Hp), A.guards = some [] → Room k (A.deeper (LamX.lamEnv X scope s.heap.objs.size f c')) → PE (LamX.lamCx X A outer s H E scope f c') body tb)
    (hN : Ng[i]? = some a) (hv : Vis sg a) (hd : (a == ("__debug__" : Str)) = false) (hcd : (a == ("__classdict__" : Str)) = false) :
    PE ((gCx X Ng qg sg g cdg s H).tr pn xe) (.Call (.Name a p1) [] [] p2) (fun σZ HZ Q => σZ[i]? = some (some (.ref f)) ∧ HZ c' = some (LamX.CodeO c' (X.env.qual ++ "<lambda>")) ∧ tb σ HZ Q) := by
  constructor
  rintro pz sZ σZ HZ Q IZ ⟨hs, hc, ht⟩
  have look := (pe_var (X := (gCx X Ng qg sg g cdg s H).tr pn xe) (pos := p1) (i := i) hN hv hd hcd).run pz sZ σZ HZ (fun v H1 => v = .ref f ∧ H1 = HZ) IZ ⟨.ref f, hs, rfl, rfl⟩
  refine wpAny_Call_Name_kw (thn look ?_)
  rintro u s1 ⟨v, H1, I1, r1, rfl, rfl⟩
  cases (show u = Value.ref f from r1)
  have keep1 := I1.base.keep f _ hf hfn hfr (fun z => nomatch (show f ∈ ([] : List Addr) from z))
  refine PySem.W.callWith_F0 ⟨_, _, _, _, keep1⟩ ?_
  obtain ⟨⟨oc, vs, t, hoc, hdc, hvc⟩, _, _⟩ := I1.hok c' _ hc
  have un := I1.base
  have ran : codeAny (model X.prog X.w) (X.A.deeper (envOfC qg sg s.heap.objs.size g cdg)) (.call (.ref f) ⟨[], []⟩) (CR (L2.CX X.prog X.w) (envOfC qg sg s.heap.objs.size g cdg :: X.stack) X.prog X.w H1 s1 Q E) s1 := by
    refine PySem.W.kla_callFunE hr.depth keep1 rfl L.co L.gen rfl ⟨c', oc, vs, t, rfl, hoc, hdc, hvc⟩ ?_
    rw [hbind]
    refine wpAny_pure (wpAny_newFunctionEnv (fun y hy => (L.own y hy).2) (fun y hy => absurd hy (by simp)) (fun h1 hns hsb => ?_) L.kind)
    refine ⟨I1.nolimit.fresh _ hsb, ?_⟩
    have kp : ∀ b o, s1.heap.get? b = some o → h1.get? b = some o := fun b o e => hsb.extBut b o (Nat.ne_of_lt (Heap.lt_size e)) (Heap.get?_push_of_some _ e)
    have J := LamX.lam_start2 (f := f) (c' := c') (A := X.A.deeper (envOfC qg sg s.heap.objs.size g cdg)) (outer := envOfC qg sg s.heap.objs.size g cdg :: X.stack) (E := E) (tk := s1.toks + ([] : List (Str × Value)).length) I L I1.env0 hr.hd un hns kp
    have B := (hbody (X.A.deeper (envOfC qg sg s.heap.objs.size g cdg)) (envOfC qg sg s.heap.objs.size g cdg :: X.stack) s1 H1 hg (hr.deeper _)).run [] _ _ H1 Q J ht
    refine PySem.W.kla_codeExpr (wpAny_mono B (fun v s' z => ?_) fun e s' z => z)
    obtain ⟨w', H', J', rv, q⟩ := z
    exact ⟨w', H', J'.os, J'.bare, J'.base, J'.hok, rv, q⟩
  refine wpAny_call (codeAny_mono ran fun r s' z => ?_)
  match r, z with
  | .error e, z => exact tk e s' (XE.of_call I1 (fun c d H' h => hW c d σZ H' I1.len h) z)
  | .ok (.ret u), z => exact I1.after z
  | .ok .next, z => exact False.elim z
  | .ok .brk, z => exact False.elim z
  | .ok .cont, z => exact False.elim z
/-- what is known of a def's text: try: return repr(a()); except x1 as e: return s1 if isinstance(e, x2) else s2 -/
structure TdRep (K : PySem.W.Frag) (mg : Str → Option Value) (cl : Md) (Ng : List Str) (sg : Scope) (a : Str) (k1 k2 : Nat) (s1 s2 : Str) (bg : List Stmt) : Prop where
  ex : ∃ (e x1 x2 : Str) (j1 j2 : Nat) (p1 p2 p3 p4 p5 p6 p7 p8 p9 p10 p11 p12 p13 p14 p15 p16 : Pos),
    bg = [.Try [.Return (some (.Call (.Name "repr" p1) [.Call (.Name a p2) [] [] p3] [] p4)) p5]
      [.ExceptHandler (some (.Name x1 p6)) (some e) [.Return (some (.IfExp (.Call (.Name "isinstance" p7) [.Name e p8, .Name x2 p9] [] p10) (.Constant (.str s1) j1 p11) (.Constant (.str s2) j2 p12) p13)) p14] p15] [] [] p16] ∧
    Ng = [a, e] ∧ a ≠ e ∧ Vis sg a ∧ sg.names.lookup e = some .local ∧ sg.names.lookup x1 = some .globalImplicit ∧ sg.names.lookup x2 = some .globalImplicit ∧ sg.names.lookup ("repr" : Str) = some NameKind.globalImplicit ∧ sg.names.lookup ("isinstance" : Str) = some NameKind.globalImplicit ∧
    mg "repr" = none ∧ mg "isinstance" = none ∧ ClsK K mg cl k1 x1 ∧ ClsK K mg cl k2 x2 ∧ nameOk1 a ∧ nameOk1 e ∧ nameOk1 x1 ∧ nameOk1 x2
set_option maxHeartbeats 2000000 in
theorem rep_gives {Ng : List Str} {x a : Str} {sg : Scope} {g f c' : Addr} {cdg : Value} {k1 k2 : Nat} {s1 s2 : Str} {bg : List Stmt} {s : Shared} {σ : L2.St} {H : Hp} {Q : VK} {m : En → Hh → R D} {W0 : HS.X → Hh → List Addr → Hp → Prop} {q : Str} (sub : SubK X.K cl) (sy : SysOk X.base) (T : TdRep X.K X.mg cl Ng sg a k1 k2 s1 s2 bg)
    (hg : X.A.guards = some []) (hu : X.A.units + 200 < cLine)
    (act : ∀ (W : WX) (pn : List (Addr × Obj)) (xe : Value → Shared → Prop) (E : XK) (p1 p2 : Pos), Takes ((gCx X Ng x sg g cdg s H).tr pn xe) W → (∀ c d σ' H', σ'.length = Ng.length → E c d H' → W c d σ' H') →
      PE ((gCx X Ng x sg g cdg s H).tr pn xe) (.Call (.Name a p1) [] [] p2) (fun σZ HZ Q => σZ[0]? = some (some (.ref f)) ∧ HZ c' = some (LamX.CodeO c' q) ∧ tE X.K cl (fun c d _ H' => E c d H') m σ HZ Q))
    (hc : H c' = some (LamX.CodeO c' q)) {μ : List Addr} {ρ : En} {h : Hh} (re : RlE X.K cl H μ σ ρ) (rh : RlH X.K cl H μ h) (pg : Pg X.K cl μ H (toldR (.rep k1 k2 s1 s2) (m ρ h)) (VP X.K cl Q) W0) :
    ∃ t, PSs (gCx X Ng x sg g cdg s H) bg t ∧ t { nx := fun _ H' => Q .non H', rt := Q } (L2.start Ng [.ref f]) H := by
  obtain ⟨e, x1, x2, j1, j2, p1, p2, p3, p4, p5, p6, p7, p8, p9, p10, p11, p12, p13, p14, p15, p16, rfl, rfl, hae, va, ve, v1, v2, vr, vi, mr, mi, C1, C2, na, ne, n1, n2⟩ := T.ex
  obtain ⟨a1, c11, c12, c13, c14, c15⟩ := C1.ex
  obtain ⟨a2, c21, c22, c23, c24, c25⟩ := C2.ex
  let Z := (gCx X [a, e] x sg g cdg s H).nox
  refine ⟨_, PSs.nox (pss_one (ps_try_as (X := Z) (c := .ref a1) (i := 1) (n := e) (Wout := fun _ _ _ _ => False)
    (tb := fun W D σ' H' => ∃ E : XK, (∀ c d σ2 H2, σ2.length = 2 → E c d H2 → W c d σ2 H2) ∧ σ'[0]? = some (some (.ref f)) ∧ H' c' = some (LamX.CodeO c' q) ∧ tE X.K cl (fun c d _ H' => E c d H') m σ H' fun v H2 => tBL X.K cl (bltD .repr) [v] H2 D.rt)
    (ts := fun b c d D σ' H' => ∃ (Dc : Addr) (z : Bool), c = .ref Dc ∧ d = none ∧ ExcC X.K Dc ∧ σ'[1]? = some (some (.ref b)) ∧ PySem.W.kitOne X.K (.ref Dc) (.ref a2) = some z ∧ D.rt (.str (if z = true then s1 else s2)) H')
    rfl rfl (by show [a, e].Nodup; simp [hae]) rfl ve ⟨v1, n1.1, .inl c12⟩ LamX.takes0 ?_ ?_)), ?_⟩
  · intro W pn xe tk _
    refine ⟨fun pins s' σ' H' D I ⟨E, hW, h1, h2, h3⟩ => ?_⟩
    have hp := act W pn xe E p2 p3 tk hW
    have hr : PE ((gCx X [a, e] x sg g cdg s H).tr pn xe) (.Call (.Name "repr" p1) [.Call (.Name a p2) [] [] p3] [] p4) (tCB (tBL X.K cl (bltD .repr)) (tCons _ tNil)) :=
      pe_callB (callr (X := (gCx X [a, e] x sg g cdg s H).tr pn xe) rfl hg (by show X.A.units + 3 + 65 < cLine; omega) sy .repr) vr mr (boot_bf .repr (by decide) (by decide)) (pa_cons hp pa_nil rfl) (by decide) (by decide) rfl rfl
    exact (pss_one (ps_ret (pos := p5) hr)).run pins s' σ' H' D I ⟨h1, h2, h3⟩
  · intro b oe c d pn hz hv
    refine ⟨fun pins s' σ' H' D I ⟨Dc, z, hcc, hd, ec, h1, h2, h3⟩ => ?_⟩
    subst hcc hd
    have hi : PE (Z.suite b ((b, oe) :: pn)) (.Call (.Name "isinstance" p7) [.Name e p8, .Name x2 p9] [] p10) (tCB (rIsE X.K Dc b) (tCons (tVar 1) (tCons (tC (.ref a2)) tNil))) :=
      pe_callB (call_isE (X := Z) ec hz hv) vi mi boot_isinstance (pa_cons (pe_var (i := 1) rfl (.inl ve) ne.1 ne.2) (pa_cons (pe_glob v2 c22 rfl n2.1) pa_nil rfl) rfl) (by decide) (by decide) rfl rfl
    have hq := pss_one (ps_ret (pos := p14) (pe_ifExp (pos := p13) (pt_val hi) (pe_str (X := Z.suite b ((b, oe) :: pn)) (x := s1) (j := j1) (pos := p11)) (pe_str (x := s2) (j := j2) (pos := p12))))
    refine hq.run pins s' σ' H' D I ?_
    refine ⟨.ref b, h1, .ref a2, .ref a2, z, rfl, fun u hu => hu, h2, ?_⟩
    refine ⟨z, rfl, ?_⟩
    cases z with
    | true => exact h3
    | false => exact h3
  · refine ⟨fun c d H2 => ∃ Dc : Addr, c = .ref Dc ∧ d = none ∧ ExcC X.K Dc ∧ PySem.W.exmOne X.K c (.ref a1) = some true ∧ ∃ z, PySem.W.kitOne X.K (.ref Dc) (.ref a2) = some z ∧ Q (.str (if z = true then s1 else s2)) H2, ?_, rfl, hc, μ, ρ, h, re, rh, ?_⟩
    · rintro c d σ2 H2 hl ⟨Dc, rfl, rfl, ec, hx, z, hk, hQ⟩
      refine ⟨true, hx, fun _ b nb => ⟨Dc, z, rfl, rfl, ec, ?_, hk, hQ⟩, fun z => nomatch z⟩
      rw [List.getElem?_set_self (by omega)]
    · cases em : m ρ h with
      | bad => rw [em] at pg; exact pg
      | ok y h1 =>
        rw [em] at pg
        exact fun μ1 H1 g1 v rv => ⟨μ1, h1, [y], _, g1.rh, Rls.one rv, Pg.far g1 pg⟩
      | ex y h1 =>
        rw [em] at pg
        simp only [toldR] at pg
        split at pg
        · rename_i hy
          intro μ1 H1 g1 c dd rx
          obtain ⟨Dc, rfl, hk, hd, _⟩ := rx
          have ec := sub.exc _ _ hk
          obtain ⟨b1, b2⟩ := sub.sub _ _ _ _ hk c11
          obtain ⟨b3, b4⟩ := sub.sub _ _ _ _ hk c21
          rw [hy.1] at b1
          exact ⟨Dc, rfl, hd hy.2, ec, PySem.W.exm_ref c15.hs c15.hd c14 b1, _, b4, pg μ1 H1 g1 _ (Rl.str_iff.mpr rfl)⟩
        · exact pg.elim
/-- no parameters -/
abbrev noArgs : Arguments := { posonlyargs := [], args := [], vararg := none, kwonlyargs := [], kw_defaults := [], kwarg := none, defaults := [] }
/-- x(lambda: body), x a def that tells by t -/
theorem sTold {W : WX} {x a : Str} {st : Stmt} {g : Addr} {fd : FuncData} {Ng : List Str} {k k1 k2 : Nat} {s1 s2 : Str} {body : Expr} {scope : Scope} {lpos p pos : Pos} {m : En → Hh → R D}
    (F : L2.Fun X.K x x st g fd) (mgf : X.mg x = some (.ref g)) (bd : ∀ (s : Shared) (us : List Value), us.length = 1 → BindsTo s fd ⟨us, []⟩ (([a] : List Str).zip us)) (S : FnScope Ng [a] (defScope st)) (T : TdRep X.K X.mg cl Ng (defScope st) a k1 k2 s1 s2 (defBody st))
    (sub : SubK X.K cl) (sy : SysOk X.base) (LO : LamOk X cl) (hg : X.A.guards = some []) (hr : Room (k + 2) X.A) (hx : Gl X x) (hdb : (x == ("__debug__" : Str)) = false) (L : LamX.LamS X.env.scope scope)
    (hbody : ∀ (A : Around) (outer : List Env) (s : Shared) (H : Hp) (E : XK) (f c' : Addr), A.guards = some [] → Room k (A.deeper (LamX.lamEnv X scope s.heap.objs.size f c')) → PE (LamX.lamCx X A outer s H E scope f c') body (tE X.K cl (fun c d _ H' => E c d H') m)) :
    PE X (.Call (.Name x p) [.Lambda noArgs body scope lpos] [] pos) (tE X.K cl W fun ρ h => toldR (.rep k1 k2 s1 s2) (m ρ h)) := by
  refine ⟨fun pins s σ H Q I ⟨μ, ρ, h, re, rh, pg⟩ => ?_⟩
  obtain ⟨c, P, hcode, TB, hmT, hu⟩ := LO.ex
  obtain ⟨oc, od, kV, doc, pm, an, cdv, ct, osl, rfl, lk, hcg⟩ := F.ex
  have na : nameOk1 a ∧ Vis (defScope st) a ∧ Ng[0]? = some a := by
    obtain ⟨e, x1, x2, j1, j2, p1, p2, p3, p4, p5, p6, p7, p8, p9, p10, p11, p12, p13, p14, p15, p16, _, h2, _, va, _, _, _, _, _, _, _, _, _, na, _⟩ := T.ex
    exact ⟨na, va, by rw [h2]; rfl⟩
  refine wpAny_Call_Name_kw (ld_glob I hx mgf ?_ hdb)
  refine PySem.W.callWith_K (h₀ := X.base) I.ok.mod.kin F.kp ?_ (by rfl) (by rfl)
  show wpAny _ _ (spliced ((false, eval (.Lambda noArgs body scope lpos) X.env) :: backTo pos (starEach [] X.env))) _ _ s
  refine Calls.spliced_cons (LamX.lam_make2 I TB hcode hmT hu rh.tb rfl (L.has I.ok) fun f c' pm' ctv H1 s' I1 eN T1 hf hfn hfr hco => ?_)
  refine Calls.spliced_nil ⟨I1.kIn, ?_⟩
  have tp : Tp H H1 := ⟨fun b xs e => eN b _ e (fun ps z => by cases z), fun b o u e => eN b _ e (fun ps z => by cases z), fun b y e => eN b _ e (fun ps z => by cases z)⟩
  have gst : Go X.K cl μ H h μ H1 := by
    refine ⟨List.prefix_rfl, tp, fun b o _ nt e => eN b o e nt, fun _ m => .inl m, T1, rh.len, rh.nd, fun n d b e1 e2 => ?_⟩
    have q := rh.at_ n d b e1 e2
    obtain ⟨o, eo⟩ := q.there
    have nt : ∀ ps, o ≠ .tbl ps := fun ps z => by
      subst z
      cases d with
      | lst xs => obtain ⟨vs, q, _⟩ := q; rw [eo] at q; cases q
      | dic kvs => have q := q.2; rw [eo] at q; cases q
      | ins _ _ => obtain ⟨_, _, _, _, q, _⟩ := q; rw [eo] at q; cases q
    exact q.mono tp List.prefix_rfl (by rw [eN b o eo nt, eo])
  have re1 := re.mono tp List.prefix_rfl
  have pg1 := Pg.far gst pg
  have ran : codeAny (model X.prog X.w) X.A (.call (.ref g) ⟨[.ref f], []⟩) (CR C8.CX0 X.stack X.prog X.w H1 s' Q C8.E0) s' := by
    refine LamX.run_ofS (N := Ng) (ps := [a]) (us := [.ref f]) (vs := [.ref f]) lk hcg S hr I1.env0 (bd s' [.ref f] rfl) (.cons rfl .nil) rfl fun hr' => ?_
    exact rep_gives sub sy T hg (by have := hr.un; omega) (fun W pn xe E p1 p2 tk hW => act_g I1 L hf hfn hfr rfl tk hW hg hr' (fun A outer s H hga hr2 => hbody A outer s H E f c' hga hr2) na.2.2 na.2.1 na.1.1 na.1.2) hco re1 gst.rh pg1
  refine wpAny_call (codeAny_mono ran fun r s2 z => ?_)
  match r, z with
  | .error e, z => exact False.elim z
  | .ok (.ret u), z => exact I1.after z
  | .ok .next, z => exact False.elim z
  | .ok .brk, z => exact False.elim z
  | .ok .cont, z => exact False.elim z
end
end HS

/-! self.x = e. -/
namespace HS
open PySem L2 PyProof.Rows
section
variable {X : Cx} {cl : Md} {W : WX} {ma mb : En → Hh → R D} {a b : Expr} {pos pos' : Pos}
theorem sSat {x : Str} {ats : List Str} (ik : InsK X.K cl ats) (hf : x ∈ ats) (ha : PE X a (tE X.K cl W ma)) (hb : PE X b (tE X.K cl W mb)) (hs : plainV b = true) :
    PS X (.Assign [.Attribute a x pos'] b pos) (tS X.K cl W fun ρ h => (mb ρ h).toF ρ fun v h => (ma ρ h).toF ρ fun o h => (satD o x v h).calm.toF ρ fun _ h => .ok (.nx ρ) h) := by
  refine wkS (ps_fld ha hb (swap_plain hs)) fun D σ H ⟨μ, ρ, h, re, rh, pg⟩ => ⟨μ, ρ, h, re, rh, (pg.toF re).imp (fun d h1 μ1 H1 g1 p1 y ry => ?_) fun _ _ _ _ _ w => w⟩
  have re1 := re.mono g1.tp g1.pre
  refine ⟨μ1, ρ, h1, re1, g1.rh, (p1.toF re1).imp (fun o h2 μ2 H2 g2 p2 v rv => ?_) fun _ _ _ _ _ w => w⟩
  have re2 := re1.mono g2.tp g2.pre
  unfold satD at p2
  split at p2 <;> try exact p2.elim
  rename_i n
  split at p2 <;> try exact p2.elim
  rename_i k fs eh
  split at p2 <;> try exact p2.elim
  rename_i hlen
  obtain ⟨a1, rfl, ea⟩ := Rl.ref_iff.mp rv
  obtain ⟨C, dx, vs, q0, q, q1, q2, r⟩ := g2.rh.at_ n _ a1 eh ea
  obtain ⟨c1, c2⟩ := ik k C q0
  have ln : vs.length < 1000 := by
    have := congrArg List.length q2
    simp only [List.length_map] at this
    omega
  refine ⟨a1, C, dx, vs, rfl, q, c1, c2 x hf, ln, ?_⟩
  have t : Tp H2 (upd H2 a1 (.ins C dx (putF x y vs))) := Tp.upd_mut q trivial
  have ry2 := ry.mono g2.tp g2.pre
  obtain ⟨e1, e2⟩ := fl_put (f := x) ry2 q2 r
  have g3 : Go X.K cl μ2 H2 (h2.set n (.ins k (putFd x d fs))) μ2 (upd H2 a1 (.ins C dx (putF x y vs))) := by
    refine .set g2.rh ea q trivial (fun _ z => by cases z) ⟨C, dx, putF x y vs, q0, upd_same, t.own _ _ q1, e1, e2.mono t List.prefix_rfl⟩
  exact p2 μ2 _ g3 σ (re2.mono t List.prefix_rfl)
end
end HS

/-! The evaluator's text fits the program's text: a check, and what it is good for. -/
namespace HS
open PySem L2 PyProof.Rows

/-- what the check knows: defs (name, parameters, level), keyword calls, constants, built-in names that nobody hides, gcd -/
structure Gt where
  fns : List (Str × Nat × Nat)
  kws : List (Nat × Nat × List Str × List Nat)
  glb : List Str
  blt : List Str
  gcd : Bool
  cls : List (Nat × Str) := []
  raz : List Nat := []
  td : List (Str × Tk) := []
  ats : List Str := []
  mts : List (Nat × Nat × Str) := []
  mks : List (Nat × Nat × Str) := []
/-- the place: the names' kinds, which names may be stored -/
structure Lx where
  sc : Scope
  fn : Str → Bool
  n : Nat
  lam : Bool
def visB (sc : Scope) (x : Str) : Bool :=
  match sc.names.lookup x with
  | some .local => true
  | some .cell => true
  | some .free => true
  | _ => false
def locB (sc : Scope) (x : Str) : Bool :=
  match sc.names.lookup x with
  | some .local => true
  | some .cell => true
  | _ => false
def gloB (sc : Scope) (x : Str) : Bool := decide (sc.names.lookup x = some .globalImplicit)
def nameOk (x : Str) : Bool := !(x == ("__debug__" : Str)) && !(x == ("__classdict__" : Str)) && !decide (x = ("__name__" : Str)) && !decide (x = ("" : Str))
theorem visB_ok {sc : Scope} {x : Str} (h : visB sc x = true) : Vis sc x := by
  unfold visB at h
  split at h
  · exact .inl (by assumption)
  · exact .inr (.inl (by assumption))
  · exact .inr (.inr (by assumption))
  · cases h
theorem locB_ok {sc : Scope} {x : Str} (h : locB sc x = true) : Loc sc x := by
  unfold locB at h
  split at h
  · exact .inl (by assumption)
  · exact .inr (by assumption)
  · cases h
def T.own : T → List Nat
  | .nm i => [i]
  | .tup ts => Ts.own ts
  | .sub _ _ => []
where Ts.own : Ts → List Nat
  | .nil => []
  | .cons t ts => T.own t ++ Ts.own ts

/-! ### the check -/
def ownN (N : List Str) (own : List Nat) : List (Str × Nat) := own.map fun i => (N.getD i "", i)
def blkC (N : List Str) (sc scope : Scope) (own : List Nat) : Bool :=
  decide (scope.kind = .function) && scope.names.all (fun y => decide (scope.names.lookup y.1 = some y.2)) && own.all (fun i => decide (i < N.length)) &&
    scope.names.all (fun y => !decide (y.2 = .free) || decide (sc.names.lookup y.1 = some .cell) || decide (sc.names.lookup y.1 = some .free)) &&
    scope.names.all (fun y => !(decide (y.2 = .local) || decide (y.2 = .cell)) || (ownN N own).any (fun p => decide (p.1 = y.1)) || !N.any (fun z => decide (z = y.1)))
theorem blk_ok {N : List Str} {sc scope : Scope} {own : List Nat} (h : blkC N sc scope own = true) : BlkOk N sc scope (ownN N own) := by
  unfold blkC at h
  simp only [Bool.and_eq_true, decide_eq_true_eq, List.all_eq_true] at h
  obtain ⟨⟨⟨⟨h1, h2⟩, h3⟩, h4⟩, h5⟩ := h
  refine ⟨h1, h2, fun p hp => ?_, fun y hy e => ?_, fun y hy e => ?_⟩
  · obtain ⟨i, hi, rfl⟩ := List.mem_map.mp hp
    have := h3 i hi
    simp [this]
  · have q := h4 y hy
    simp only [Bool.or_eq_true, Bool.not_eq_true', decide_eq_false_iff_not, decide_eq_true_eq] at q
    rcases q with (q | q) | q
    · exact absurd e q
    · exact .inl q
    · exact .inr q
  · have q := h5 y hy
    simp only [Bool.or_eq_true, Bool.not_eq_true', decide_eq_true_eq, Bool.or_eq_false_iff, decide_eq_false_iff_not, List.any_eq_true, List.any_eq_false] at q
    rcases q with (q | q) | q
    · rcases e with e | e
      · exact absurd e q.1
      · exact absurd e q.2
    · obtain ⟨p, hp, e⟩ := q
      exact .inl (List.mem_map.mpr ⟨p, hp, e⟩)
    · exact .inr fun z => q _ z rfl
theorem ownN_ix (N : List Str) (own : List Nat) : (ownN N own).map (·.2) = own := by
  unfold ownN
  rw [List.map_map]
  exact List.map_id' own
def Lx.blk (L : Lx) (scope : Scope) : Lx := ⟨relS scope L.sc, fun x => scope.names.lookup x == some .cell, L.n, false⟩
/-- within a lambda -/
def Lx.lm (L : Lx) (scope : Scope) : Lx := ⟨scope, fun _ => false, L.n - 2, false⟩
/-- what may stand as a test -/
def tst : E → Bool
  | .var _ | .int _ | .bl _ | .non | .str _ | .glb _ | .bin _ _ _ | .idx _ _ | .slc _ _ _ | .call _ _ | .callk _ _ _ _ | .blt _ _ | .isi _ _ | .lc _ _ _ _ _ | .app _ _ | .att _ _ | .mth _ _ _ _ _ | .new _ _ _ | .cmp _ _ _ | .cmp2 _ _ _ _ _ => true
  | .not a => tst a
  | .and a b => tst a && tst b
  | .or a b => tst a && tst b
  | _ => false
def isBoolOp : Expr → Bool
  | .BoolOp .. => true
  | _ => false
def tyNames : List String := ["int", "bool", "str", "list", "tuple", "dict"]
/-- no call of no arguments: what an attribute stands on -/
def baseOk : Expr → Bool
  | .Name .. | .Subscript .. | .Attribute .. => true
  | _ => false
def kwNm (ks : List Keyword) (nm : List Str) : Bool := decide (ks.map (·.arg) = nm.map some)
mutual
def ckE (G : Gt) (N : List Str) (n : Nat) : E → Lx → Expr → Bool
  | .var i, L, x => match x with
    | .Name y _ => decide (N[i]? = some y) && visB L.sc y && nameOk y
    | _ => false
  | .int i, L, x => match x with
    | .Constant (.int j) _ _ => decide (i = j)
    | _ => false
  | .bl i, L, x => match x with
    | .Constant (.bool j) _ _ => decide (i = j)
    | _ => false
  | .non, L, x => match x with
    | .Constant .none _ _ => true
    | _ => false
  | .str i, L, x => match x with
    | .Constant (.str j) _ _ => decide (i = j)
    | _ => false
  | .glb k, L, x => match x with
    | .Name y _ => decide (G.glb[k]? = some y) && gloB L.sc y && nameOk y
    | _ => false
  | .bin o a b, L, x => match x with
    | .BinOp l p r _ => decide (p = boOf o) && ckE G N n a L l && ckE G N n b L r
    | _ => false
  | .neg a, L, x => match x with
    | .UnaryOp .USub l _ => ckE G N n a L l
    | _ => false
  | .not a, L, x => match x with
    | .UnaryOp .Not l _ => ckE G N n a L l
    | _ => false
  | .cmp o a b, L, x => match x with
    | .Compare l [p] [r] _ => decide (p = o) && plainX r && ckE G N n a L l && ckE G N n b L r
    | _ => false
  | .cmp2 o o2 a b c, L, x => match x with
    | .Compare l [p, p2] [r, r2] _ => decide (p = o) && decide (p2 = o2) && plainX r && plainX r2 && ckE G N n a L l && ckE G N n b L r && ckE G N n c L r2
    | _ => false
  | .and a b, L, x => match x with
    | .BoolOp .And (l :: r :: rest) pos => ckE G N n a L l && ckE G N n b L (match rest with | [] => r | _ => .BoolOp .And (r :: rest) pos)
    | _ => false
  | .or a b, L, x => match x with
    | .BoolOp .Or (l :: r :: rest) pos => ckE G N n a L l && ckE G N n b L (match rest with | [] => r | _ => .BoolOp .Or (r :: rest) pos)
    | _ => false
  | .ife c a b, L, x => match x with
    | .IfExp t l r _ => tst c && ckE G N n c L t && ckE G N n a L l && ckE G N n b L r
    | _ => false
  | .tup es, L, x => match x with
    | .Tuple xs _ _ => ckEs G N n es L xs
    | _ => false
  | .lst es, L, x => match x with
    | .List xs _ => ckEs G N n es L xs
    | _ => false
  | .dic0, L, x => match x with
    | .Dict [] [] _ => true
    | _ => false
  | .idx a b, L, x => match x with
    | .Subscript l r _ => plainX r && ckE G N n a L l && ckE G N n b L r
    | _ => false
  | .slc a lo hi, L, x => match x with
    | .Subscript l (.Slice u v none _) _ => ckE G N n a L l && ckO G N n lo L u && ckO G N n hi L v
    | _ => false
  | .call f es, L, x => match x with
    | .Call (.Name y _) xs [] _ => (match G.fns[f]? with | some (z, np, lv) => decide (z = y) && decide (lv < L.n) && decide (xs.length = np) | none => false) && gloB L.sc y && nameOk y && ckEs G N n es L xs
    | _ => false
  | .callk f es ks vs, L, x => match x with
    | .Call (.Name y _) xs kw _ => (match G.fns[f]? with | some (z, np, lv) => decide (z = y) && decide (lv < L.n) | none => false) && G.kws.any (fun q => decide (q.1 = f) && decide (q.2.1 = xs.length) && decide (q.2.2.2 = ks) && kwNm kw q.2.2.1 && ks.all (fun i => decide (i < q.2.2.1.length))) && gloB L.sc y && nameOk y && ckEs G N n es L xs && ckKs G N n vs L kw
    | _ => false
  | .blt b es, L, x => match x with
    | .Call (.Name y _) (l :: xs) [] _ => decide (y = bfN b) && (match b with | .gcd => G.gcd | .comb => false | _ => G.blt.any fun z => decide (z = y)) && gloB L.sc y && ckEs G N n es L (l :: xs)
    | _ => false
  | .isi a t, L, x => match x with
    | .Call (.Name y _) [l, .Name z _] [] _ => (match t with | .b m => tyNames.any (fun k => decide (k = m)) && decide (z = Str.ofString m) | .own _ => false) && decide (y = "isinstance") && gloB L.sc y && gloB L.sc z && G.blt.any (fun w => decide (w = y)) && G.blt.any (fun w => decide (w = z)) && plainX l && ckE G N n a L l
    | _ => false
  | .lc elt t it tt own, L, x => match x with
    | .ListComp y [⟨tg, iter, ifs, 0⟩] scope _ => blkC N L.sc scope own && plainX iter && (T.own t).all (fun i => decide (i ∈ own)) && ckI G N n it L tg iter && ckT G N n t (L.blk scope) tg && ckF G N n tt (L.blk scope) ifs && ckE G N n elt (L.blk scope) y
    | _ => false
  | .app l a, L, x => match x with
    | .Call (.Attribute o m apos) [y] [] pos => decide (m = "append") && baseOk o && (apos.endLine == pos.line) && plainX y && ckE G N n l L o && ckE G N n a L y
    | _ => false
  | .rsl a lo, L, x => match x with
    | .Subscript l (.Slice u none (some (.UnaryOp .USub (.Constant (.int 1) _ _) _)) _) _ => ckE G N n a L l && ckO G N n lo L u
    | _ => false
  | .told t e, L, x => match x with
    | .Call (.Name y _) [.Lambda { posonlyargs := [], args := [], vararg := none, kwonlyargs := [], kw_defaults := [], kwarg := none, defaults := [] } body scope _] [] _ =>
      L.lam && decide (2 ≤ L.n) && G.td.any (fun q => decide (q.1 = y) && decide (q.2 = t)) && gloB L.sc y && nameOk y && LamX.lamSB L.sc scope && ckE G N n e (L.lm scope) body
    | _ => false
  | .new k f es, L, x => match x with
    | .Call (.Name y _) (l :: xs) [] _ => (match G.fns[f]? with | some (z, np, lv) => decide (z = ("" : Str)) && decide (lv + 1 < L.n) | none => false) && G.mks.any (fun q => decide (q.1 = f) && decide (q.2.1 = k) && decide (q.2.2 = y)) && gloB L.sc y && nameOk y && ckEs G N n es L (l :: xs)
    | _ => false
  | .bits a, L, x => match x with
    | .Call (.Attribute o m apos) [] [] pos => decide (m = "bit_length") && baseOk o && (apos.endLine == pos.line) && ckE G N n a L o
    | _ => false
  | .att a f, L, x => match x with
    | .Attribute o m _ => decide (m = f) && baseOk o && G.ats.any (fun w => decide (w = f)) && ckE G N n a L o
    | _ => false
  | .mth a k f m es, L, x => match x with
    | .Call (.Attribute o y apos) xs [] pos => decide (y = m) && baseOk o && (apos.endLine == pos.line) && decide (xs.length < 30) && (match G.fns[f]? with | some (z, np, lv) => decide (z = ("" : Str)) && decide (lv < L.n) | none => false) && G.mts.any (fun q => decide (q.1 = f) && decide (q.2.1 = k) && decide (q.2.2 = m)) && ckE G N n a L o && ckEs G N n es L xs
    | _ => false
def ckEs (G : Gt) (N : List Str) (n : Nat) : Es → Lx → List Expr → Bool
  | .nil, L, xs => match xs with
    | [] => true
    | _ => false
  | .cons e es, L, xs => match xs with
    | x :: xs => plainX x && ckE G N n e L x && ckEs G N n es L xs
    | [] => false
def ckKs (G : Gt) (N : List Str) (n : Nat) : Es → Lx → List Keyword → Bool
  | .nil, L, xs => match xs with
    | [] => true
    | _ => false
  | .cons e es, L, xs => match xs with
    | ⟨_, x, _⟩ :: xs => ckE G N n e L x && ckKs G N n es L xs
    | [] => false
def ckO (G : Gt) (N : List Str) (n : Nat) : Op → Lx → Option Expr → Bool
  | .no, L, x => match x with
    | none => true
    | _ => false
  | .so e, L, x => match x with
    | some y => ckE G N n e L y
    | none => false
/-- a comprehension's if -/
def ckF (G : Gt) (N : List Str) (n : Nat) : Op → Lx → List Expr → Bool
  | .no, L, x => match x with
    | [] => true
    | _ => false
  | .so e, L, x => match x with
    | [y] => tst e && ckE G N n e L y
    | _ => false
def ckI (G : Gt) (N : List Str) (n : Nat) : It → Lx → Expr → Expr → Bool
  | .pln e, L, tg, x => ckE G N n e L x
  | .rng es, L, tg, x => match x with
    | .Call (.Name y _) (l :: xs) [] _ => decide (y = "range") && gloB L.sc y && G.blt.any (fun w => decide (w = y)) && ckEs G N n es L (l :: xs)
    | _ => false
  | .enm e, L, tg, x => match x, tg with
    | .Call (.Name y _) [l] [] _, .Tuple _ _ _ => decide (y = "enumerate") && gloB L.sc y && G.blt.any (fun w => decide (w = y)) && plainX l && ckE G N n e L l
    | _, _ => false
  | .zip a b, L, tg, x => match x, tg with
    | .Call (.Name y _) [l, r] [] _, .Tuple _ _ _ => decide (y = "zip") && gloB L.sc y && G.blt.any (fun w => decide (w = y)) && plainX l && plainX r && ckE G N n a L l && ckE G N n b L r
    | _, _ => false
  | .rev e, L, tg, x => match x with
    | .Call (.Name y _) [l] [] _ => decide (y = "reversed") && gloB L.sc y && G.blt.any (fun w => decide (w = y)) && plainX l && ckE G N n e L l
    | _ => false
  | .rrng es, L, tg, x => match x with
    | .Call (.Name y _) [.Call (.Name z _) (l :: xs) [] _] [] _ => decide (y = "reversed") && decide (z = "range") && gloB L.sc y && gloB L.sc z && G.blt.any (fun w => decide (w = y)) && G.blt.any (fun w => decide (w = z)) && ckEs G N n es L (l :: xs)
    | _ => false
def ckT (G : Gt) (N : List Str) (n : Nat) : T → Lx → Expr → Bool
  | .nm i, L, x => match x with
    | .Name y _ => decide (N[i]? = some y) && locB L.sc y && (L.fn y || decide (L.sc.names.lookup y = some .local))
    | _ => false
  | .tup ts, L, x => match x with
    | .Tuple xs _ _ => ckTs G N n ts L xs
    | _ => false
  | .sub a i, L, x => match x with
    | .Subscript l r _ => plainX r && ckE G N n a L l && ckE G N n i L r
    | _ => false
def ckTs (G : Gt) (N : List Str) (n : Nat) : Ts → Lx → List Expr → Bool
  | .nil, L, xs => match xs with
    | [] => true
    | _ => false
  | .cons t ts, L, xs => match xs with
    | x :: xs => ckT G N n t L x && ckTs G N n ts L xs
    | [] => false
end
end HS

/-! The check is good: expressions. -/
namespace HS
open PySem L2 PyProof.Rows

/-- what is known of a def that tells of a call -/
theorem room65 {k : Nat} {A : Around} (r : Room k A) : A.units + 65 < cLine := by have := r.un; omega
def TdAll (K : PySem.W.Frag) (mg : Str → Option Value) (cl : Md) (x : Str) (t : Tk) : Prop :=
  ∃ (st : Stmt) (g : Addr) (fd : FuncData) (Ng : List Str) (a : Str), L2.Fun K x x st g fd ∧ mg x = some (.ref g) ∧ (∀ (s : Shared) (us : List Value), us.length = 1 → BindsTo s fd ⟨us, []⟩ (([a] : List Str).zip us)) ∧ FnScope Ng [a] (defScope st) ∧
    match t with
    | .rep k1 k2 s1 s2 => TdRep K mg cl Ng (defScope st) a k1 k2 s1 s2 (defBody st)
    | .fnd _ _ => False
/-- what is known where a text is checked -/
structure Gd (X : Cx) (cl : Md) (W : WX) (G : Gt) (N : List Str) (n : Nat) (Δ : Nat → Fn) (gl : Nat → D) : Prop where
  calm : X.calm = true
  gua : X.A.guards = some []
  room : Room n X.A
  hN : X.N = N
  nd : N.Nodup
  kind : X.env.scope.kind = .function
  sys : SysOk X.base
  tk : Takes X W
  pas : PassesOwn (model X.prog X.w) X.A X.env X.xe
  fns : ∀ j, j ≤ n → ∀ k x np lv, G.fns[k]? = some (x, np, lv) → lv < j → x ≠ ("" : Str) → ∃ (ps : List Str) (f : Addr) (fd : FuncData), ps.length = np ∧ HS.Cal X cl j x ps (Δ k) f fd ∧ ∀ m nm idx, (k, m, nm, idx) ∈ G.kws → KwOk fd ps nm m idx
  cls : ∀ q ∈ G.cls, ClsK X.K X.mg cl q.1 q.2
  raz : ∀ k ∈ G.raz, RazK X.K cl k
  sub : SubK X.K cl
  td : ∀ q ∈ G.td, TdAll X.K X.mg cl q.1 q.2
  glb : ∀ k x, G.glb[k]? = some x → ∃ v u, X.mg x = some u ∧ RelV v u ∧ ∀ H μ, Rl X.K cl H μ (gl k) v
  blt : ∀ x ∈ G.blt, X.mg x = none
  gcd : G.gcd = true → BfOk X.mg .gcd
  ik : InsK X.K cl G.ats
  mts : ∀ j, j ≤ n → ∀ q ∈ G.mts, ∀ np lv, G.fns[q.1]? = some (("" : Str), np, lv) → lv < j → CalM X cl j q.2.1 q.2.2 np (Δ q.1)
  mks : ∀ j, j ≤ n → ∀ q ∈ G.mks, ∀ np lv, G.fns[q.1]? = some (("" : Str), np, lv) → lv < j → CalN X cl j q.2.1 q.2.2 np (Δ q.1)
theorem takes_no {X : Cx} : Takes X NoW := fun _ _ x => by
  obtain ⟨_, _, _, _, _, _, _, _, _, _, _, _, _, _, _, _, z⟩ := x
  exact z.elim
theorem Gd.blk {X : Cx} {cl : Md} {W : WX} {G : Gt} {N : List Str} {n : Nat} {Δ : Nat → Fn} {gl : Nat → D} (g : Gd X cl W G N n Δ gl) (s : Shared) (H : Hp) (scope : Scope) (cenv : Env) (fp : List Addr) (hk : cenv.scope.kind = .function) : Gd (X.blk s H scope cenv fp) cl NoW G N n Δ gl :=
  ⟨g.calm, g.gua, g.room, g.hN, g.nd, hk, g.sys, takes_no, PassesOwn.never, fun j hj k x np lv h1 h2 h3 => by
    obtain ⟨ps, f, fd, l, c, kw⟩ := g.fns j hj k x np lv h1 h2 h3
    exact ⟨ps, f, fd, l, ⟨c.fn, c.mg, c.kp, c.bd⟩, kw⟩, g.cls, g.raz, g.sub, g.td, g.glb, g.blt, g.gcd, g.ik, fun j hj q hq np lv h1 h2 => ⟨(g.mts j hj q hq np lv h1 h2).ex⟩, fun j hj q hq np lv h1 h2 => ⟨(g.mks j hj q hq np lv h1 h2).ex⟩⟩
theorem Gd.lam {X : Cx} {cl : Md} {W : WX} {G : Gt} {N : List Str} {n k : Nat} {Δ : Nat → Fn} {gl : Nat → D} (g : Gd X cl W G N n Δ gl) (hkn : k ≤ n) {scope : Scope} (L : LamX.LamS X.env.scope scope) (A : Around) (outer : List Env) (s : Shared) (H : Hp) (E : XK) (f c' : Addr) (hg : A.guards = some []) (hr : Room k (A.deeper (LamX.lamEnv X scope s.heap.objs.size f c'))) :
    Gd (LamX.lamCx X A outer s H E scope f c') cl (fun c d _ H' => E c d H') G N k Δ gl :=
  ⟨rfl, hg, hr, g.hN, g.nd, L.kind, g.sys, takes_of rfl rfl rfl rfl, passes_of rfl, fun j hj k x np lv h1 h2 h3 => by
    obtain ⟨ps, f, fd, l, c, kw⟩ := g.fns j (Nat.le_trans hj hkn) k x np lv h1 h2 h3
    exact ⟨ps, f, fd, l, ⟨c.fn, c.mg, c.kp, c.bd⟩, kw⟩, g.cls, g.raz, g.sub, g.td, g.glb, g.blt, g.gcd, g.ik, fun j hj q hq np lv h1 h2 => ⟨(g.mts j (Nat.le_trans hj hkn) q hq np lv h1 h2).ex⟩, fun j hj q hq np lv h1 h2 => ⟨(g.mks j (Nat.le_trans hj hkn) q hq np lv h1 h2).ex⟩⟩

/-- an expression's three readings -/
structure Ok3 (X : Cx) (cl : Md) (W : WX) (e : E) (x : Expr) (m : En → Hh → R D) : Prop where
  pe : PE X x (tE X.K cl W m)
  pt : tst e = true → PT X x (tT X.K cl W fun ρ h => (m ρ h).bind asBl)
  pw : tst e = true → isBoolOp x = true → PW X x (tT X.K cl W fun ρ h => (m ρ h).bind asBl)
theorem plainB_no {x : Expr} (h : plainB x = true) : isBoolOp x = false := by cases x <;> first | rfl | (simp [plainB] at h)
section
variable {X : Cx} {cl : Md} {W : WX} {e : E} {x : Expr} {m : En → Hh → R D}
theorem Ok3.b (hp : plainB x = true) (h : PE X x (tE X.K cl W m)) : Ok3 X cl W e x m := ⟨h, fun _ => sValT hp h, fun _ z => by rw [plainB_no hp] at z; cases z⟩
theorem Ok3.n (ht : tst e = false) (h : PE X x (tE X.K cl W m)) : Ok3 X cl W e x m := ⟨h, (fun z => by rw [ht] at z; cases z), (fun z => by rw [ht] at z; cases z)⟩
theorem Ok3.t (hp : isBoolOp x = false) (h : PE X x (tE X.K cl W m)) (t : tst e = true → PT X x (tT X.K cl W fun ρ h => (m ρ h).bind asBl)) : Ok3 X cl W e x m := ⟨h, t, fun _ z => by rw [hp] at z; cases z⟩
end
theorem nameOk_ok {x : Str} (h : nameOk x = true) : (x == ("__debug__" : Str)) = false ∧ (x == ("__classdict__" : Str)) = false ∧ x ≠ "__name__" := by
  unfold nameOk at h
  simp only [Bool.and_eq_true, Bool.not_eq_true', decide_eq_false_iff_not] at h
  exact ⟨h.1.1.1, h.1.1.2, h.1.2⟩
theorem nameOk_ne {x : Str} (h : nameOk x = true) : x ≠ ("" : Str) := by
  unfold nameOk at h
  simp only [Bool.and_eq_true, Bool.not_eq_true', decide_eq_false_iff_not] at h
  exact h.2
theorem gloB_ok {X : Cx} {x : Str} {sc : Scope} (hs : X.env.scope = sc) (h : gloB sc x = true) : Gl X x := by
  have q := of_decide_eq_true h
  show X.env.scope.names.lookup x = _
  rw [hs]; exact q
theorem any_mem {l : List Str} {x : Str} (h : (l.any fun w => decide (w = x)) = true) : x ∈ l := by
  rw [List.any_eq_true] at h
  obtain ⟨w, hw, e⟩ := h
  rw [← of_decide_eq_true e]; exact hw
/-- how many -/
def Es.len : Es → Nat
  | .nil => 0
  | .cons _ es => Es.len es + 1
theorem evs_len {Δ : Nat → Fn} {gl : Nat → D} : ∀ (es : Es) (ρ : En) (h : Hh) (xs : List D) (h' : Hh), evs Δ gl es ρ h = .ok xs h' → xs.length = es.len
  | .nil, ρ, h, xs, h', e => by
    simp only [evs] at e
    cases e; rfl
  | .cons e es, ρ, h, xs, h', q => by
    simp only [evs] at q
    obtain ⟨a, h1, e1, q⟩ := R.bind_inv q
    obtain ⟨b, h2, e2, q⟩ := R.bind_inv q
    cases q
    simp [Es.len, evs_len es _ _ _ _ e2]
def Ts.len : Ts → Nat
  | .nil => 0
  | .cons _ es => Ts.len es + 1
theorem asns_len {Δ : Nat → Fn} {gl : Nat → D} : ∀ (ts : Ts) (xs : List D) (ρ : En) (h : Hh) (ρ' : En) (h' : Hh), asns Δ gl ts xs ρ h = .ok ρ' h' → xs.length = ts.len
  | .nil, xs, ρ, h, ρ', h', e => by
    simp only [asns] at e
    split at e
    · rfl
    · cases e
  | .cons t ts, xs, ρ, h, ρ', h', q => by
    simp only [asns] at q
    split at q
    · obtain ⟨a, h1, e1, q⟩ := R.bind_inv q
      simp [Ts.len, asns_len ts _ _ _ _ _ q]
    · cases q
section
variable {G : Gt} {N : List Str} {n : Nat}
theorem ckEs_len : ∀ (es : Es) (L : Lx) (xs : List Expr), ckEs G N n es L xs = true → xs.length = es.len ∧ xs.all plainX = true
  | .nil, L, xs, h => by
    simp only [ckEs] at h
    split at h
    · exact ⟨rfl, rfl⟩
    · cases h
  | .cons e es, L, xs, h => by
    simp only [ckEs] at h
    split at h
    · simp only [Bool.and_eq_true] at h
      obtain ⟨h1, h2⟩ := ckEs_len es L _ h.2
      exact ⟨by simp [Es.len, h1], by simp only [List.all_cons, h.1.1, h2, Bool.and_true]⟩
    · cases h
theorem ckKs_len : ∀ (es : Es) (L : Lx) (xs : List Keyword), ckKs G N n es L xs = true → xs.length = es.len
  | .nil, L, xs, h => by
    simp only [ckKs] at h
    split at h
    · rfl
    · cases h
  | .cons e es, L, xs, h => by
    simp only [ckKs] at h
    split at h
    · simp only [Bool.and_eq_true] at h
      simp [Es.len, ckKs_len es L _ h.2]
    · cases h
theorem ckT_star (t : T) (L : Lx) (x : Expr) (xs : List Expr) (env : Env) (h : ckT G N n t L x = true) : assignEach (x :: xs) env = (false, assign x env) :: assignEach xs env := by
  cases t <;> (simp only [ckT] at h; split at h <;> first | rfl | cases h)
theorem ckTs_len : ∀ (ts : Ts) (L : Lx) (xs : List Expr) (env : Env), ckTs G N n ts L xs = true → (assignEach xs env).length = ts.len ∧ (assignEach xs env).findIdx? (·.1) = none
  | .nil, L, xs, env, h => by
    simp only [ckTs] at h
    split at h
    · exact ⟨rfl, rfl⟩
    · cases h
  | .cons e es, L, xs, env, h => by
    simp only [ckTs] at h
    split at h
    · simp only [Bool.and_eq_true] at h
      obtain ⟨h1, h2⟩ := ckTs_len es L _ env h.2
      rw [ckT_star _ _ _ _ env h.1]
      refine ⟨by simp [Ts.len, h1], ?_⟩
      rw [List.findIdx?_cons]
      simp [h2]
    · cases h
theorem bootTy {m : String} (h : tyNames.any (fun k => decide (k = m)) = true) : bootBuiltins (Str.ofString m) = some (.type m) ∧ Str.ofString m ≠ "__name__" ∧ (Str.ofString m == ("__debug__" : Str)) = false := by
  rw [List.any_eq_true] at h
  obtain ⟨w, hw, e⟩ := h
  have e := of_decide_eq_true e
  subst e
  simp only [tyNames, List.mem_cons, List.not_mem_nil, or_false] at hw
  rcases hw with rfl | rfl | rfl | rfl | rfl | rfl <;> exact ⟨by decide +kernel, by decide +kernel, by decide +kernel⟩
end
theorem base_plain {o : Expr} {m : Str} {env : Env} {w : Sem Value} (h : baseOk o = true) : attributeBase o m env w = w := by
  cases o <;> first | rfl | (simp [baseOk] at h)
end HS

/-! The check is good: expressions, the proof. -/
namespace HS
open PySem L2 PyProof.Rows
section
variable {G : Gt} {N : List Str} {n : Nat} {cl : Md} {Δ : Nat → Fn} {gl : Nat → D}
mutual
theorem okE : ∀ (e : E) (L : Lx) (x : Expr), ckE G N n e L x = true → ∀ (X : Cx) (W : WX), Gd X cl W G N L.n Δ gl → X.env.scope = L.sc → X.fn = L.fn → (L.lam = true → LamOk X cl) → Ok3 X cl W e x (ev Δ gl e)
  | .var i, L, x, h, X, W, gd, hs, hf, hm => by
    simp only [ckE] at h
    split at h
    · simp only [Bool.and_eq_true, decide_eq_true_eq] at h
      obtain ⟨⟨h1, h2⟩, h3⟩ := h
      obtain ⟨n1, n2, _⟩ := nameOk_ok h3
      refine .b rfl ?_
      have q := sVar (cl := cl) (W := W) (i := i) (pos := ‹_›) (by rw [gd.hN]; exact h1) (by rw [hs]; exact visB_ok h2) n1 n2
      exact q
    · cases h
  | .int i, L, x, h, X, W, gd, hs, hf, hm => by
    simp only [ckE] at h
    split at h
    · have e := of_decide_eq_true h
      subst e
      exact .b rfl (sVal pe_int fun _ _ => Rl.int_iff.mpr rfl)
    · cases h
  | .bl i, L, x, h, X, W, gd, hs, hf, hm => by
    simp only [ckE] at h
    split at h
    · have e := of_decide_eq_true h
      subst e
      exact .b rfl (sVal pe_bl fun _ _ => Rl.bl_iff.mpr rfl)
    · cases h
  | .non, L, x, h, X, W, gd, hs, hf, hm => by
    simp only [ckE] at h
    split at h
    · exact .b rfl (sVal pe_non fun _ _ => Rl.non_iff.mpr rfl)
    · cases h
  | .str i, L, x, h, X, W, gd, hs, hf, hm => by
    simp only [ckE] at h
    split at h
    · have e := of_decide_eq_true h
      subst e
      exact .b rfl (sVal pe_str fun _ _ => Rl.str_iff.mpr rfl)
    · cases h
  | .glb k, L, x, h, X, W, gd, hs, hf, hm => by
    simp only [ckE] at h
    split at h
    · simp only [Bool.and_eq_true, decide_eq_true_eq] at h
      obtain ⟨⟨h1, h2⟩, h3⟩ := h
      obtain ⟨n1, n2, _⟩ := nameOk_ok h3
      obtain ⟨v, u, hm, r, rl⟩ := gd.glb _ _ h1
      exact .b rfl (sVal (pe_glob (gloB_ok hs h2) hm r n1) rl)
    · cases h
  | .bin o a b, L, x, h, X, W, gd, hs, hf, hm => by
    simp only [ckE] at h
    split at h
    · simp only [Bool.and_eq_true, decide_eq_true_eq] at h
      obtain ⟨⟨h1, h2⟩, h3⟩ := h
      subst h1
      exact .b rfl (sBin (okE a L _ h2 X W gd hs hf hm).pe (okE b L _ h3 X W gd hs hf hm).pe)
    · cases h
  | .neg a, L, x, h, X, W, gd, hs, hf, hm => by
    simp only [ckE] at h
    split at h
    · exact .n rfl (sNeg (okE a L _ h X W gd hs hf hm).pe)
    · cases h
  | .not a, L, x, h, X, W, gd, hs, hf, hm => by
    simp only [ckE] at h
    split at h
    · have q := okE a L _ h X W gd hs hf hm
      exact .t rfl (sNot q.pe) fun z => sNotT (q.pt z)
    · cases h
  | .cmp o a b, L, x, h, X, W, gd, hs, hf, hm => by
    simp only [ckE] at h
    split at h
    · simp only [Bool.and_eq_true, decide_eq_true_eq] at h
      obtain ⟨⟨⟨h1, h2⟩, h3⟩, h4⟩ := h
      subst h1
      have qa := (okE a L _ h3 X W gd hs hf hm).pe
      have qb := (okE b L _ h4 X W gd hs hf hm).pe
      exact .t rfl (sCmp (room65 gd.room) gd.sys h2 qa qb) fun _ => sCmpT (room65 gd.room) gd.sys h2 qa qb
    · cases h
  | .cmp2 o o2 a b c, L, x, h, X, W, gd, hs, hf, hm => by
    simp only [ckE] at h
    split at h
    · simp only [Bool.and_eq_true, decide_eq_true_eq] at h
      obtain ⟨⟨⟨⟨⟨⟨h1, h2⟩, h3⟩, h4⟩, h5⟩, h6⟩, h7⟩ := h
      subst h1 h2
      have qa := (okE a L _ h5 X W gd hs hf hm).pe
      have qb := (okE b L _ h6 X W gd hs hf hm).pe
      have qc := (okE c L _ h7 X W gd hs hf hm).pe
      exact .t rfl (sCmp2 (room65 gd.room) gd.sys h3 h4 qa qb qc) fun _ => sCmp2T (room65 gd.room) gd.sys h3 h4 qa qb qc
    · cases h
  | .and a b, L, x, h, X, W, gd, hs, hf, hm => by
    simp only [ckE] at h
    split at h
    · rename_i l r rest pos
      simp only [Bool.and_eq_true] at h
      obtain ⟨h1, h2⟩ := h
      have qa := okE a L _ h1 X W gd hs hf hm
      have qb := okE b L _ h2 X W gd hs hf hm
      have pb : PE X (.BoolOp .And (r :: rest) pos) (tE X.K cl W (ev Δ gl b)) := by
        cases rest with
        | nil => exact pe_one qb.pe
        | cons _ _ => exact qb.pe
      have wb : tst b = true → PW X (.BoolOp .And (r :: rest) pos) (tT X.K cl W fun ρ h => (ev Δ gl b ρ h).bind asBl) := fun z => by
        cases rest with
        | nil => exact pw_and1 (qb.pt z)
        | cons _ _ => exact qb.pw z rfl
      have key : tst (.and a b) = true → PW X (.BoolOp .And (l :: r :: rest) pos) (tT X.K cl W fun ρ h => (ev Δ gl (.and a b) ρ h).bind asBl) := fun z => by
        simp only [tst, Bool.and_eq_true] at z
        exact sAndT (qa.pt z.1) (wb z.2)
      exact ⟨sAnd qa.pe pb, fun z => (key z).pt, fun z _ => key z⟩
    · cases h
  | .or a b, L, x, h, X, W, gd, hs, hf, hm => by
    simp only [ckE] at h
    split at h
    · rename_i l r rest pos
      simp only [Bool.and_eq_true] at h
      obtain ⟨h1, h2⟩ := h
      have qa := okE a L _ h1 X W gd hs hf hm
      have qb := okE b L _ h2 X W gd hs hf hm
      have pb : PE X (.BoolOp .Or (r :: rest) pos) (tE X.K cl W (ev Δ gl b)) := by
        cases rest with
        | nil => exact pe_one qb.pe
        | cons _ _ => exact qb.pe
      have wb : tst b = true → PW X (.BoolOp .Or (r :: rest) pos) (tT X.K cl W fun ρ h => (ev Δ gl b ρ h).bind asBl) := fun z => by
        cases rest with
        | nil => exact pw_or1 (qb.pt z)
        | cons _ _ => exact qb.pw z rfl
      have key : tst (.or a b) = true → PW X (.BoolOp .Or (l :: r :: rest) pos) (tT X.K cl W fun ρ h => (ev Δ gl (.or a b) ρ h).bind asBl) := fun z => by
        simp only [tst, Bool.and_eq_true] at z
        exact sOrT (qa.pt z.1) (wb z.2)
      exact ⟨sOr qa.pe pb, fun z => (key z).pt, fun z _ => key z⟩
    · cases h
  | .ife c a b, L, x, h, X, W, gd, hs, hf, hm => by
    simp only [ckE] at h
    split at h
    · simp only [Bool.and_eq_true] at h
      obtain ⟨⟨⟨h1, h2⟩, h3⟩, h4⟩ := h
      exact .n rfl (sIfe ((okE c L _ h2 X W gd hs hf hm).pt h1) (okE a L _ h3 X W gd hs hf hm).pe (okE b L _ h4 X W gd hs hf hm).pe)
    · cases h
  | .tup es, L, x, h, X, W, gd, hs, hf, hm => by
    simp only [ckE] at h
    split at h
    · exact .n rfl (sTup (okEs es L _ h X W gd hs hf hm))
    · cases h
  | .lst es, L, x, h, X, W, gd, hs, hf, hm => by
    simp only [ckE] at h
    split at h
    · exact .n rfl (sLst (okEs es L _ h X W gd hs hf hm))
    · cases h
  | .dic0, L, x, h, X, W, gd, hs, hf, hm => by
    simp only [ckE] at h
    split at h
    · exact .n rfl sDic
    · cases h
  | .idx a b, L, x, h, X, W, gd, hs, hf, hm => by
    simp only [ckE] at h
    split at h
    · simp only [Bool.and_eq_true] at h
      obtain ⟨⟨h1, h2⟩, h3⟩ := h
      exact .b rfl (sIdx h1 (okE a L _ h2 X W gd hs hf hm).pe (okE b L _ h3 X W gd hs hf hm).pe)
    · cases h
  | .slc a lo hi, L, x, h, X, W, gd, hs, hf, hm => by
    simp only [ckE] at h
    split at h
    · simp only [Bool.and_eq_true] at h
      obtain ⟨⟨h1, h2⟩, h3⟩ := h
      exact .b rfl (sSlc (okE a L _ h1 X W gd hs hf hm).pe (okO lo L _ h2 X W gd hs hf hm) (okO hi L _ h3 X W gd hs hf hm))
    · cases h
  | .call f es, L, x, h, X, W, gd, hs, hf, hm => by
    simp only [ckE] at h
    split at h
    · rename_i y p xs pos
      simp only [Bool.and_eq_true] at h
      obtain ⟨⟨⟨h1, h2⟩, h3⟩, h4⟩ := h
      split at h1
      · rename_i z np lv hz
        simp only [Bool.and_eq_true, decide_eq_true_eq] at h1
        obtain ⟨⟨e1, e2⟩, e3⟩ := h1
        subst e1
        obtain ⟨ps, ff, fd, _, c, _⟩ := gd.fns _ (Nat.le_refl _) _ _ _ _ hz e2 (nameOk_ne h3)
        obtain ⟨n1, n2, _⟩ := nameOk_ok h3
        have qs := okEs es L _ h4 X W gd hs hf hm
        have ql := ckEs_len es L _ h4
        refine .b rfl ?_
        cases xs with
        | nil =>
          cases es with
          | nil => exact sCall0 c gd.gua gd.room gd.tk (gloB_ok hs h2) n1
          | cons _ _ => exact absurd ql.1 (by simp [Es.len])
        | cons y ys => exact sCall c gd.gua gd.room gd.tk (gloB_ok hs h2) n1 ql.2 qs
      · cases h1
    · cases h
  | .callk f es ks vs, L, x, h, X, W, gd, hs, hf, hm => by
    simp only [ckE] at h
    split at h
    · rename_i y p xs kw pos
      simp only [Bool.and_eq_true] at h
      obtain ⟨⟨⟨⟨⟨h1, hk⟩, h2⟩, h3⟩, h4⟩, h5⟩ := h
      split at h1
      · rename_i z np lv hz
        simp only [Bool.and_eq_true, decide_eq_true_eq] at h1
        obtain ⟨e1, e2⟩ := h1
        subst e1
        obtain ⟨ps, ff, fd, _, c, hkw⟩ := gd.fns _ (Nat.le_refl _) _ _ _ _ hz e2 (nameOk_ne h3)
        obtain ⟨n1, n2, _⟩ := nameOk_ok h3
        rw [List.any_eq_true] at hk
        obtain ⟨⟨f', m, nm, idx⟩, hq, hk⟩ := hk
        simp only [Bool.and_eq_true, decide_eq_true_eq] at hk
        obtain ⟨⟨⟨⟨k1, k2⟩, k3⟩, k4⟩, k5⟩ := hk
        subst k1 k3
        have kw1 := hkw _ _ _ hq
        have k4 := of_decide_eq_true k4
        have ql := ckEs_len es L _ h4
        refine .b rfl (sCallk c kw1 gd.gua gd.room gd.tk (gloB_ok hs h2) n1 ql.2 k2.symm k4 k5 (fun z => ?_) (fun ρ h xs' h' q => by rw [evs_len _ _ _ _ _ q, ql.1]) (fun ρ h xs' h' q => by rw [evs_len _ _ _ _ _ q, ckKs_len _ _ _ h5]) (okEs es L _ h4 X W gd hs hf hm) (okKs vs L _ h5 X W gd hs hf hm))
        subst z
        cases es with
        | nil => rfl
        | cons _ _ => exact absurd ql.1 (by simp [Es.len])
      · cases h1
    · cases h
  | .blt b es, L, x, h, X, W, gd, hs, hf, hm => by
    simp only [ckE] at h
    split at h
    · rename_i y p l xs pos
      simp only [Bool.and_eq_true, decide_eq_true_eq] at h
      obtain ⟨⟨⟨h1, h2⟩, h3⟩, h4⟩ := h
      subst h1
      have ok : BfOk X.mg b := by
        cases b <;> first | exact gd.gcd h2 | (cases h2; done) | exact gd.blt _ (any_mem h2)
      exact .b rfl (sBlt gd.calm gd.gua (room65 gd.room) gd.sys ok (gloB_ok hs h3) (ckEs_len es L _ h4).2 (okEs es L _ h4 X W gd hs hf hm))
    · cases h
  | .isi a t, L, x, h, X, W, gd, hs, hf, hm => by
    simp only [ckE] at h
    split at h
    · simp only [Bool.and_eq_true, decide_eq_true_eq] at h
      obtain ⟨⟨⟨⟨⟨⟨⟨ht, h1⟩, h2⟩, h3⟩, h4⟩, h5⟩, h6⟩, h7⟩ := h
      subst h1
      cases t with
      | own k => cases ht
      | b m =>
        simp only [Bool.and_eq_true, decide_eq_true_eq] at ht
        obtain ⟨t1, t2⟩ := ht
        subst t2
        obtain ⟨b1, b2, b3⟩ := bootTy t1
        exact .b rfl (sIsi (gloB_ok hs h2) (gd.blt _ (any_mem h4)) (gloB_ok hs h3) (gd.blt _ (any_mem h5)) b1 b2 b3 h6 (okE a L _ h7 X W gd hs hf hm).pe)
    · cases h
  | .lc elt t it tt own, L, x, h, X, W, gd, hs, hf, hm => by
    simp only [ckE] at h
    split at h
    · rename_i y tg iter ifs scope pos
      simp only [Bool.and_eq_true] at h
      obtain ⟨⟨⟨⟨⟨⟨h1, h2⟩, h3⟩, h4⟩, h5⟩, h6⟩, h7⟩ := h
      have bk := blk_ok h1
      have ek : (relS scope X.env.scope) = (L.blk scope).sc := by rw [hs]; rfl
      have hv : ∀ j ∈ T.own t, j ∈ (ownN N own).map (·.2) := fun j hj => by
        rw [ownN_ix]
        rw [List.all_eq_true] at h3
        exact of_decide_eq_true (h3 j hj)
      refine .b rfl ?_
      have q := lcE (K := X.K) (cl := cl) (W := W) hv (pe_lc (pos := pos) gd.calm (by rw [gd.hN]; exact gd.nd) (okI it L _ _ h4 X W gd hs hf hm) (by rw [gd.hN, hs]; exact bk)
        (fun s H C cs fp => okT t _ _ h5 _ NoW (gd.blk s H scope (compEnvC scope cs C X.env) fp bk.kind) ek rfl (fun z => nomatch z))
        (fun s H C cs fp => okF tt _ _ h6 _ NoW (gd.blk s H scope (compEnvC scope cs C X.env) fp bk.kind) ek rfl (fun z => nomatch z))
        (fun s H C cs fp => (okE elt _ _ h7 _ NoW (gd.blk s H scope (compEnvC scope cs C X.env) fp bk.kind) ek rfl (fun z => nomatch z)).pe) fun x => fold_plain h2)
      rw [ownN_ix] at q
      exact q
    · cases h
  | .app l a, L, x, h, X, W, gd, hs, hf, hm => by
    simp only [ckE] at h
    split at h
    · simp only [Bool.and_eq_true, decide_eq_true_eq] at h
      obtain ⟨⟨⟨⟨⟨h1, h2⟩, h3⟩, h4⟩, h5⟩, h6⟩ := h
      subst h1
      exact .b rfl (sApp (base_plain h2) h3 h4 (okE l L _ h5 X W gd hs hf hm).pe (okE a L _ h6 X W gd hs hf hm).pe)
    · cases h
  | .rsl a lo, L, x, h, X, W, gd, hs, hf, hm => by
    simp only [ckE] at h
    split at h
    · simp only [Bool.and_eq_true] at h
      exact .n rfl (sRsl (okE a L _ h.1 X W gd hs hf hm).pe (okO lo L _ h.2 X W gd hs hf hm))
    · cases h
  | .told t e, L, x, h, X, W, gd, hs, hf, hm => by
    simp only [ckE] at h
    split at h
    · rename_i y p body scope lpos pos
      simp only [Bool.and_eq_true, decide_eq_true_eq] at h
      obtain ⟨⟨⟨⟨⟨⟨h1, h2⟩, h3⟩, h4⟩, h5⟩, h6⟩, h7⟩ := h
      rw [List.any_eq_true] at h3
      obtain ⟨⟨z, t'⟩, hq, h3⟩ := h3
      simp only [Bool.and_eq_true, decide_eq_true_eq] at h3
      obtain ⟨e1, e2⟩ := h3
      subst e1 e2
      obtain ⟨st, g, fd, Ng, a, F, mgf, bd, S, T⟩ := gd.td _ hq
      obtain ⟨k, hk⟩ : ∃ k, L.n = k + 2 := ⟨L.n - 2, by omega⟩
      have hr : Room (k + 2) X.A := hk ▸ gd.room
      have LS : LamX.LamS X.env.scope scope := LamX.lamS_by (by rw [hs]; exact h6)
      cases t' with
      | fnd _ _ => exact T.elim
      | rep k1 k2 s1 s2 =>
        refine .n rfl (sTold F mgf bd S T gd.sub gd.sys (hm h1) gd.gua hr (gloB_ok hs h4) (nameOk_ok h5).1 LS fun A outer s H E f c' hga hr2 => ?_)
        have ek : L.n - 2 = k := by omega
        exact (okE e (L.lm scope) _ h7 _ _ (gd.lam (k := L.n - 2) (Nat.sub_le _ _) LS A outer s H E f c' hga (by rw [ek]; exact hr2)) rfl rfl (fun z => nomatch z)).pe
    · cases h
  | .new k f es, L, x, h, X, W, gd, hs, hf, hm => by
    simp only [ckE] at h
    split at h
    · rename_i y p l xs pos
      simp only [Bool.and_eq_true] at h
      obtain ⟨⟨⟨⟨h1, h2⟩, h3⟩, h4⟩, h5⟩ := h
      split at h1
      · rename_i z np lv hz
        simp only [Bool.and_eq_true, decide_eq_true_eq] at h1
        obtain ⟨e1, e2⟩ := h1
        subst e1
        rw [List.any_eq_true] at h2
        obtain ⟨⟨f', k', y'⟩, hq, h2⟩ := h2
        simp only [Bool.and_eq_true, decide_eq_true_eq] at h2
        obtain ⟨⟨q1, q2⟩, q3⟩ := h2
        subst q1 q2 q3
        obtain ⟨j, hj⟩ : ∃ j, L.n = j + 1 := ⟨L.n - 1, by omega⟩
        have c := gd.mks j (by omega) _ hq np lv hz (by omega)
        exact .b rfl (sNew c gd.gua (hj ▸ gd.room) gd.tk (gloB_ok hs h3) (nameOk_ok h4).1 (ckEs_len es L _ h5).2 (okEs es L _ h5 X W gd hs hf hm))
      · cases h1
    · cases h
  | .bits a, L, x, h, X, W, gd, hs, hf, hm => by
    simp only [ckE] at h
    split at h
    · simp only [Bool.and_eq_true, decide_eq_true_eq] at h
      obtain ⟨⟨⟨h1, h2⟩, h3⟩, h4⟩ := h
      subst h1
      exact .b rfl (sBits (okE a L _ h4 X W gd hs hf hm).pe (base_plain h2) h3)
    · cases h
  | .att a f, L, x, h, X, W, gd, hs, hf, hm => by
    simp only [ckE] at h
    split at h
    · rename_i o m pos
      simp only [Bool.and_eq_true, decide_eq_true_eq] at h
      obtain ⟨⟨⟨h1, h2⟩, h3⟩, h4⟩ := h
      subst h1
      exact .b rfl (sAtt gd.ik (any_mem h3) (okE a L _ h4 X W gd hs hf hm).pe (base_plain h2))
    · cases h
  | .mth a k f m es, L, x, h, X, W, gd, hs, hf, hm => by
    simp only [ckE] at h
    split at h
    · rename_i o y apos xs pos
      simp only [Bool.and_eq_true, decide_eq_true_eq] at h
      obtain ⟨⟨⟨⟨⟨⟨⟨h1, h2⟩, h3⟩, h4⟩, h5⟩, h6⟩, h7⟩, h8⟩ := h
      subst h1
      split at h5
      · rename_i z np lv hz
        simp only [Bool.and_eq_true, decide_eq_true_eq] at h5
        obtain ⟨e1, e2⟩ := h5
        subst e1
        rw [List.any_eq_true] at h6
        obtain ⟨⟨f', k', y'⟩, hq, h6⟩ := h6
        simp only [Bool.and_eq_true, decide_eq_true_eq] at h6
        obtain ⟨⟨q1, q2⟩, q3⟩ := h6
        subst q1 q2 q3
        have c := gd.mts L.n (Nat.le_refl _) _ hq np lv hz e2
        have ql := ckEs_len es L _ h8
        refine .b rfl (sMth gd.ik c gd.gua gd.room gd.tk (base_plain h2) ql.2 h4 h3 (okE a L _ h7 X W gd hs hf hm).pe (okEs es L _ h8 X W gd hs hf hm) fun e => ?_)
        subst e
        cases es with
        | nil => rfl
        | cons _ _ => exact absurd ql.1 (by simp [Es.len])
      · cases h5
    · cases h
theorem okEs : ∀ (es : Es) (L : Lx) (xs : List Expr), ckEs G N n es L xs = true → ∀ (X : Cx) (W : WX), Gd X cl W G N L.n Δ gl → X.env.scope = L.sc → X.fn = L.fn → (L.lam = true → LamOk X cl) → PA X xs (tA X.K cl W (evs Δ gl es))
  | .nil, L, x, h, X, W, gd, hs, hf, hm => by
    simp only [ckEs] at h
    split at h
    · exact sNil
    · cases h
  | .cons e es, L, x, h, X, W, gd, hs, hf, hm => by
    simp only [ckEs] at h
    split at h
    · simp only [Bool.and_eq_true] at h
      exact sCons h.1.1 (okE e L _ h.1.2 X W gd hs hf hm).pe (okEs es L _ h.2 X W gd hs hf hm)
    · cases h
theorem okKs : ∀ (es : Es) (L : Lx) (xs : List Keyword), ckKs G N n es L xs = true → ∀ (X : Cx) (W : WX), Gd X cl W G N L.n Δ gl → X.env.scope = L.sc → X.fn = L.fn → (L.lam = true → LamOk X cl) → PK X xs (tA X.K cl W (evs Δ gl es))
  | .nil, L, x, h, X, W, gd, hs, hf, hm => by
    simp only [ckKs] at h
    split at h
    · exact sKNil
    · cases h
  | .cons e es, L, x, h, X, W, gd, hs, hf, hm => by
    simp only [ckKs] at h
    split at h
    · simp only [Bool.and_eq_true] at h
      exact sKCons (okE e L _ h.1 X W gd hs hf hm).pe (okKs es L _ h.2 X W gd hs hf hm)
    · cases h
theorem okO : ∀ (o : Op) (L : Lx) (x : Option Expr), ckO G N n o L x = true → ∀ (X : Cx) (W : WX), Gd X cl W G N L.n Δ gl → X.env.scope = L.sc → X.fn = L.fn → (L.lam = true → LamOk X cl) → PO X x (tO X.K cl W (evo Δ gl o))
  | .no, L, x, h, X, W, gd, hs, hf, hm => by
    simp only [ckO] at h
    split at h
    · exact sNo
    · cases h
  | .so e, L, x, h, X, W, gd, hs, hf, hm => by
    simp only [ckO] at h
    split at h
    · exact sSo (okE e L _ h X W gd hs hf hm).pe
    · cases h
theorem okF : ∀ (o : Op) (L : Lx) (x : List Expr), ckF G N n o L x = true → ∀ (X : Cx) (W : WX), Gd X cl W G N L.n Δ gl → X.env.scope = L.sc → X.fn = L.fn → (L.lam = true → LamOk X cl) → PTs X x (tT X.K cl W (evt Δ gl o))
  | .no, L, x, h, X, W, gd, hs, hf, hm => by
    simp only [ckF] at h
    split at h
    · exact tsNo
    · cases h
  | .so e, L, x, h, X, W, gd, hs, hf, hm => by
    simp only [ckF] at h
    split at h
    · simp only [Bool.and_eq_true] at h
      exact tsSo ((okE e L _ h.2 X W gd hs hf hm).pt h.1)
    · cases h
theorem okI : ∀ (it : It) (L : Lx) (tg x : Expr), ckI G N n it L tg x = true → ∀ (X : Cx) (W : WX), Gd X cl W G N L.n Δ gl → X.env.scope = L.sc → X.fn = L.fn → (L.lam = true → LamOk X cl) → PI X tg x (tI X.K cl W (evi Δ gl it))
  | .pln e, L, tg, x, h, X, W, gd, hs, hf, hm => by
    simp only [ckI] at h
    exact sPln (okE e L _ h X W gd hs hf hm).pe
  | .rng es, L, tg, x, h, X, W, gd, hs, hf, hm => by
    simp only [ckI] at h
    split at h
    · simp only [Bool.and_eq_true, decide_eq_true_eq] at h
      obtain ⟨⟨⟨h1, h2⟩, h3⟩, h4⟩ := h
      subst h1
      exact sRng (gloB_ok hs h2) (gd.blt _ (any_mem h3)) (ckEs_len es L _ h4).2 (okEs es L _ h4 X W gd hs hf hm)
    · cases h
  | .enm e, L, tg, x, h, X, W, gd, hs, hf, hm => by
    simp only [ckI] at h
    split at h
    · simp only [Bool.and_eq_true, decide_eq_true_eq] at h
      obtain ⟨⟨⟨⟨h1, h2⟩, h3⟩, h4⟩, h5⟩ := h
      subst h1
      exact sEnm (gloB_ok hs h2) (gd.blt _ (any_mem h3)) h4 (okE e L _ h5 X W gd hs hf hm).pe
    · cases h
  | .zip a b, L, tg, x, h, X, W, gd, hs, hf, hm => by
    simp only [ckI] at h
    split at h
    · simp only [Bool.and_eq_true, decide_eq_true_eq] at h
      obtain ⟨⟨⟨⟨⟨⟨h1, h2⟩, h3⟩, h4⟩, h5⟩, h6⟩, h7⟩ := h
      subst h1
      exact sZip (gloB_ok hs h2) (gd.blt _ (any_mem h3)) h4 h5 (okE a L _ h6 X W gd hs hf hm).pe (okE b L _ h7 X W gd hs hf hm).pe
    · cases h
  | .rev e, L, tg, x, h, X, W, gd, hs, hf, hm => by
    simp only [ckI] at h
    split at h
    · simp only [Bool.and_eq_true, decide_eq_true_eq] at h
      obtain ⟨⟨⟨⟨h1, h2⟩, h3⟩, h4⟩, h5⟩ := h
      subst h1
      exact sRev (gloB_ok hs h2) (gd.blt _ (any_mem h3)) h4 (okE e L _ h5 X W gd hs hf hm).pe
    · cases h
  | .rrng es, L, tg, x, h, X, W, gd, hs, hf, hm => by
    simp only [ckI] at h
    split at h
    · simp only [Bool.and_eq_true, decide_eq_true_eq] at h
      obtain ⟨⟨⟨⟨⟨⟨h1, h2⟩, h3⟩, h4⟩, h5⟩, h6⟩, h7⟩ := h
      subst h1 h2
      exact sRrng (gloB_ok hs h3) (gd.blt _ (any_mem h5)) (gloB_ok hs h4) (gd.blt _ (any_mem h6)) (ckEs_len es L _ h7).2 (okEs es L _ h7 X W gd hs hf hm)
    · cases h
theorem okT : ∀ (t : T) (L : Lx) (x : Expr), ckT G N n t L x = true → ∀ (X : Cx) (W : WX), Gd X cl W G N L.n Δ gl → X.env.scope = L.sc → X.fn = L.fn → (L.lam = true → LamOk X cl) → PG X x (tG X.K cl (T.own t) (asn Δ gl t))
  | .nm i, L, x, h, X, W, gd, hs, hf, hm => by
    simp only [ckT] at h
    split at h
    · simp only [Bool.and_eq_true, decide_eq_true_eq, Bool.or_eq_true] at h
      obtain ⟨⟨h1, h2⟩, h3⟩ := h
      exact gNm (by rw [gd.hN]; exact gd.nd) (by rw [gd.hN]; exact h1) (by rw [hs]; exact locB_ok h2) (by rw [hs, hf]; exact h3)
    · cases h
  | .tup ts, L, x, h, X, W, gd, hs, hf, hm => by
    simp only [ckT] at h
    split at h
    · have hl := ckTs_len ts L _ X.env h
      exact gTp gd.calm (okTs ts L _ h X W gd hs hf hm) hl.1 hl.2 fun xs ρ h ρ' h' e => asns_len ts _ _ _ _ _ e
    · cases h
  | .sub a i, L, x, h, X, W, gd, hs, hf, hm => by
    simp only [ckT] at h
    split at h
    · simp only [Bool.and_eq_true] at h
      obtain ⟨⟨h1, h2⟩, h3⟩ := h
      refine gSb (W := W) (fun v => ?_) (okE a L _ h2 X W gd hs hf hm).pe (okE i L _ h3 X W gd hs hf hm).pe
      rename_i l r p
      cases r <;> first | rfl | (simp [plainX] at h1)
    · cases h
theorem okTs : ∀ (ts : Ts) (L : Lx) (xs : List Expr), ckTs G N n ts L xs = true → ∀ (X : Cx) (W : WX), Gd X cl W G N L.n Δ gl → X.env.scope = L.sc → X.fn = L.fn → (L.lam = true → LamOk X cl) → PGs X xs (tGs X.K cl (T.own.Ts.own ts) (asns Δ gl ts))
  | .nil, L, x, h, X, W, gd, hs, hf, hm => by
    simp only [ckTs] at h
    split at h
    · exact gsNil
    · cases h
  | .cons t ts, L, x, h, X, W, gd, hs, hf, hm => by
    simp only [ckTs] at h
    split at h
    · simp only [Bool.and_eq_true] at h
      refine gsCons (okT t L _ h.1 X W gd hs hf hm) (okTs ts L _ h.2 X W gd hs hf hm) ?_
      rw [ckT_star _ _ _ _ X.env h.1]
      rfl
    · cases h
end
end
end HS

/-! The check is good: statements. -/
namespace HS
open PySem L2 PyProof.Rows

/-- a comprehension that is stored with its own step -/
def swB (sc : Scope) (y : Str) (py : Pos) (scope : Scope) (pos : Pos) : Bool := decide (sc.names.lookup y = some .local) && (py.line == pos.line) && !(scope.names.any fun p => p.1 == y && (p.2 == .local || p.2 == .cell))
theorem sw_eq {elt : Expr} {gs : List Comprehension} {scope : Scope} {pos py : Pos} {y : Str} {l : Nat} {env : Env} (hk : env.scope.kind = .function) : swapsWith (.ListComp elt gs scope pos) (some (.Name y py)) l env = pure (swB env.scope y py scope pos) := by
  have hb : env.blockKind = .function := by unfold Env.blockKind; rw [hk]; rfl
  unfold swapsWith swB
  simp only [hb, Expr.pos, Env.kindOf]
  have e : (env.scope.names.lookup y == some NameKind.local) = decide (env.scope.names.lookup y = some NameKind.local) := by
    by_cases h : env.scope.names.lookup y = some NameKind.local
    · simp [h]
    · simp [h]
  rw [e]
  rfl
def isStar : Expr → Bool
  | .Starred .. => true
  | _ => false
/-- a name that may be stored so -/
def stN (sc : Scope) (ln : Nat) : Expr → Option Str
  | .Name id pos => if (sc.names.lookup id == some NameKind.local && pos.line == ln) = true then some id else none
  | _ => none
/-- the stores of a, b = x, y -/
def swp (sc : Scope) (ts vs : List Expr) : Option (Option (List Str)) :=
  if (!(ts.length == 2 || ts.length == 3) || vs.length != ts.length) = true then some none
  else if (vs.any isStar) = true then some none
  else
    let nm := ts.filterMap (stN sc ((ts.head?.map (·.pos.line)).getD 0))
    if (nm.length != ts.length || nm.eraseDups.length != nm.length) = true then some none
    else if (vs.all (foldedForSure 8)) = true then some none
    else if (vs.all (constantsAlone 8)) = true then none
    else some (some nm)
theorem swp_ok {ts vs : List Expr} {k k2 : Nat} {p p2 : Pos} {env : Env} {r : Option (List Str)} (hk : env.scope.kind = .function) (h : swp env.scope ts vs = some r) : swappedStores [.Tuple ts k p] (.Tuple vs k2 p2) env = pure r := by
  have hb : env.blockKind = .function := by unfold Env.blockKind; rw [hk]; rfl
  have hb2 : (env.blockKind != ScopeKind.function) = false := by rw [hb]; rfl
  unfold swp at h
  have key : swappedStores [.Tuple ts k p] (.Tuple vs k2 p2) env = (if (!(ts.length == 2 || ts.length == 3) || vs.length != ts.length || env.blockKind != .function) = true then pure none
    else if (vs.any isStar) = true then pure none
    else
      let nm := ts.filterMap (stN env.scope ((ts.head?.map (·.pos.line)).getD 0))
      if (nm.length != ts.length || nm.eraseDups.length != nm.length) = true then pure none
      else if (vs.all (foldedForSure 8)) = true then pure none
      else if (vs.all (constantsAlone 8)) = true then (do unsupported "assign.tuple-of-constant-expressions:order-of-the-stores"; pure (some nm))
      else pure (some nm)) := rfl
  rw [key]
  simp only [hb2, Bool.or_false]
  dsimp only at h
  generalize (ts.filterMap (stN env.scope ((ts.head?.map (·.pos.line)).getD 0))) = nm at h ⊢
  split at h
  · rename_i c
    cases h
    simp only [c]
    rfl
  · rename_i c
    have c := Bool.eq_false_iff.mpr c
    simp only [c]
    split at h
    · rename_i c2
      cases h
      simp only [c2]
      rfl
    · rename_i c2
      have c2 := Bool.eq_false_iff.mpr c2
      simp only [c2]
      split at h
      · rename_i c3
        cases h
        simp only [c3]
        rfl
      · rename_i c3
        have c3 := Bool.eq_false_iff.mpr c3
        simp only [c3]
        split at h
        · rename_i c4
          cases h
          simp only [c4]
          rfl
        · rename_i c4
          have c4 := Bool.eq_false_iff.mpr c4
          simp only [c4]
          split at h
          · cases h
          · rename_i c5
            have c5 := Bool.eq_false_iff.mpr c5
            cases h
            simp only [c5]
            rfl
def isTup : Expr → Bool
  | .Tuple .. => true
  | _ => false
def isLst : Expr → Bool
  | .List .. => true
  | _ => false
theorem sst_none {tg x : Expr} {env : Env} (h : isTup tg = false ∨ isTup x = false) (h2 : isLst tg = false) : swappedStores [tg] x env = pure none := by
  cases tg <;> first
    | rfl
    | (simp [isLst] at h2; done)
    | (cases x <;> first | rfl | (simp [isTup] at h; done))
end HS

/-! The check is good: statements, the proof. -/
namespace HS
open PySem L2 PyProof.Rows
def isLc : Expr → Bool
  | .ListComp .. => true
  | _ => false
/-- how target = value stores: 0 plainly, 1 a comprehension with its own step, 2 and 3 several names from the right, 9 not known -/
def mode (sc : Scope) (tg v : Expr) : Nat :=
  match v, tg with
  | .ListComp _ _ scope pos, .Name y py => if swB sc y py scope pos = true then 1 else 0
  | .Tuple vs _ _, .Tuple ts _ _ => match swp sc ts vs with
    | some none => 0
    | some (some nm) => match ts with
      | [.Name x _, .Name y _] => if nm = [x, y] then 2 else 9
      | [.Name x _, .Name y _, .Name z _] => if nm = [x, y, z] then 3 else 9
      | _ => 9
    | none => 9
  | _, .List _ _ => 9
  | v, _ => if (plainX v) = true then 0 else 9
def nms : T → List Nat
  | .tup (.cons (.nm i) (.cons (.nm j) .nil)) => [i, j]
  | .tup (.cons (.nm i) (.cons (.nm j) (.cons (.nm l) .nil))) => [i, j, l]
  | _ => []
def isNm : T → Bool
  | .nm _ => true
  | _ => false
def esLen : E → Nat
  | .tup es => es.len
  | _ => 0
def isLcE : E → Bool
  | .lc _ _ _ _ _ => true
  | _ => false
def allLoc (sc : Scope) (N : List Str) (is : List Nat) : Bool := is.all fun i => match N[i]? with
  | some x => decide (sc.names.lookup x = some .local)
  | none => false
mutual
def ckS (G : Gt) (N : List Str) (n : Nat) : S → Lx → Stmt → Bool
  | .asg t e, L, x => match x with
    | .Assign [tg] v _ => ckE G N n e L v && ckT G N n t L tg && (match mode L.sc tg v with
      | 0 => true
      | 1 => isNm t && isLcE e
      | 2 => decide ((nms t).length = 2) && decide ((nms t).Nodup) && allLoc L.sc N (nms t) && decide (esLen e = 2)
      | 3 => decide ((nms t).length = 3) && decide ((nms t).Nodup) && allLoc L.sc N (nms t) && decide (esLen e = 3)
      | _ => false)
    | _ => false
  | .exp e, L, x => match x with
    | .Expr v _ => plainV v && ckE G N n e L v
    | _ => false
  | .ret e, L, x => match x with
    | .Return (some v) _ => ckE G N n e L v
    | _ => false
  | .retn, L, x => match x with
    | .Return none _ => true
    | _ => false
  | .ife c a b, L, x => match x with
    | .If t p q _ => tst c && ckE G N n c L t && ckSs G N n a L p && ckSs G N n b L q
    | _ => false
  | .whl c b, L, x => match x with
    | .While t p [] _ => tst c && ckE G N n c L t && ckSs G N n b L p
    | _ => false
  | .fr t it b, L, x => match x with
    | .For tg iter p [] _ => plainX iter && ckI G N n it L tg iter && ckT G N n t L tg && ckSs G N n b L p
    | _ => false
  | .brk, L, x => match x with
    | .Break _ => true
    | _ => false
  | .cnt, L, x => match x with
    | .Continue _ => true
    | _ => false
  | .pas, L, x => match x with
    | .Pass _ => true
    | .Expr (.Constant (.str _) _ _) _ => true
    | _ => false
  | .never, L, x => true
  | .rse k, L, x => match x with
    | .Raise (some (.Call (.Name y _) [] [] _)) none _ => G.cls.any (fun q => decide (q.1 = k) && decide (q.2 = y)) && G.raz.any (fun j => decide (j = k)) && gloB L.sc y && nameOk y
    | _ => false
  | .sat o f e, L, x => match x with
    | .Assign [.Attribute oe m _] v _ => decide (m = f) && G.ats.any (fun w => decide (w = f)) && plainV v && ckE G N n o L oe && ckE G N n e L v
    | _ => false
def ckSs (G : Gt) (N : List Str) (n : Nat) : Ss → Lx → List Stmt → Bool
  | .nil, L, xs => match xs with
    | [] => true
    | _ => false
  | .cons e es, L, xs => match xs with
    | x :: xs => ckS G N n e L x && ckSs G N n es L xs
    | [] => false
end
theorem allLoc_ok {sc : Scope} {N : List Str} {is : List Nat} {i : Nat} {x : Str} (h : allLoc sc N is = true) (hi : i ∈ is) (hx : N[i]? = some x) : sc.names.lookup x = some .local := by
  unfold allLoc at h
  rw [List.all_eq_true] at h
  have q := h i hi
  rw [hx] at q
  exact of_decide_eq_true q
section
variable {G : Gt} {N : List Str} {n : Nat} {cl : Md} {Δ : Nat → Fn} {gl : Nat → D}
theorem mode0 {sc : Scope} {tg v : Expr} {l : Nat} {env : Env} (hk : env.scope.kind = .function) (hs : env.scope = sc) (h : mode sc tg v = 0) : swapsWithSole [tg] v l env = pure false ∧ swappedStores [tg] v env = pure none := by
  subst hs
  show swapsWith v (some tg) l env = pure false ∧ _
  unfold mode at h
  split at h
  · split at h
    · cases h
    · rename_i q
      refine ⟨?_, sst_none (.inl rfl) rfl⟩
      rw [sw_eq hk, Bool.eq_false_iff.mpr q]
  · split at h
    · rename_i q
      exact ⟨rfl, swp_ok hk q⟩
    · split at h
      · split at h <;> cases h
      · split at h <;> cases h
      · cases h
    · cases h
  · cases h
  · rename_i h1 h2 h3
    split at h
    · rename_i hp
      have k1 : ∀ a b c d e f, v = .ListComp a b c d → tg = .Name e f → False := by
        intros
        subst_vars
        first | exact h2 _ _ _ _ _ _ rfl rfl | exact h1 _ _ _ _ _ _ rfl rfl | exact h3 _ _ _ _ _ _ rfl rfl | exact h2 _ _ _ _ rfl _ _ rfl
      have k2 : ∀ a b c d e f, v = .Tuple a b c → tg = .Tuple d e f → False := by
        intros
        subst_vars
        first | exact h3 _ _ _ _ _ _ rfl rfl | exact h1 _ _ _ _ _ _ rfl rfl | exact h2 _ _ _ _ _ _ rfl rfl | exact h3 _ _ _ rfl _ _ _ rfl
      have k3 : ∀ a b, tg = .List a b → False := by
        intros
        subst_vars
        first | exact h1 _ _ rfl | exact h2 _ _ rfl | exact h3 _ _ rfl | (simp at h; done)
      have ht : isTup tg = false ∨ isTup v = false := by
        cases v <;> first | exact .inr rfl | skip
        cases tg <;> first | exact .inl rfl | skip
        exact (k2 _ _ _ _ _ _ rfl rfl).elim
      have hl : isLst tg = false := by
        cases tg <;> first | rfl | skip
        exact (k3 _ _ rfl).elim
      refine ⟨?_, sst_none ht hl⟩
      by_cases hv : plainV v = true
      · exact swap_plain hv
      · cases v <;> first | (simp [plainX] at hp; done) | (simp [plainV] at hv; done) | skip
        cases tg <;> first | rfl | skip
        exact (k1 _ _ _ _ _ _ rfl rfl).elim
    · cases h
theorem asn_two {i j : Nat} : ∀ xs ρ h, asn Δ gl (.tup (.cons (.nm i) (.cons (.nm j) .nil))) (.tup xs) ρ h = match xs with | [a, b] => .ok ((ρ.set i (some a)).set j (some b)) h | _ => .bad := by
  intro xs ρ h
  match xs with
  | [] => simp [asn, asns]
  | [_] => simp [asn, asns]
  | [_, _] => simp [asn, asns]
  | _ :: _ :: _ :: _ => simp [asn, asns]
theorem asn_three {i j l : Nat} : ∀ xs ρ h, asn Δ gl (.tup (.cons (.nm i) (.cons (.nm j) (.cons (.nm l) .nil)))) (.tup xs) ρ h = match xs with | [a, b, c] => .ok (((ρ.set i (some a)).set j (some b)).set l (some c)) h | _ => .bad := by
  intro xs ρ h
  match xs with
  | [] => simp [asn, asns]
  | [_] => simp [asn, asns]
  | [_, _] => simp [asn, asns]
  | [_, _, _] => simp [asn, asns]
  | _ :: _ :: _ :: _ :: _ => simp [asn, asns]
theorem okAsg (t : T) (e : E) (L : Lx) (tg v : Expr) (pos : Pos) (h : ckS G N n (.asg t e) L (.Assign [tg] v pos) = true) (X : Cx) (W : WX) (gd : Gd X cl W G N L.n Δ gl) (hs : X.env.scope = L.sc) (hf : X.fn = L.fn) (hmm : L.lam = true → LamOk X cl) : PS X (.Assign [tg] v pos) (tS X.K cl W (ex Δ gl (.asg t e))) := by
  simp only [ckS, Bool.and_eq_true] at h
  obtain ⟨⟨h1, h2⟩, h3⟩ := h
  have qe := okE e L v h1 X W gd hs hf hmm
  have qt := okT t L tg h2 X W gd hs hf hmm
  have hN : X.N.Nodup := by rw [gd.hN]; exact gd.nd
  have st : (assignEach [tg] X.env).map (·.2) = [assign tg X.env] := by
    rw [ckT_star t L tg [] X.env h2]; rfl
  split at h3
  · rename_i hm
    obtain ⟨m1, m2⟩ := mode0 (l := pos.line) gd.kind hs hm
    exact sAsg qe.pe qt m1 m2 st
  · rename_i hm
    simp only [Bool.and_eq_true] at h3
    cases t with
    | tup _ => cases h3.1
    | sub _ _ => cases h3.1
    | nm i =>
      cases e <;> first | (cases h3.2; done) | skip
      rename_i elt t2 it tt own
      simp only [ckT] at h2
      split at h2
      · rename_i y py
        simp only [Bool.and_eq_true, decide_eq_true_eq, Bool.or_eq_true] at h2
        obtain ⟨⟨t1, t2'⟩, t3⟩ := h2
        unfold mode at hm
        split at hm
        · rename_i y2 gs scope pos2 z pz ez
          cases ez
          split at hm
          · rename_i hsw
            have hsw0 := hsw
            unfold swB at hsw
            simp only [Bool.and_eq_true, decide_eq_true_eq] at hsw
            obtain ⟨⟨w1, w2⟩, w3⟩ := hsw
            simp only [ckE] at h1
            split at h1
            · rename_i y tg iter ifs scope' pos3 ee
              cases ee
              simp only [Bool.and_eq_true] at h1
              obtain ⟨⟨⟨⟨⟨⟨h1, h2⟩, h3⟩, h4⟩, h5⟩, h6⟩, h7⟩ := h1
              have bk := blk_ok h1
              have ek : (relS scope X.env.scope) = (L.blk scope).sc := by rw [hs]; rfl
              have hv : ∀ j ∈ T.own t2, j ∈ (ownN N own).map (·.2) := fun j hj => by
                rw [ownN_ix]
                rw [List.all_eq_true] at h3
                exact of_decide_eq_true (h3 j hj)
              have q := sSetLc (cl := cl) (W := W) (i := i) hv (ps_setLc (spos := pos) gd.calm hN (by rw [gd.hN]; exact t1) (by rw [hs]; exact w1) (by rw [sw_eq gd.kind, hs, hsw0]) (okI it L _ _ h4 X W gd hs hf hmm) (by rw [gd.hN, hs]; exact bk)
                (fun s H C cs fp => okT t2 _ _ h5 _ NoW (gd.blk s H scope (compEnvC scope cs C X.env) fp bk.kind) ek rfl (fun z => nomatch z))
                (fun s H C cs fp => okF tt _ _ h6 _ NoW (gd.blk s H scope (compEnvC scope cs C X.env) fp bk.kind) ek rfl (fun z => nomatch z))
                (fun s H C cs fp => (okE elt _ _ h7 _ NoW (gd.blk s H scope (compEnvC scope cs C X.env) fp bk.kind) ek rfl (fun z => nomatch z)).pe) fun x => fold_plain h2)
              rw [ownN_ix] at q
              exact q
            · cases h1
          · cases hm
        all_goals first | (cases hm; done) | (split at hm <;> first | (cases hm; done) | (split at hm <;> first | (cases hm; done) | (split at hm <;> cases hm)))
      · cases h2
  · rename_i hm
    simp only [Bool.and_eq_true, decide_eq_true_eq] at h3
    obtain ⟨⟨⟨g1, g2⟩, g3⟩, g4⟩ := h3
    unfold mode at hm
    split at hm
    · split at hm <;> cases hm
    · rename_i vs k1 p1 ts k2 p2
      split at hm
      · cases hm
      · rename_i nm hw
        split at hm
        · rename_i x px y py
          split at hm
          · rename_i en
            subst en
            have hw := swp_ok (k := k2) (k2 := k1) (p := p2) (p2 := p1) gd.kind (by rw [hs]; exact hw)
            unfold nms at g1 g2 g3
            split at g1
            · rename_i i j
              simp only [ckT, ckTs, Bool.and_eq_true, decide_eq_true_eq] at h2
              obtain ⟨⟨⟨a1, _⟩, _⟩, ⟨⟨b1, _⟩, _⟩, _⟩ := h2
              cases e <;> first | (cases g4; done) | skip
              rename_i es
              simp only [ckE] at h1
              have hl := ckEs_len es L vs h1
              have g4 : vs.length = 2 := by rw [hl.1]; exact g4
              match vs, g4 with
              | [va, vb], _ =>
                refine wkS (ps_par gd.calm hN (by rw [gd.hN]; exact a1) (by rw [gd.hN]; exact b1) (by simpa using g2) (by rw [hs]; exact allLoc_ok g3 (by simp) a1) (by rw [hs]; exact allLoc_ok g3 (by simp) b1) (okEs es L _ h1 X W gd hs hf hmm) hw) fun D σ H z => parR (mt := asn Δ gl (.tup (.cons (.nm i) (.cons (.nm j) .nil)))) asn_two z
            · cases g1
            · cases g1
          · cases hm
        · split at hm <;> cases hm
        · cases hm
      · cases hm
    · cases hm
    · split at hm <;> cases hm
  · rename_i hm
    simp only [Bool.and_eq_true, decide_eq_true_eq] at h3
    obtain ⟨⟨⟨g1, g2⟩, g3⟩, g4⟩ := h3
    unfold mode at hm
    split at hm
    · split at hm <;> cases hm
    · rename_i vs k1 p1 ts k2 p2
      split at hm
      · cases hm
      · rename_i nm hw
        split at hm
        · split at hm <;> cases hm
        · rename_i x px y py z pz
          split at hm
          · rename_i en
            subst en
            have hw := swp_ok (k := k2) (k2 := k1) (p := p2) (p2 := p1) gd.kind (by rw [hs]; exact hw)
            unfold nms at g1 g2 g3
            split at g1
            · cases g1
            · rename_i i j l
              simp only [ckT, ckTs, Bool.and_eq_true, decide_eq_true_eq] at h2
              obtain ⟨⟨⟨a1, _⟩, _⟩, ⟨⟨b1, _⟩, _⟩, ⟨⟨c1, _⟩, _⟩, _⟩ := h2
              cases e <;> first | (cases g4; done) | skip
              rename_i es
              simp only [ckE] at h1
              have hl := ckEs_len es L vs h1
              have g4 : vs.length = 3 := by rw [hl.1]; exact g4
              match vs, g4 with
              | [va, vb, vc], _ =>
                simp only [List.nodup_cons, List.mem_cons, List.not_mem_nil, or_false, not_or] at g2
                refine wkS (ps_par3 gd.calm hN (by rw [gd.hN]; exact a1) (by rw [gd.hN]; exact b1) (by rw [gd.hN]; exact c1) g2.1.1 g2.1.2 g2.2.1 (by rw [hs]; exact allLoc_ok g3 (by simp) a1) (by rw [hs]; exact allLoc_ok g3 (by simp) b1) (by rw [hs]; exact allLoc_ok g3 (by simp) c1) (okEs es L _ h1 X W gd hs hf hmm) hw) fun D σ H z => par3R (mt := asn Δ gl (.tup (.cons (.nm i) (.cons (.nm j) (.cons (.nm l) .nil))))) asn_three z
            · cases g1
          · cases hm
        · cases hm
      · cases hm
    · cases hm
    · split at hm <;> cases hm
  · cases h3
mutual
theorem okS : ∀ (s : S) (L : Lx) (x : Stmt), ckS G N n s L x = true → ∀ (X : Cx) (W : WX), Gd X cl W G N L.n Δ gl → X.env.scope = L.sc → X.fn = L.fn → (L.lam = true → LamOk X cl) → PS X x (tS X.K cl W (ex Δ gl s))
  | .asg t e, L, x, h, X, W, gd, hs, hf, hm => by
    have h0 := h
    simp only [ckS] at h
    split at h
    · exact okAsg t e L _ _ _ h0 X W gd hs hf hm
    · cases h
  | .exp e, L, x, h, X, W, gd, hs, hf, hm => by
    simp only [ckS] at h
    split at h
    · simp only [Bool.and_eq_true] at h
      exact sExp (swap_plain h.1) (okE e L _ h.2 X W gd hs hf hm).pe
    · cases h
  | .ret e, L, x, h, X, W, gd, hs, hf, hm => by
    simp only [ckS] at h
    split at h
    · exact sRet (okE e L _ h X W gd hs hf hm).pe
    · cases h
  | .retn, L, x, h, X, W, gd, hs, hf, hm => by
    simp only [ckS] at h
    split at h
    · exact sRetN
    · cases h
  | .ife c a b, L, x, h, X, W, gd, hs, hf, hm => by
    simp only [ckS] at h
    split at h
    · simp only [Bool.and_eq_true] at h
      obtain ⟨⟨⟨h1, h2⟩, h3⟩, h4⟩ := h
      exact sIf ((okE c L _ h2 X W gd hs hf hm).pt h1) (okSs a L _ h3 X W gd hs hf hm) (okSs b L _ h4 X W gd hs hf hm)
    · cases h
  | .whl c b, L, x, h, X, W, gd, hs, hf, hm => by
    simp only [ckS] at h
    split at h
    · simp only [Bool.and_eq_true] at h
      obtain ⟨⟨h1, h2⟩, h3⟩ := h
      exact sWhl gd.pas ((okE c L _ h2 X W gd hs hf hm).pt h1) (okSs b L _ h3 X W gd hs hf hm)
    · cases h
  | .fr t it b, L, x, h, X, W, gd, hs, hf, hm => by
    simp only [ckS] at h
    split at h
    · simp only [Bool.and_eq_true] at h
      obtain ⟨⟨⟨h1, h2⟩, h3⟩, h4⟩ := h
      exact sFor gd.pas gd.calm (okI it L _ _ h2 X W gd hs hf hm) (okT t L _ h3 X W gd hs hf hm) (okSs b L _ h4 X W gd hs hf hm) h1
    · cases h
  | .brk, L, x, h, X, W, gd, hs, hf, hm => by
    simp only [ckS] at h
    split at h
    · exact sBrk
    · cases h
  | .cnt, L, x, h, X, W, gd, hs, hf, hm => by
    simp only [ckS] at h
    split at h
    · exact sCnt
    · cases h
  | .pas, L, x, h, X, W, gd, hs, hf, hm => by
    simp only [ckS] at h
    split at h
    · exact sPas
    · exact sDoc
    · cases h
  | .never, L, x, h, X, W, gd, hs, hf, hm => sNev
  | .rse k, L, x, h, X, W, gd, hs, hf, hm => by
    simp only [ckS] at h
    split at h
    · simp only [Bool.and_eq_true] at h
      obtain ⟨⟨⟨h1, h2⟩, h3⟩, h4⟩ := h
      rw [List.any_eq_true] at h1 h2
      obtain ⟨⟨k', z⟩, hq, h1⟩ := h1
      obtain ⟨j, hj, h2⟩ := h2
      simp only [Bool.and_eq_true, decide_eq_true_eq] at h1 h2
      obtain ⟨e1, e2⟩ := h1
      subst e1 e2 h2
      exact sRse gd.calm gd.tk (gd.cls _ hq) (gd.raz _ hj) (gloB_ok hs h3) (nameOk_ok h4).1
    · cases h
  | .sat o f e, L, x, h, X, W, gd, hs, hf, hm => by
    simp only [ckS] at h
    split at h
    · simp only [Bool.and_eq_true, decide_eq_true_eq] at h
      obtain ⟨⟨⟨⟨h1, h2⟩, h3⟩, h4⟩, h5⟩ := h
      subst h1
      exact sSat gd.ik (any_mem h2) (okE o L _ h4 X W gd hs hf hm).pe (okE e L _ h5 X W gd hs hf hm).pe h3
    · cases h
theorem okSs : ∀ (ss : Ss) (L : Lx) (xs : List Stmt), ckSs G N n ss L xs = true → ∀ (X : Cx) (W : WX), Gd X cl W G N L.n Δ gl → X.env.scope = L.sc → X.fn = L.fn → (L.lam = true → LamOk X cl) → PSs X xs (tS X.K cl W (exs Δ gl ss))
  | .nil, L, x, h, X, W, gd, hs, hf, hm => by
    simp only [ckSs] at h
    split at h
    · exact ssNil
    · cases h
  | .cons s ss, L, x, h, X, W, gd, hs, hf, hm => by
    simp only [ckSs] at h
    split at h
    · simp only [Bool.and_eq_true] at h
      exact ssCons (okS s L _ h.1 X W gd hs hf hm) (okSs ss L _ h.2 X W gd hs hf hm)
    · cases h
end
end
end HS

/-! A def keeps its promise; all defs do. -/
namespace HS
open PySem L2 PyProof.Rows

/-- a def of the text: name, text, names of its slots, parameters, level, the evaluator's text -/
structure DefD where
  x : Str
  st : Stmt
  N : List Str
  ps : List Str
  lv : Nat
  df : Df
  lam : Bool := false
  cls : Option (Nat × Str) := none
/-- its name among the module's, its qualified name -/
def DefD.gn (d : DefD) : Str := match d.cls with
  | none => d.x
  | some _ => ""
def DefD.qn (d : DefD) : Str := match d.cls with
  | none => d.x
  | some (_, C) => (C ++ ".") ++ d.x
/-- what the defs of a level tell, from the levels below -/
noncomputable def del (tab : Nat → Df) (lv : Nat → Nat) (gl : Nat → D) : Nat → Nat → Fn
  | 0, _ => fun _ _ => .bad
  | n + 1, k => if lv k = n then run (del tab lv gl n) gl (tab k) else del tab lv gl n k
theorem del_at {tab : Nat → Df} {lv : Nat → Nat} {gl : Nat → D} {n k : Nat} (h : lv k < n) : del tab lv gl n k = run (del tab lv gl (lv k)) gl (tab k) := by
  induction n with
  | zero => omega
  | succ n ih =>
    unfold del
    by_cases e : lv k = n
    · rw [if_pos e, e]
    · rw [if_neg e]
      exact ih (by omega)

section
variable {K : PySem.W.Frag} {cl : Md} {H H' : Hp} {μ μ' : List Addr}
/-- cells made behind are left out -/
theorem Go.tidy {h h' : Hh} (rh : RlH K cl H μ h) (g : Go K cl μ H h' μ' H') (p : h <+: h') : Go K cl μ H h μ H' := by
  refine ⟨List.prefix_rfl, g.tp, g.fr, fun _ m => .inl m, g.rh.tb, rh.len, rh.nd, fun n c a e1 e2 => ?_⟩
  have r0 := rh.at_ n c a e1 e2
  have r1 := g.rh.at_ n c a (pre_get p e1) (pre_get g.pre e2)
  cases c with
  | lst xs =>
    obtain ⟨vs, q, r⟩ := r1
    obtain ⟨vs0, _, r0⟩ := r0
    exact ⟨vs, q, Rls.back g.pre r r0⟩
  | dic kvs => exact r1
  | ins _ _ =>
    obtain ⟨C, dx, vs, q0, q, q1, q2, r⟩ := r1
    obtain ⟨C0, dx0, vs0, _, _, _, _, r0⟩ := r0
    exact ⟨C, dx, vs, q0, q, q1, q2, Rls.back g.pre r r0⟩
theorem Go.tidy1 {h h' : Hh} {n : Nat} {a : Addr} {xs : List D} (rh : RlH K cl H μ h) (g : Go K cl μ H h' μ' H') (p : h <+: h') (hn : h.length ≤ n) (e : h'[n]? = some (.lst xs)) (f : D.flats xs = true) (ea : μ'[n]? = some a) : Go K cl μ H (h ++ [.lst xs]) (μ ++ [a]) H' := by
  have t := g.tidy rh p
  obtain ⟨vs, q, r⟩ := g.rh.at_ n _ a e ea
  have na : a ∉ μ := fun m => by
    obtain ⟨i, hi⟩ := List.getElem?_of_mem m
    have hl : i < h.length := by rw [← rh.len]; exact (List.getElem?_eq_some_iff.mp hi).1
    obtain ⟨h1, e1⟩ := List.getElem?_eq_some_iff.mp (pre_get g.pre hi)
    obtain ⟨h2, e2⟩ := List.getElem?_eq_some_iff.mp ea
    have := (List.getElem_inj g.rh.nd).mp (e1.trans e2.symm)
    omega
  have fresh : NoT H a := (g.nw a (List.mem_of_getElem? ea)).resolve_left na
  exact t.adopt fresh na q (Rls.flat f r)
/-- what a def hands back meets its wish -/
theorem Pg.tidy {h h' : Hh} {d : D} {Q : VK} {W : HS.X → Hh → List Addr → Hp → Prop} (rh : RlH K cl H μ h) (g : Go K cl μ H h' μ' H') (x : Pg K cl μ H (HS.tidy h d h') (VP K cl Q) W) {v : V} (r : Rl K cl H' μ' d v) : Q v H' := by
  unfold HS.tidy at x
  split at x
  · rename_i c
    exact x μ H' (g.tidy rh c.2) v (Rl.flat c.1 r)
  · split at x
    · rename_i n
      split at x
      · rename_i xs e
        split at x
        · rename_i c
          obtain ⟨a, rfl, ea⟩ := Rl.ref_iff.mp r
          refine x (μ ++ [a]) H' (g.tidy1 rh c.2.1 c.2.2 e c.1 ea) _ (Rl.ref_iff.mpr ⟨a, rfl, ?_⟩)
          rw [← rh.len]
          simp
        · exact x μ' H' g v r
      · exact x μ' H' g v r
    · exact x μ' H' g v r
end

section
variable {P : Program} {w : World} {K : PySem.W.Frag} {mg : Str → Option Value} {base : Heap} {cl : Md}
/-- a def by its body -/
theorem fnG_of {k : Nat} {f : Addr} {qual : Str} {st : Stmt} {fd : FuncData} {N ps : List Str} {x : Str} {sp : Sp} (F : L2.Fun K x qual st f fd) (S : FnScope N ps (defScope st)) (len : ∀ vs H Q E, sp vs H Q E → vs.length = ps.length)
    (hbody : ∀ (cdv : Value) (A : Around) (outer : List Env) (s : Shared) (H : Hp) (vs : List V) (Q : VK) (E : XK), fd.code = cdv → A.guards = some [] → Room k (A.deeper (envOfC qual (defScope st) s.heap.objs.size f cdv)) → sp vs H Q E →
      ∃ t : TS, PSs (cxOf (L2.CX P w) P w K mg base N qual (defScope st) f cdv A outer s H E) (defBody st) t ∧ t { nx := fun _ H' => Q .non H', rt := Q } (start N vs) H) :
    FnG P w K mg base (k + 1) f fd ps sp := by
  obtain ⟨oc, od, kV, doc, pm, an, cdv, ct, osl, rfl, lk, hcd⟩ := F.ex
  constructor
  · exact len
  · intro A outer s H args us vs Q E hg hr e0 hb r hsp
    have keepB : ∀ b o, base.get? b = some o → s.heap.get? b = some o := fun b o z => (e0.bs b o z).1
    have inS : K.In s.heap := e0.mod.kin.keeps keepB
    have kinds : ∀ y ∈ ps.zip us, (defScope st).names.lookup y.1 = some .local ∨ ((defScope st).names.lookup y.1 = some .cell ∧ ((cellsFrom (s.heap.objs.size + 1) (defScope st).names []).lookup y.1).isSome = true) := by
      rintro ⟨nm, u⟩ hy
      exact (S.par nm (List.of_mem_zip hy).1).imp id fun q => ⟨q, PySem.W.cellsFrom_some _ _ _ (.inl q)⟩
    refine codeAny_call_function hr.depth (inS _ _ lk) rfl S.co S.gen rfl (PySem.W.codeRec_of inS hcd) (hb _ _ _ _ (wpAny_newFunctionEnv_cells S.kind kinds ?_))
    rintro env rfl s1 x1
    refine ⟨(e0.mod.nolimit.keeps keepB).keeps x1.toInCall.keep, codeAny_func ?_⟩
    obtain ⟨t, ht, hq⟩ := hbody cdv A outer s H vs Q E rfl hg (hr.deeper _) hsp
    have I1 := inv_start (CX := L2.CX P w) (P := P) (w := w) (N := N) (E := E) S hr.hd e0 (len _ _ _ _ hsp) r x1
    refine wpAny_mono (ht.run [] s1 (start N vs) H _ I1 hq) (fun fl s' z => ?_) (fun e s' z => z)
    cases fl with
    | brk => exact z.elim fun _ q => q.elim fun _ q => q.2.elim
    | cont => exact z.elim fun _ q => q.elim fun _ q => q.2.elim
    | next =>
      obtain ⟨σ', H', J, q⟩ := z
      exact ⟨.non, H', J.os, J.bare, J.base, J.hok, rfl, q⟩
    | ret u =>
      obtain ⟨v, σ', H', J, rv, q⟩ := z
      exact ⟨v, H', J.os, J.bare, J.base, J.hok, rv, q⟩
end
end HS

/-! All defs of a module keep their promises. -/
namespace HS
open PySem L2 PyProof.Rows

/-- a def's own scope: parameters first, no name from around it -/
def scB (N ps : List Str) (sc : Scope) : Bool :=
  (sc.kind == ScopeKind.function) && (sc.isCoroutine == false) && (sc.isGenerator == false) && decide N.Nodup && decide (N.take ps.length = ps) &&
    ps.all (locB sc) && sc.names.all (fun y => !(y.2 == NameKind.free))
theorem scB_ok {N ps : List Str} {sc : Scope} (h : scB N ps sc = true) : FnScope N ps sc := by
  simp only [scB, Bool.and_eq_true, List.all_eq_true, decide_eq_true_eq, beq_iff_eq] at h
  obtain ⟨⟨⟨⟨⟨⟨a, b⟩, c⟩, d⟩, e⟩, f⟩, g⟩ := h
  exact ⟨a, b, c, d, e, fun x hx => locB_ok (f x hx), fun y hy z => by
    have := g y hy
    rw [z] at this
    simp at this⟩
def ckD (G : Gt) (d : DefD) : Bool := scB d.N d.ps (defScope d.st) && decide (d.df.np = d.ps.length) && decide (d.df.ns = d.N.length) && ckSs G d.N d.lv d.df.body ⟨defScope d.st, fun _ => true, d.lv, d.lam && d.cls.isNone⟩ (defBody d.st)
/-- where the lambdas of a def stand -/
def qLam (x : Str) : Str := (x ++ ".<locals>.") ++ "<lambda>"
/-- a def of the module as it stands -/
structure DefOk (K : PySem.W.Frag) (mg : Str → Option Value) (cl : Md) (kws : List (Nat × Nat × List Str × List Nat)) (k : Nat) (d : DefD) (f : Addr) (fd : FuncData) : Prop where
  fn : L2.Fun K d.x d.qn d.st f fd
  mgf : d.cls = none → mg d.x = some (.ref f)
  met : ∀ j C, d.cls = some (j, C) → ∃ a, cl.i j = some a ∧ Meth K a d.x f ∧ (d.x = "__init__" → mg C = some (.ref a) ∧ Mk K a f)
  bd : ∀ (s : Shared) (us : List Value), us.length = d.ps.length → BindsTo s fd ⟨us, []⟩ (d.ps.zip us)
  kw : ∀ m nm idx, (k, m, nm, idx) ∈ kws → KwOk fd d.ps nm m idx
  lam : (d.lam && d.cls.isNone) = true → ∃ c P, fd.code = .ref c ∧ (c, P) ∈ cl.cs ∧ (P, qLam d.qn) ∈ cl.T ∧ ∀ p ∈ cl.T, p.1 = P → p.2 = qLam d.qn
/-- what is known of the module -/
structure Mdl (K : PySem.W.Frag) (mg : Str → Option Value) (cl : Md) (ds : List DefD) (G : Gt) (gl : Nat → D) : Prop where
  fns : G.fns = ds.map fun d => (d.gn, d.ps.length, d.lv)
  ck : ∀ d ∈ ds, ckD G d = true
  defs : ∀ k d, ds[k]? = some d → ∃ f fd, DefOk K mg cl G.kws k d f fd
  glb : ∀ k x, G.glb[k]? = some x → ∃ v u, mg x = some u ∧ RelV v u ∧ ∀ H μ, Rl K cl H μ (gl k) v
  blt : ∀ x ∈ G.blt, mg x = none
  gcd : G.gcd = true → BfOk mg .gcd
  cls : ∀ q ∈ G.cls, ClsK K mg cl q.1 q.2
  raz : ∀ k ∈ G.raz, RazK K cl k
  sub : SubK K cl
  td : ∀ q ∈ G.td, TdAll K mg cl q.1 q.2
  ik : InsK K cl G.ats
  mts : ∀ q ∈ G.mts, ∃ d C, ds[q.1]? = some d ∧ d.cls = some (q.2.1, C) ∧ d.x = q.2.2
  mks : ∀ q ∈ G.mks, ∃ d, ds[q.1]? = some d ∧ d.cls = some (q.2.1, q.2.2) ∧ d.x = "__init__"
def tabOf (ds : List DefD) (k : Nat) : Df := match ds[k]? with | some d => d.df | none => ⟨0, 0, .nil⟩
def lvOf (ds : List DefD) (k : Nat) : Nat := match ds[k]? with | some d => d.lv | none => 0
noncomputable abbrev dels (ds : List DefD) (gl : Nat → D) (n : Nat) : Nat → Fn := del (tabOf ds) (lvOf ds) gl n

theorem run_np {Δ : Nat → Fn} {gl : Nat → D} {f : Df} {K : PySem.W.Frag} {cl : Md} {μ : List Addr} {H : Hp} {xs : List D} {h : Hh} {P : D → Hh → List Addr → Hp → Prop} {W : HS.X → Hh → List Addr → Hp → Prop} (x : Pg K cl μ H (run Δ gl f xs h) P W) : xs.length = f.np := by
  unfold run at x
  split at x
  · assumption
  · exact x.elim
section
variable {P : Program} {w : World} {K : PySem.W.Frag} {mg : Str → Option Value} {base : Heap} {cl : Md} {ds : List DefD} {G : Gt} {gl : Nat → D}
theorem dels_eq {j n k : Nat} {d : DefD} (hd : ds[k]? = some d) (h : d.lv < j) (hj : j ≤ n) : dels ds gl j k = dels ds gl n k := by
  have e1 : lvOf ds k = d.lv := by unfold lvOf; rw [hd]
  exact (del_at (tab := tabOf ds) (lv := lvOf ds) (gl := gl) (n := j) (k := k) (by rw [e1]; exact h)).trans (del_at (tab := tabOf ds) (lv := lvOf ds) (gl := gl) (n := n) (k := k) (by rw [e1]; omega)).symm
theorem def_ok (M : Mdl K mg cl ds G gl) (sy : SysOk base) (hT : ∀ p ∈ cl.cs, LamX.TabB base mg p.1 p.2) {n k : Nat} {d : DefD} {f : Addr} {fd : FuncData} (hd : ds[k]? = some d) (hn : d.lv = n) (F : DefOk K mg cl G.kws k d f fd)
    (ih : ∀ j, j ≤ n → ∀ k d, ds[k]? = some d → d.lv < j → ∃ f fd, DefOk K mg cl G.kws k d f fd ∧ FnG P w K mg base j f fd d.ps (spF K cl (dels ds gl n k))) :
    FnG P w K mg base (n + 1) f fd d.ps (spF K cl (run (dels ds gl n) gl d.df)) := by
  have ck := M.ck d (List.mem_of_getElem? hd)
  unfold ckD at ck
  simp only [Bool.and_eq_true, decide_eq_true_eq] at ck
  obtain ⟨⟨⟨c1, c2⟩, c3⟩, c4⟩ := ck
  have S0 := scB_ok c1
  refine fnG_of F.fn S0 (fun vs H Q E ⟨μ, h, xs, rh, r, pg⟩ => by rw [← r.length, run_np pg, c2]) fun cdv A outer s H vs Q E hcd hg hr ⟨μ, h, xs, rh, r, pg⟩ => ?_
  have gd : Gd (cxOf (L2.CX P w) P w K mg base d.N d.qn (defScope d.st) f cdv A outer s H E) cl (fun c dd _ H' => E c dd H') G d.N d.lv (dels ds gl n) gl := by
    refine ⟨rfl, hg, by rw [hn]; exact hr, rfl, S0.nd, S0.kind, sy, takes_of rfl rfl rfl rfl, passes_of rfl, fun j hj k' x np lv e hl hx => ?_, M.cls, M.raz, M.sub, M.td, M.glb, M.blt, M.gcd, M.ik, fun j hj q hq np lv e hl => ?_, fun j hj q hq np lv e hl => ?_⟩
    · rw [M.fns, List.getElem?_map] at e
      cases e' : ds[k']? with
      | none => rw [e'] at e; cases e
      | some d' =>
        rw [e'] at e
        cases e
        obtain ⟨f', fd', F', g'⟩ := ih j (by rw [← hn]; exact hj) k' d' e' hl
        have hc : d'.cls = none := by
          cases q : d'.cls with
          | none => rfl
          | some _ => exact absurd (show d'.gn = ("" : Str) by unfold DefD.gn; rw [q]) hx
        have hg' : d'.gn = d'.x := by unfold DefD.gn; rw [hc]
        refine ⟨d'.ps, f', fd', rfl, ⟨g', by rw [hg']; exact F'.mgf hc, F'.fn.kp, F'.bd⟩, F'.kw⟩
    · obtain ⟨d', C, e', hc, hx⟩ := M.mts q hq
      rw [M.fns, List.getElem?_map, e'] at e
      simp only [Option.map_some, Option.some.injEq, Prod.mk.injEq] at e
      obtain ⟨f', fd', F', g'⟩ := ih j (by rw [← hn]; exact hj) q.1 d' e' (by rw [e.2.2]; exact hl)
      obtain ⟨a, h1, h2, _⟩ := F'.met _ _ hc
      exact ⟨⟨a, f', fd', d'.ps, e.2.1, h1, by rw [← hx]; exact h2, g', F'.bd⟩⟩
    · obtain ⟨d', e', hc, hx⟩ := M.mks q hq
      rw [M.fns, List.getElem?_map, e'] at e
      simp only [Option.map_some, Option.some.injEq, Prod.mk.injEq] at e
      obtain ⟨f', fd', F', g'⟩ := ih j (by rw [← hn]; exact hj) q.1 d' e' (by rw [e.2.2]; exact hl)
      obtain ⟨a, h1, _, h3⟩ := F'.met _ _ hc
      obtain ⟨h4, h5⟩ := h3 hx
      exact ⟨⟨a, f', fd', d'.ps, e.2.1, h1, h4, h5, g', F'.bd⟩⟩
  have lo : (d.lam && d.cls.isNone) = true → LamOk (cxOf (L2.CX P w) P w K mg base d.N d.qn (defScope d.st) f cdv A outer s H E) cl := fun hl => by
    obtain ⟨c, Pt, e1, e2, e3, e4⟩ := F.lam hl
    exact ⟨c, Pt, by rw [← e1, hcd]; rfl, hT _ e2, e3, e4⟩
  refine ⟨_, okSs d.df.body ⟨defScope d.st, fun _ => true, d.lv, d.lam && d.cls.isNone⟩ _ c4 _ _ gd rfl rfl lo, μ, xs.map some ++ List.replicate (d.df.ns - xs.length) none, h, ?_, rh, ?_⟩
  · have := RlE.start (K := K) (cl := cl) r d.N.length
    rw [c3]
    exact this
  · have hl := run_np pg
    unfold run at pg
    rw [if_pos hl] at pg
    cases e : exs (dels ds gl n) gl d.df.body (xs.map some ++ List.replicate (d.df.ns - xs.length) none) h with
    | bad => rw [e] at pg; exact pg
    | ex _ _ => rw [e] at pg; exact pg.elim
    | ok fl h' =>
      rw [e] at pg
      intro μ' H' g
      cases fl with
      | nx ρ => exact fun σ _ => Pg.tidy rh g pg (Rl.non_iff.mpr rfl)
      | rt v => exact fun v rv => Pg.tidy rh g pg rv
      | bk ρ => exact pg.elim
      | ct ρ => exact pg.elim
      | xc x ρ => exact fun σ _ c dd rx => pg μ' H' g c dd rx
theorem defs_ok (M : Mdl K mg cl ds G gl) (sy : SysOk base) (hT : ∀ p ∈ cl.cs, LamX.TabB base mg p.1 p.2) : ∀ (n k : Nat) (d : DefD), ds[k]? = some d → d.lv < n → ∃ f fd, DefOk K mg cl G.kws k d f fd ∧ FnG P w K mg base n f fd d.ps (spF K cl (dels ds gl n k)) := by
  intro n
  induction n using Nat.strongRecOn with
  | _ n ih =>
    intro k d hd hl
    obtain ⟨f, fd, F⟩ := M.defs k d hd
    have q := def_ok (P := P) (w := w) (base := base) M sy hT hd rfl F (fun j hj k' d' hd' hl' => by
      obtain ⟨f', fd', F', g'⟩ := ih j (by omega) k' d' hd' hl'
      exact ⟨f', fd', F', by rw [← dels_eq hd' hl' hj]; exact g'⟩)
    have e1 : lvOf ds k = d.lv := by unfold lvOf; rw [hd]
    have e2 : tabOf ds k = d.df := by unfold tabOf; rw [hd]
    have e : dels ds gl n k = run (dels ds gl d.lv) gl d.df := by
      have z := del_at (tab := tabOf ds) (lv := lvOf ds) (gl := gl) (n := n) (k := k) (by rw [e1]; exact hl)
      rw [e1, e2] at z
      exact z
    refine ⟨f, fd, F, ?_⟩
    rw [e]
    exact q.mono hl
end
end HS

/-! The law's end: its def, called with the script. -/
namespace HS
open PySem L2 PyProof.Rows

open Classical in
/-- the script alone is tracked, unless it is the module's own; the empty tables -/
noncomputable def scrH (K : PySem.W.Frag) (ts : List Addr) (a : Addr) (o : Obj) (vs : List V) : Hp := fun b => if b = a ∧ K.lookup a = none then some (.frz o (.lst vs)) else if b ∈ ts then some (.tbl #[]) else none
theorem scrH_some {K : PySem.W.Frag} {ts : List Addr} {a b : Addr} {o : Obj} {vs : List V} {u : HO} (h : scrH K ts a o vs b = some u) : (b = a ∧ K.lookup a = none ∧ u = .frz o (.lst vs)) ∨ (b ∈ ts ∧ u = .tbl #[]) := by
  unfold scrH at h
  split at h
  · rename_i c
    cases h
    exact .inl ⟨c.1, c.2, rfl⟩
  · split at h
    · rename_i c
      cases h
      exact .inr ⟨c, rfl⟩
    · cases h
/-- an empty table -/
abbrev tab0 : Obj := { cls := .none, data := .fields #[] }
section
variable {P : Program} {w : World} {K : PySem.W.Frag} {mg mb : Str → Option Value}
set_option maxHeartbeats 1000000 in
theorem call_end {k : Nat} {fa a : Addr} {fd : FuncData} {x : Str} {sp : Sp} {s₁ : Shared} {us : List Value} {ns : List Int} {cs : List (Addr × Addr)} (KX : K.In s₁.heap) (g1 : s₁.heap.Ns mainGlobals mg) (g2 : s₁.heap.Ns builtinsNs mb)
    (g3 : ∀ x : Str, x ≠ "__name__" → mb x = bootBuiltins x) (lim : s₁.heap.NoLimit) (gen : s₁.gens = #[]) (ea : s₁.heap.get? a = some { cls := .type "list", data := .seq us.toArray }) (hi : IntsAre us ns) (hl : ns.length ≤ sizeLine) (hr : Room k callerA)
    (hT : ∀ p ∈ cs, s₁.heap.get? p.2 = some tab0) (nT : ∀ p ∈ cs, K.lookup p.2 = none) (cd : ∀ p ∈ cs, PySem.W.CodeHd s₁.heap p.1 p.2)
    (hbm : ∃ (bm : Addr) (ob : Obj), mg "__builtins__" = some (.ref bm) ∧ bm ≠ builtinsNs ∧ s₁.heap.get? bm = some ob ∧ ob.cls = .type "module" ∧ ob.dict = some builtinsNs ∧ ob.data = .plain)
    (sm : SysOk s₁.heap)
    (F : ∀ base : Heap, K.In base → base.Ns mainGlobals mg → (∀ p ∈ cs, LamX.TabB base mg p.1 p.2) → SysOk base → FnG P w K mg base k fa fd [x] sp) (hbind : ∀ (s : Shared) (u : Value), BindsTo s fd ⟨[u], []⟩ [(x, u)])
    (hsp : ∀ H : Hp, (∀ p ∈ cs, H p.2 = some (.tbl #[])) → SqF K H a (ns.map V.int) → sp [.ref a] H (fun v _ => v = .bl true) fun _ _ _ => False) :
    codeAny (model P w) callerA (.call (.ref fa) ⟨[.ref a], []⟩) (fun r s' => r = .ok (.ret (.bool true)) ∧ OldK s₁.heap s'.heap ∧ s'.os = s₁.os ∧ AllBare s'.gens) s₁ := by
  have rv : Vals (ns.map V.int) us := vals_ints hi
  have lu := hi.length
  have memT : ∀ p ∈ cs, p.2 ∈ cs.map (·.2) := fun p hp => List.mem_map.mpr ⟨p, hp, rfl⟩
  have isT : ∀ b ∈ cs.map (·.2), s₁.heap.get? b = some tab0 := fun b hb => by
    obtain ⟨p, hp, rfl⟩ := List.mem_map.mp hb
    exact hT p hp
  have aT : a ∉ cs.map (·.2) := fun z => by
    have q := isT a z
    rw [ea] at q
    have := congrArg Obj.data (Option.some.inj q)
    cases this
  generalize eo : ({ cls := .type "list", data := .seq us.toArray } : Obj) = o at ea
  generalize eH : scrH K (cs.map (·.2)) a o (ns.map V.int) = H
  have some_ : ∀ {b u}, H b = some u → (b = a ∧ K.lookup a = none ∧ u = .frz o (.lst (ns.map V.int))) ∨ (b ∈ cs.map (·.2) ∧ u = .tbl #[]) := fun {b u} z => scrH_some (by rw [eH]; exact z)
  have tabs : ∀ b ∈ cs.map (·.2), H b = some (.tbl #[]) := fun b hb => by
    rw [← eH]
    unfold scrH
    rw [if_neg (fun z => aT (by rw [← z.1]; exact hb)), if_pos hb]
  have hok : HOk P w H s₁.heap := fun b u z => by
    rcases some_ z with ⟨rfl, _, rfl⟩ | ⟨hb, rfl⟩
    · exact ⟨ea, by rw [List.length_map]; exact hl, us, 0, rv, by rw [ea, ← eo]⟩
    · exact isT b hb
  have none_of : ∀ {b : Addr} {ob : Obj}, s₁.heap.get? b = some ob → ob ≠ o → ob ≠ tab0 → H b = none := fun {b ob} e n1 n2 => by
    cases q : H b with
    | none => rfl
    | some u =>
      rcases some_ q with ⟨rfl, _, _⟩ | ⟨hb, _⟩
      · rw [ea] at e; exact absurd (Option.some.inj e).symm n1
      · rw [isT b hb] at e; exact absurd (Option.some.inj e).symm n2
  have low : ∀ {b : Addr} {ob : Obj}, s₁.heap.get? b = some ob → H b = none → (hidT s₁.heap H).get? b = some ob := fun z y => hidT_get z y
  have ndict : ∀ {ob : Obj} {es ep}, ob.data = .dict es ep → ob ≠ o ∧ ob ≠ tab0 := fun {ob es ep} d => ⟨(fun z => by rw [z, ← eo] at d; cases d), (fun z => by rw [z] at d; cases d)⟩
  have nsLow : ∀ {b : Addr} {m : Str → Option Value}, s₁.heap.Ns b m → (hidT s₁.heap H).Ns b m := fun {b m} ⟨ob, es, ep, z, dd, r⟩ => ⟨ob, es, ep, low z (none_of z (ndict dd).1 (ndict dd).2), dd, r⟩
  have kLow : K.In (hidT s₁.heap H) := fun b ob z => low (KX b ob z) (by
    cases q : H b with
    | none => rfl
    | some u =>
      rcases some_ q with ⟨e, nk, _⟩ | ⟨hb, _⟩
      · rw [e, nk] at z
        cases z
      · obtain ⟨p, hp, rfl⟩ := List.mem_map.mp hb
        rw [nT p hp] at z
        cases z)
  have sLow : SysOk (hidT s₁.heap H) := by
    obtain ⟨oc, es, n, e1, e2⟩ := sm
    exact ⟨oc, es, n, low e1 (none_of e1 (ndict e2).1 (ndict e2).2), e2⟩
  have lLow : (hidT s₁.heap H).NoLimit := lim.elim fun mc z => ⟨mc, nsLow z.1, z.2⟩
  have e0 : Env0 P w K mg (hidT s₁.heap H) callerA [] s₁ H := by
    refine ⟨rfl, ⟨kLow, nsLow g1, ⟨mb, nsLow g2, g3⟩, lLow⟩, fun b ob z => of_hidT z, ?_, trivial, ?_, hok, .of_eq gen⟩
    · rw [hidT_size]; exact Nat.le_refl _
    · intro b hb; cases hb
  have TB : ∀ p ∈ cs, LamX.TabB (hidT s₁.heap H) mg p.1 p.2 := fun p hp => by
    refine ⟨?_, ?_, fun z => ?_⟩
    · obtain ⟨oc, ws, file, tf, flags, tg, inF, text, tt, e1, r1, r2, r3, rest⟩ := cd p hp
      refine ⟨oc, ws, file, tf, flags, tg, inF, text, tt, low e1 (none_of e1 (fun z => ?_) fun z => ?_), r1, r2, r3, rest⟩
      · rw [z, ← eo] at r2; cases r2
      · rw [z] at r2
        cases r2
        simp at r3
    · obtain ⟨bm, ob, b1, b2, b3, b4, b5, b6⟩ := hbm
      have nG : bm ≠ mainGlobals := fun q => by
        obtain ⟨oc, es, ep, e, hd, _⟩ := g1
        rw [q, e] at b3
        cases b3
        rw [hd] at b6
        cases b6
      have nP : bm ≠ p.2 := fun q => by
        rw [q, hT p hp] at b3
        cases b3
        cases b6
      refine ⟨bm, ob, b1, b2, nG, nP, low b3 (none_of b3 (fun z => ?_) fun z => ?_), b4, b5, b6⟩
      · rw [z, ← eo] at b6; cases b6
      · rw [z] at b6; cases b6
    · obtain ⟨oc, es, ep, e, hd, _⟩ := g1
      rw [z, hT p hp] at e
      cases e
      cases hd
  have sq : SqF K H a (ns.map V.int) := by
    cases q : K.lookup a with
    | none =>
      refine .inl ⟨o, ?_⟩
      rw [← eH]
      unfold scrH
      rw [if_pos ⟨rfl, q⟩]
    | some ob =>
      have z := KX a ob q
      rw [ea] at z
      cases z
      refine .inr ⟨o, us.toArray, 0, q, ?_, ?_, ?_, by rw [List.size_toArray, lu]; exact hl, rv⟩ <;> rw [← eo]
  refine codeAny_mono ((F _ kLow (nsLow g1) TB sLow).run callerA [] s₁ H ⟨[.ref a], []⟩ [.ref a] [.ref a] _ _ rfl hr e0 (hbind s₁ (.ref a)) (.cons rfl .nil) (hsp H (fun p hp => tabs _ (memT p hp)) sq)) fun r s' z => ?_
  cases r with
  | error e =>
    obtain ⟨_, _, _, _, _, _, _, _, _, _, _, _, bad⟩ := z
    exact bad.elim
  | ok fl =>
    cases fl with
    | ret u =>
      obtain ⟨v, H', os, bare, un, hok', r', rfl⟩ := z
      cases (show u = Value.bool true from r')
      have key : ∀ b o, b ∉ cs.map (·.2) → s₁.heap.get? b = some o → s'.heap.get? b = some o := fun b o nb y => by
        cases q : H b with
        | none => exact un.keep b o y q (fun z => nomatch z) (fun z => nomatch z)
        | some u =>
          rcases some_ q with ⟨_, _, rfl⟩ | ⟨hb, _⟩
          · have k1 := (hok b _ q).1
            have k2 := (hok' b _ (un.frzs b _ _ q)).1
            rw [y] at k1
            cases k1
            exact k2
          · exact absurd hb nb
      have grown : ∀ p ∈ cs, ∃ more : Array Value, s'.heap.get? p.2 = some { cls := .none, data := .fields more } := fun p hp => by
        obtain ⟨more, z⟩ := un.tbls p.2 #[] (tabs _ (memT p hp))
        exact ⟨_, hok' p.2 _ z⟩
      refine ⟨rfl, ⟨fun b ob e => ?_, fun b ob e => ?_⟩, os, bare⟩
      · by_cases hb : b ∈ cs.map (·.2)
        · obtain ⟨p, hp, rfl⟩ := List.mem_map.mp hb
          obtain ⟨more, hm⟩ := grown p hp
          rw [hT p hp] at e
          cases e
          exact .inr (.inl ⟨((cd p hp).tab (hT p hp)).isCodeTable, rfl, #[], more, rfl, by rw [Array.empty_append]; exact hm⟩)
        · exact .inl (key b ob hb e)
      · by_cases hb : b ∈ cs.map (·.2)
        · obtain ⟨p, hp, rfl⟩ := List.mem_map.mp hb
          obtain ⟨more, hm⟩ := grown p hp
          exact ⟨_, hm⟩
        · exact ⟨ob, key b ob hb e⟩
    | next => exact z.elim
    | brk => exact z.elim
    | cont => exact z.elim
end
/-- what a law's module tells of the law's def -/
structure LawOk (K : PySem.W.Frag) (mg : Str → Option Value) (h : Heap) (name x : Str) (n : Nat) : Prop where
  sm : SysOk h
  ex : ∃ (cl : Md) (ds : List DefD) (G : Gt) (gl : Nat → D) (k : Nat) (d : DefD), Mdl K mg cl ds G gl ∧ ds[k]? = some d ∧ d.x = name ∧ d.cls = none ∧ d.ps = [x] ∧ d.lv ≤ 190 ∧
    (∀ p ∈ cl.cs, h.get? p.2 = some tab0) ∧ (∀ p ∈ cl.cs, K.lookup p.2 = none) ∧ (∀ p ∈ cl.cs, PySem.W.CodeHd h p.1 p.2) ∧ (∀ p ∈ cl.T, p.1 ∈ cl.cs.map (·.2)) ∧
    ∀ ns : List Int, ns.length ≤ n → ∃ h', dels ds gl (d.lv + 1) k [.fz (ns.map D.int)] [] = .ok (.bl true) h'
theorem room200 {k : Nat} (h : k ≤ 201) : Room k callerA := Room.mono (k := 201) ⟨rfl, by decide, by decide⟩ h
theorem walk_end {l : PySem.W.OpenLaw} {n : Nat} {q : Program} {loose : List Str} {XP : (Str → Option Value) → Heap → Prop} {YP : World → Heap → Prop} {d : DefRec} {x : Str}
    (hn : l.most = some n) (hn2 : n ≤ sizeLine) (hdf : d.params.defaults = [])
    (F : ∀ (w : World) (mg : Str → Option Value) (h : Heap), YP w h → h.Ns mainGlobals mg → ∃ K : PySem.W.Frag, K.In h ∧ LawOk K mg h d.name x n) :
    PySem.W.WalkO q loose XP YP l.row.toRowW d [] (fun f vs => PySem.call f vs) := by
  refine Att.attach_call hn hdf fun w s₀ s₁ mg mb fa o pm cd doc a vs ns G Y ho hd hcd hmg hobj hints hlen hg => ?_
  obtain ⟨K, KX, LO⟩ := F w mg _ Y G.T.g
  obtain ⟨cl, ds, Gt, gl, k, dd, M, e1, e2, e0, e3, e4, t1, t2, t3, t4, e5⟩ := LO.ex
  obtain ⟨f, fd, DO⟩ := M.defs k dd e1
  have ef : f = fa := by
    have z := DO.mgf e0
    rw [e2, hmg] at z
    cases z; rfl
  subst ef
  have hb : ∀ (s : Shared) (u : Value), BindsTo s fd ⟨[u], []⟩ [(x, u)] := fun s u => by
    have z := DO.bd s [u] (by rw [e3]; rfl)
    rw [e3] at z
    exact z
  refine call_end (cs := cl.cs) (sp := spF K cl (dels ds gl (dd.lv + 1) k)) KX G.T.g G.T.b G.T.builtins G.T.nolimit hg hobj hints (Nat.le_trans hlen hn2) (room200 (k := dd.lv + 1) (by omega)) t1 t2 t3 G.T.bmain LO.sm (fun base _ _ hT sy => ?_) hb fun H hH sq => ?_
  · obtain ⟨f', fd', DO', g'⟩ := defs_ok (P := l.prog) (w := w) (base := base) M sy hT (dd.lv + 1) k dd e1 (Nat.lt_succ_self _)
    have ef : f' = f := by
      have z := DO'.mgf e0
      rw [DO.mgf e0] at z
      cases z; rfl
    subst ef
    have efd : fd' = fd := by
      obtain ⟨_, _, _, _, _, _, _, _, _, _, l1, _⟩ := DO.fn.ex
      obtain ⟨_, _, _, _, _, _, _, _, _, _, l2, _⟩ := DO'.fn.ex
      rw [l1] at l2
      cases l2; rfl
    subst efd
    rw [e3] at g'
    exact g'
  · obtain ⟨h', eq⟩ := e5 ns hlen
    have tb : LamX.Tabs cl.T H := fun p hp => by
      obtain ⟨q, hq, e⟩ := List.mem_map.mp (t4 p hp)
      exact .nil (by rw [← e]; exact hH q hq)
    refine ⟨[], [], [.fz (ns.map D.int)], ⟨tb, rfl, List.nodup_nil, fun n c a z => by simp at z⟩, Rls.one (Rl.fz_iff.mpr ⟨a, _, rfl, sq, Rls.ints.mpr rfl⟩), ?_⟩
    rw [eq]
    exact fun μ' H' g v rv => Rl.bl_iff.mp rv
end HS

/-! From what a head's hook tells to the module's facts. -/
namespace HS
open PySem L2 PyProof.Rows
def fdOf (d : DefD) (kV doc pm : Value) (an : Option Addr) (cdv ct : Value) : FuncData := PySem.W.fnOf d.x d.qn (defArgs d.st) (defBody d.st) (defScope d.st) .none kV doc pm an cdv ct
/-- how a def's arguments bind -/
def BdOk (d : DefD) : Prop := ∀ (kV doc pm : Value) (an : Option Addr) (cdv ct : Value) (us : List Value), us.length = d.ps.length → bindArgs (fdOf d kV doc pm an cdv ct) ⟨us, []⟩ = pure (d.ps.zip us)
def KwD (d : DefD) (m : Nat) (nm : List Str) (idx : List Nat) : Prop := ∀ (kV doc pm : Value) (an : Option Addr) (cdv ct : Value) (us ws : List Value), us.length = m → ws.length = nm.length →
  bindArgs (fdOf d kV doc pm an cdv ct) ⟨us, nm.zip ws⟩ = pure (d.ps.zip (us ++ idx.map fun i => ws.getD i .none))
def AllBd : List DefD → Prop
  | [] => True
  | d :: ds => BdOk d ∧ AllBd ds
def AllKw (ds : List DefD) : List (Nat × Nat × List Str × List Nat) → Prop
  | [] => True
  | q :: qs => (∃ d, ds[q.1]? = some d ∧ KwD d q.2.1 q.2.2.1 q.2.2.2) ∧ AllKw ds qs
def AllCk (G : Gt) : List DefD → Prop
  | [] => True
  | d :: ds => ckD G d = true ∧ AllCk G ds
theorem AllBd.get : ∀ {ds : List DefD} {k : Nat} {d : DefD}, AllBd ds → ds[k]? = some d → BdOk d
  | _ :: _, 0, _, h, e => by cases e; exact h.1
  | _ :: _, k + 1, _, h, e => AllBd.get h.2 (show _ = _ from e)
theorem AllCk.get {G : Gt} : ∀ {ds : List DefD} {d : DefD}, AllCk G ds → d ∈ ds → ckD G d = true
  | x :: ds, d, h, e => by
    rcases List.mem_cons.mp e with rfl | e
    · exact h.1
    · exact AllCk.get h.2 e
theorem AllKw.get {ds : List DefD} : ∀ {qs : List (Nat × Nat × List Str × List Nat)} {k m : Nat} {nm : List Str} {idx : List Nat} {d : DefD}, AllKw ds qs → (k, m, nm, idx) ∈ qs → ds[k]? = some d → KwD d m nm idx
  | q :: qs, k, m, nm, idx, d, h, e, ed => by
    rcases List.mem_cons.mp e with rfl | e
    · obtain ⟨d', e1, h1⟩ := h.1
      rw [ed] at e1
      cases e1
      exact h1
    · exact AllKw.get h.2 e ed

/-! ### checks over the written part -/
mutual
/-- a constant as it stands written -/
def kdB (K : PySem.W.Frag) : D → Value → Bool
  | .non, .none => true
  | .bl b, .bool c => b == c
  | .int i, .int j _ => decide (i = j)
  | .str x, .str y _ => decide (x = y)
  | .tup xs, .ref a => match K.lookup a with
    | some ⟨.type c, _, .seq its _, _⟩ => decide (c = "tuple") && decide (its.size ≤ 16777216) && kdsB K xs its.toList
    | _ => false
  | _, _ => false
def kdsB (K : PySem.W.Frag) : List D → List Value → Bool
  | [], [] => true
  | d :: ds, u :: us => kdB K d u && kdsB K ds us
  | _, _ => false
end
mutual
theorem kdB_ok {K : PySem.W.Frag} {cl : Md} : ∀ (d : D) (u : Value), kdB K d u = true → ∃ v, RelV v u ∧ ∀ H μ, Rl K cl H μ d v
  | .non, u, h => by
    cases u <;> first | exact ⟨.non, rfl, fun _ _ => Rl.non_iff.mpr rfl⟩ | (simp [kdB] at h)
  | .bl b, u, h => by
    cases u <;> first | (simp only [kdB, beq_iff_eq] at h; subst h; exact ⟨.bl _, rfl, fun _ _ => Rl.bl_iff.mpr rfl⟩) | (simp [kdB] at h)
  | .int b, u, h => by
    cases u <;> first | (simp only [kdB, decide_eq_true_eq] at h; subst h; exact ⟨.int _, ⟨_, rfl⟩, fun _ _ => Rl.int_iff.mpr rfl⟩) | (simp [kdB] at h)
  | .str b, u, h => by
    cases u <;> first | (simp only [kdB, decide_eq_true_eq] at h; subst h; exact ⟨.str _, ⟨_, rfl⟩, fun _ _ => Rl.str_iff.mpr rfl⟩) | (simp [kdB] at h)
  | .tup xs, u, h => by
    cases u with
    | ref a =>
      simp only [kdB] at h
      split at h
      · rename_i c od its n sl e
        simp only [Bool.and_eq_true, decide_eq_true_eq] at h
        obtain ⟨⟨h1, h2⟩, h3⟩ := h
        obtain ⟨vs, r, q⟩ := kdsB_ok xs its.toList h3
        exact ⟨.ref a, rfl, fun H μ => Rl.tup_iff.mpr ⟨a, vs, rfl, .inr ⟨_, its, n, e, congrArg Value.type h1, rfl, h2, r⟩, q H μ⟩⟩
      · cases h
    | _ => simp [kdB] at h
  | .fz _, u, h => by simp [kdB] at h
  | .ref _, u, h => by simp [kdB] at h
  | .ty _, u, h => by simp [kdB] at h
  | .cls _, u, h => by simp [kdB] at h
theorem kdsB_ok {K : PySem.W.Frag} {cl : Md} : ∀ (ds : List D) (us : List Value), kdsB K ds us = true → ∃ vs, Vals vs us ∧ ∀ H μ, Rls K cl H μ ds vs
  | [], us, h => by
    cases us with
    | nil => exact ⟨[], .nil, fun _ _ => Rls.nil.mpr rfl⟩
    | cons _ _ => simp [kdsB] at h
  | d :: ds, us, h => by
    cases us with
    | nil => simp [kdsB] at h
    | cons u us =>
      simp only [kdsB, Bool.and_eq_true] at h
      obtain ⟨v, r, q⟩ := kdB_ok d u h.1
      obtain ⟨vs, rs, qs⟩ := kdsB_ok ds us h.2
      exact ⟨v :: vs, .cons r rs, fun H μ => Rls.cons.mpr ⟨v, vs, rfl, q H μ, qs H μ⟩⟩
end
def conB (K : PySem.W.Frag) : List Str → List D → Bool
  | [], _ => true
  | x :: xs, d :: ds => (match PySem.W.nsIn K mainGlobals x with
    | some (some u) => kdB K d u
    | _ => false) && conB K xs ds
  | _ :: _, [] => false
theorem conB_get {K : PySem.W.Frag} : ∀ {xs : List Str} {ds : List D} {k : Nat} {x : Str}, conB K xs ds = true → xs[k]? = some x → ∃ u, PySem.W.nsIn K mainGlobals x = some (some u) ∧ kdB K (ds.getD k .non) u = true
  | x :: xs, d :: ds, 0, _, h, e => by
    cases e
    simp only [conB, Bool.and_eq_true] at h
    obtain ⟨h1, _⟩ := h
    split at h1
    · rename_i u q
      exact ⟨u, q, h1⟩
    · cases h1
  | x :: xs, d :: ds, k + 1, _, h, e => by
    simp only [conB, Bool.and_eq_true] at h
    have := conB_get (k := k) h.2 (show _ = _ from e)
    simpa using this
  | x :: xs, [], _, _, h, _ => by simp [conB] at h
  | [], _, _, _, _, e => by simp at e
/-- a class of errors as it stands written -/
def excB (K : PySem.W.Frag) (a : Addr) : Bool :=
  He.eqO (PySem.W.findIn K (.ref a) "__getattribute__") (some (some (.builtin "BaseException.__getattribute__"))) && He.eqO (PySem.W.findIn K (.ref a) "__getattr__") (some none) && decide (PySem.W.subIn K (.ref a) (.type "BaseException") = some true) && PySem.W.hasDictIn K a &&
    He.eqO (PySem.W.findIn K (.ref a) "__class__") (some (some (.builtin "object.__class__"))) && He.eqO (PySem.W.specialIn K (.builtin "object.__class__") "__get__") (some (some (.builtin "getset_descriptor.__get__"))) && decide (PySem.W.takesIn K (.builtin "object.__class__") = some true) && decide (PySem.W.mroIn K a (.type "object") = some true)
theorem excB_ok {K : PySem.W.Frag} {a : Addr} (h : excB K a = true) : ExcC K a := by
  simp only [excB, Bool.and_eq_true, decide_eq_true_eq] at h
  obtain ⟨⟨⟨⟨⟨⟨⟨h1, h2⟩, h3⟩, h4⟩, h5⟩, h6⟩, h7⟩, h8⟩ := h
  exact ⟨He.eqO_ok h1, He.eqO_ok h2, h3, h4, He.eqO_ok h5, He.eqO_ok h6, h7, h8⟩
def clsB (K : PySem.W.Frag) (cs : List (Nat × Str)) : Bool := cs.all fun q => He.eqO (PySem.W.nsIn K mainGlobals q.2) (some (some (.ref (He.ga K q.2)))) && PySem.W.keepIn K (.ref (He.ga K q.2)) && decide (PySem.W.typeIn K (.ref (He.ga K q.2)) = some (.type "type")) && excB K (He.ga K q.2) &&
  cs.all fun r => decide (PySem.W.subIn K (.ref (He.ga K q.2)) (.ref (He.ga K r.2)) = some (subC q.1 r.1)) && decide (PySem.W.kitOne K (.ref (He.ga K q.2)) (.ref (He.ga K r.2)) = some (subC q.1 r.1))
def razB (K : PySem.W.Frag) (cs : List (Nat × Str)) (rs : List Nat) : Bool := rs.all fun k => match cs.lookup k with
  | some x => PySem.W.excIn K (He.ga K x) [.type "ValueError", .type "Exception", .type "BaseException", .type "object"] "ValueError.__new__"
  | none => false
def lams (ds : List DefD) : List Str := (ds.filter fun d => d.lam && d.cls.isNone).map (·.x)
def exB (ds : List DefD) (G : Gt) (gls : List D) (K : PySem.W.Frag) : Bool := conB K G.glb gls && clsB K G.cls && razB K G.cls G.raz && (!G.gcd || He.eqO (PySem.W.nsIn K mainGlobals "gcd") (some (some (.builtin "math.gcd")))) && decide ((lams ds).map fun x => (He.cT K (x, none)).2).Nodup
/-- a def of the evaluator as the hook looks for it -/
def DefD.at_ (d : DefD) : Str × Option Str := match d.cls with
  | none => (d.x, none)
  | some (_, C) => (C, some d.x)
def DefD.fa (d : DefD) : He.Fa := match d.cls with
  | none => .glo d.x
  | some (_, C) => .meth C d.x
def heD (d : DefD) : He.DefD := ⟨d.at_, d.x, d.qn, defArgs d.st, defBody d.st, defScope d.st, [], []⟩
/-- what is asked of the classes of instances -/
def insF (G : Gt) : List He.Fa := G.mks.flatMap fun q => [.glo q.2.2, .cls q.2.2, .mkr q.2.2] ++ G.ats.map (.noat q.2.2)
def heF (ds : List DefD) (G : Gt) : List He.Fa := ds.map DefD.fa ++ (G.blt.map .free ++ insF G)
/-- methods and makers are what they are told to be -/
def insG (ds : List DefD) (G : Gt) : Bool :=
  G.mts.all (fun q => match ds[q.1]? with
    | some d => (match d.cls with
      | some (k, _) => decide (k = q.2.1) && decide (d.x = q.2.2)
      | none => false)
    | none => false) &&
  G.mks.all (fun q => match ds[q.1]? with
    | some d => decide (d.cls = some (q.2.1, q.2.2)) && decide (d.x = "__init__")
    | none => false) &&
  ds.all (fun d => match d.cls with
    | none => true
    | some (k, C) => decide ((G.mks.map (·.2)).lookup k = some C))
def heT (ds : List DefD) : List He.Defn := (lams ds).map fun x => (x, none)
/-- the text of a def that tells of a call -/
def tdC (G : Gt) (d : DefD) (t : Tk) : Bool :=
  match t, d.N, d.ps, defBody d.st with
  | .rep k1 k2 s1 s2, [a, e], [a'], [.Try [.Return (some (.Call (.Name r _) [.Call (.Name a2 _) [] [] _] [] _)) _] [.ExceptHandler (some (.Name x1 _)) (some e2) [.Return (some (.IfExp (.Call (.Name i _) [.Name e3 _, .Name x2 _] [] _) (.Constant (.str t1) _ _) (.Constant (.str t2) _ _) _)) _] _] [] [] _] =>
    decide (a' = a) && decide (a2 = a) && decide (e2 = e) && decide (e3 = e) && decide (t1 = s1) && decide (t2 = s2) && decide (a ≠ e) && decide (r = "repr") && decide (i = "isinstance") && visB (defScope d.st) a && decide ((defScope d.st).names.lookup e = some .local) && gloB (defScope d.st) x1 && gloB (defScope d.st) x2 &&
      gloB (defScope d.st) "repr" && gloB (defScope d.st) "isinstance" && G.cls.any (fun q => decide (q.1 = k1) && decide (q.2 = x1)) && G.cls.any (fun q => decide (q.1 = k2) && decide (q.2 = x2)) && nameOk a && nameOk e && nameOk x1 && nameOk x2 && G.blt.any (fun w => decide (w = "repr")) && G.blt.any (fun w => decide (w = "isinstance"))
  | _, _, _, _ => false
def tdsC (ds : List DefD) (G : Gt) : Bool := G.td.all fun q => ds.any fun d => decide (d.x = q.1) && decide (d.ps.length = 1) && scB d.N d.ps (defScope d.st) && tdC G d q.2 && d.cls.isNone
theorem cls_mem {G : Gt} {k : Nat} {x : Str} (h : G.cls.any (fun q => decide (q.1 = k) && decide (q.2 = x)) = true) : (k, x) ∈ G.cls := by
  rw [List.any_eq_true] at h
  obtain ⟨⟨a, b⟩, hq, h⟩ := h
  simp only [Bool.and_eq_true, decide_eq_true_eq] at h
  obtain ⟨e1, e2⟩ := h
  subst e1 e2
  exact hq
theorem lookup_of {k : Nat} {x : Str} : ∀ {l : List (Nat × Str)}, l.lookup k = some x → (k, x) ∈ l
  | [], h => by cases h
  | (a, b) :: l, h => by
    rw [List.lookup_cons] at h
    split at h
    · rename_i e
      cases h
      rw [beq_iff_eq.mp e]
      exact List.mem_cons_self
    · exact List.mem_cons_of_mem _ (lookup_of h)
/-- the classes' numbers are told once -/
def clsN (G : Gt) : Bool := decide (G.cls.map (·.1)).Nodup
theorem lookup_nd {k : Nat} {x : Str} : ∀ {l : List (Nat × Str)}, (l.map (·.1)).Nodup → (k, x) ∈ l → l.lookup k = some x
  | [], _, h => by cases h
  | (a, b) :: l, nd, h => by
    simp only [List.map_cons, List.nodup_cons] at nd
    rw [List.lookup_cons]
    rcases List.mem_cons.mp h with e | h2
    · cases e
      simp
    · have ne : (k == a) = false := by
        rw [beq_eq_false_iff_ne]
        intro z
        exact nd.1 (List.mem_map.mpr ⟨(k, x), h2, z⟩)
      rw [ne]
      exact lookup_nd nd.2 h2
/-- where the classes and the tables lie -/
def mdOf (ds : List DefD) (G : Gt) (K : PySem.W.Frag) : Md := ⟨fun k => (G.cls.lookup k).map (He.ga K), (lams ds).map fun x => ((He.cT K (x, none)).2, qLam x), (lams ds).map fun x => He.cT K (x, none), fun k => ((G.mks.map (·.2)).lookup k).map (He.ga K)⟩
theorem nodup_inj {K : PySem.W.Frag} : ∀ {l : List Str}, (l.map fun x => (He.cT K (x, none)).2).Nodup → ∀ x ∈ l, ∀ y ∈ l, (He.cT K (x, none)).2 = (He.cT K (y, none)).2 → x = y
  | [], _, x, hx, _, _, _ => by cases hx
  | a :: l, nd, x, hx, y, hy, e => by
    simp only [List.map_cons, List.nodup_cons] at nd
    rcases List.mem_cons.mp hx with h1 | h1
    · rcases List.mem_cons.mp hy with h2 | h2
      · rw [h1, h2]
      · rw [h1] at e
        exact absurd (List.mem_map.mpr ⟨y, h2, e.symm⟩) nd.1
    · rcases List.mem_cons.mp hy with h2 | h2
      · rw [h2] at e
        exact absurd (List.mem_map.mpr ⟨x, h1, e⟩) nd.1
      · exact nodup_inj nd.2 x h1 y h2 e
section
variable {K : PySem.W.Frag} {h : Heap} {mg : Str → Option Value} {ds : List DefD} {G : Gt} {gls : List D} {w : World}
theorem def_of (X : K.In h) (Gm : h.Ns mainGlobals mg) (c : He.SaysX (heF ds G) (ds.map heD) [] (heT ds) (exB ds G gls) w h K) (bd : AllBd ds) (kw : AllKw ds G.kws) (ins : insG ds G = true) {k : Nat} {d : DefD} (hd : ds[k]? = some d) : ∃ f fd, DefOk K mg (mdOf ds G K) G.kws k d f fd := by
  have cd := c.t.d
  obtain ⟨fd, F⟩ := cd.defs (d := heD d) (List.mem_map.mpr ⟨d, List.mem_of_getElem? hd, rfl⟩)
  have gl := cd.facts (f := d.fa) (List.mem_append_left _ (List.mem_map.mpr ⟨d, List.mem_of_getElem? hd, rfl⟩))
  have isf : ∀ {f : He.Fa}, f ∈ insF G → f.ok K = true := fun hf => cd.facts (List.mem_append_right _ (List.mem_append_right _ hf))
  obtain ⟨oc, od, dV, kV, doc, pm, an, cdv, ct, osl, e1, lk, ci, dv, _⟩ := F.ex
  have e2 : dV = .none := dv.elim (fun z => z.2) fun z => absurd rfl z.1
  subst e2
  have e1 : fd = fdOf d kV doc pm an cdv ct := e1
  have lk : K.lookup (He.fAd K d.at_) = some ⟨oc, od, .func fd, osl⟩ := lk
  refine ⟨He.fAd K d.at_, fd, ⟨⟨oc, od, kV, doc, pm, an, cdv, ct, osl, e1, lk, ci⟩, F.kp⟩, fun hc => ?_, fun j C hc => ?_, fun s us hl => .of_eq ?_, fun m nm idx hq s us ws h1 h2 => .of_eq ?_, fun hl => ?_⟩
  · have e3 : d.fa = .glo d.x := by unfold DefD.fa; rw [hc]
    have e4 : He.fAd K d.at_ = He.ga K d.x := by unfold DefD.at_; rw [hc]; rfl
    rw [e3] at gl
    rw [e4]
    exact He.glo_ok X Gm gl
  · have e3 : d.fa = .meth C d.x := by unfold DefD.fa; rw [hc]
    have e4 : He.fAd K d.at_ = He.ma K (He.ga K C) d.x := by unfold DefD.at_; rw [hc]; rfl
    rw [e3] at gl
    rw [e4]
    simp only [insG, Bool.and_eq_true] at ins
    have i3 := List.all_eq_true.mp ins.2 d (List.mem_of_getElem? hd)
    rw [hc] at i3
    have i3 : (G.mks.map (·.2)).lookup j = some C := of_decide_eq_true i3
    refine ⟨He.ga K C, by show ((G.mks.map (·.2)).lookup j).map (He.ga K) = _; rw [i3]; rfl, He.meth_ok gl, fun hx => ?_⟩
    obtain ⟨q, hq, eq⟩ := List.mem_map.mp (lookup_of i3)
    have eC : q.2.2 = C := by rw [eq]
    subst eC
    refine ⟨He.glo_ok X Gm (isf (List.mem_flatMap.mpr ⟨q, hq, by simp⟩)), ?_⟩
    rw [hx]
    exact He.mkr_ok (isf (List.mem_flatMap.mpr ⟨q, hq, by simp⟩))
  · rw [e1]; exact bd.get hd _ _ _ _ _ _ us hl
  · rw [e1]; exact kw.get hq hd _ _ _ _ _ _ us ws h1 h2
  · have hl0 := hl
    simp only [Bool.and_eq_true, Option.isNone_iff_eq_none] at hl
    have hc := hl.2
    have e4 : d.at_ = (d.x, none) := by unfold DefD.at_; rw [hc]
    have e5 : d.qn = d.x := by unfold DefD.qn; rw [hc]
    rw [e4] at lk
    obtain ⟨cc, hcc⟩ := He.codeIn_ref ci
    have mx : d.x ∈ lams ds := List.mem_map.mpr ⟨d, List.mem_filter.mpr ⟨List.mem_of_getElem? hd, hl0⟩, rfl⟩
    have ec : He.codeOf K (d.x, none) = cc := He.codeOf_eq lk (by rw [e1]; exact hcc)
    have ex := c.more
    simp only [exB, Bool.and_eq_true, decide_eq_true_eq] at ex
    refine ⟨cc, (He.cT K (d.x, none)).2, by rw [e1]; exact hcc, ?_, List.mem_map.mpr ⟨d.x, mx, by rw [e5]⟩, fun p hp he => ?_⟩
    · refine List.mem_map.mpr ⟨d.x, mx, ?_⟩
      show (He.codeOf K (d.x, none), He.tabOf K (He.codeOf K (d.x, none))) = (cc, He.tabOf K (He.codeOf K (d.x, none)))
      rw [ec]
    · obtain ⟨y, hy, rfl⟩ := List.mem_map.mp hp
      rw [nodup_inj ex.2 y hy d.x mx he, e5]
theorem cls_of (X : K.In h) (Gm : h.Ns mainGlobals mg) (ex : exB ds G gls K = true) (nd : clsN G = true) {q : Nat × Str} (hq : q ∈ G.cls) : ClsK K mg (mdOf ds G K) q.1 q.2 := by
  simp only [exB, Bool.and_eq_true] at ex
  have cb := List.all_eq_true.mp ex.1.1.1.2 q hq
  simp only [Bool.and_eq_true, decide_eq_true_eq] at cb
  obtain ⟨⟨⟨⟨c1, c2⟩, c3⟩, c4⟩, _⟩ := cb
  exact ⟨He.ga K q.2, by show (G.cls.lookup q.1).map _ = _; rw [lookup_nd (of_decide_eq_true nd) (show (q.1, q.2) ∈ G.cls from hq)]; rfl, PySem.W.mg_of X Gm (He.eqO_ok c1), c2, c3, excB_ok c4⟩
theorem mdl_of (X : K.In h) (Gm : h.Ns mainGlobals mg) (c : He.SaysX (heF ds G) (ds.map heD) [] (heT ds) (exB ds G gls) w h K) (fns : G.fns = ds.map fun d => (d.gn, d.ps.length, d.lv)) (ck : AllCk G ds) (bd : AllBd ds) (kw : AllKw ds G.kws) (nd : clsN G = true) (td : tdsC ds G = true) (ins : insG ds G = true) :
    Mdl K mg (mdOf ds G K) ds G (fun k => gls.getD k .non) := by
  have ex := c.more
  have ex0 := ex
  simp only [exB, Bool.and_eq_true] at ex
  obtain ⟨⟨⟨⟨x1, x2⟩, x3⟩, x4⟩, x5⟩ := ex
  have no : ∀ x ∈ G.blt, mg x = none := fun x hx => He.free_ok X Gm (c.t.d.facts (f := .free x) (List.mem_append_right _ (List.mem_append_left _ (List.mem_map.mpr ⟨x, hx, rfl⟩))))
  have cls : ∀ q ∈ G.cls, ClsK K mg (mdOf ds G K) q.1 q.2 := fun q hq => cls_of X Gm ex0 nd hq
  have at_ : ∀ {k a}, (mdOf ds G K).c k = some a → ∃ x, (k, x) ∈ G.cls ∧ a = He.ga K x := fun {k a} e => by
    have e : (G.cls.lookup k).map (He.ga K) = some a := e
    cases q : G.cls.lookup k with
    | none => rw [q] at e; cases e
    | some x => rw [q] at e; cases e; exact ⟨x, lookup_of q, rfl⟩
  refine ⟨fns, fun d hd => ck.get hd, fun k d hd => def_of X Gm c bd kw ins hd, fun k x e => ?_, no, fun z => ?_, cls, fun k hk => ?_, ⟨fun k a e => ?_, fun k j a b e1 e2 => ?_⟩, fun q hq => ?_, fun k C e => ?_, fun q hq => ?_, fun q hq => ?_⟩
  · obtain ⟨u, e1, kd⟩ := conB_get x1 e
    obtain ⟨v, r, q⟩ := kdB_ok (cl := mdOf ds G K) _ _ kd
    exact ⟨v, u, PySem.W.mg_of X Gm e1, r, q⟩
  · rw [z] at x4
    exact PySem.W.mg_of X Gm (He.eqO_ok x4)
  · have z := List.all_eq_true.mp x3 k hk
    split at z
    · rename_i x q
      exact ⟨He.ga K x, by show (G.cls.lookup k).map _ = _; rw [q]; rfl, z⟩
    · cases z
  · obtain ⟨x, hx, rfl⟩ := at_ e
    obtain ⟨b, b1, _, _, _, b5⟩ := (cls _ hx).ex
    have b1 : (mdOf ds G K).c k = some b := b1
    rw [e] at b1
    cases b1
    exact b5
  · obtain ⟨x, hx, rfl⟩ := at_ e1
    obtain ⟨y, hy, rfl⟩ := at_ e2
    have cb := List.all_eq_true.mp x2 _ hx
    simp only [Bool.and_eq_true] at cb
    have cb := List.all_eq_true.mp cb.2 _ hy
    simp only [Bool.and_eq_true, decide_eq_true_eq] at cb
    exact cb
  · have z := List.all_eq_true.mp td q hq
    rw [List.any_eq_true] at z
    obtain ⟨d, hd, z⟩ := z
    simp only [Bool.and_eq_true, decide_eq_true_eq] at z
    obtain ⟨⟨⟨⟨z1, z2⟩, z3⟩, z4⟩, z5⟩ := z
    obtain ⟨k, hk⟩ := List.getElem?_of_mem hd
    obtain ⟨f, fd, DO⟩ := def_of (gls := gls) X Gm c bd kw ins hk
    have S := scB_ok z3
    have z5 : d.cls = none := Option.isNone_iff_eq_none.mp z5
    have F := DO.fn
    have e5 : d.qn = d.x := by unfold DefD.qn; rw [z5]
    rw [e5] at F
    have mgf := DO.mgf z5
    have hb := DO.bd
    rw [z1] at F mgf
    unfold tdC at z4
    split at z4
    · rename_i k1 k2 s1 s2 a e a' r p1 a2 p2 p3 p4 p5 x1' p6 e2 i p7 e3 p8 x2' p9 p10 t1 j1 p11 t2 j2 p12 p13 p14 p15 p16 et eN eP eB
      simp only [Bool.and_eq_true, decide_eq_true_eq] at z4
      obtain ⟨⟨⟨⟨⟨⟨⟨⟨⟨⟨⟨⟨⟨⟨⟨⟨⟨⟨⟨⟨⟨⟨y1, y2⟩, y3⟩, y4⟩, y5⟩, y6⟩, y7⟩, y8⟩, y9⟩, y10⟩, y11⟩, y12⟩, y13⟩, y14⟩, y15⟩, y16⟩, y17⟩, y18⟩, y19⟩, y20⟩, y21⟩, y22⟩, y23⟩ := z4
      subst y1 y2 y3 y4 y5 y6 y8 y9
      refine ⟨d.st, f, fd, d.N, a2, F, mgf, fun s us hl => ?_, by rw [← eP]; exact S, ?_⟩
      · have q := hb s us (by rw [eP]; exact hl)
        rw [eP] at q
        exact q
      · rw [et]
        exact ⟨e3, x1', x2', j1, j2, p1, p2, p3, p4, p5, p6, p7, p8, p9, p10, p11, p12, p13, p14, p15, p16, eB, eN, y7, visB_ok y10, y11, of_decide_eq_true y12, of_decide_eq_true y13, of_decide_eq_true y14, of_decide_eq_true y15, no _ (any_mem y22), no _ (any_mem y23), cls _ (cls_mem y16), cls _ (cls_mem y17),
          ⟨(nameOk_ok y18).1, (nameOk_ok y18).2.1⟩, ⟨(nameOk_ok y19).1, (nameOk_ok y19).2.1⟩, ⟨(nameOk_ok y20).1, (nameOk_ok y20).2.1⟩, ⟨(nameOk_ok y21).1, (nameOk_ok y21).2.1⟩⟩
    · cases z4
  · have e : ((G.mks.map (·.2)).lookup k).map (He.ga K) = some C := e
    cases q : (G.mks.map (·.2)).lookup k with
    | none => rw [q] at e; cases e
    | some x =>
      rw [q] at e
      cases e
      obtain ⟨r, hr, er⟩ := List.mem_map.mp (lookup_of q)
      have ex : r.2.2 = x := by rw [er]
      subst ex
      have isf : ∀ {f : He.Fa}, f ∈ insF G → f.ok K = true := fun hf => c.t.d.facts (List.mem_append_right _ (List.mem_append_right _ hf))
      exact ⟨He.cls_ok (isf (List.mem_flatMap.mpr ⟨r, hr, by simp⟩)), fun f hf => He.noat_ok (isf (List.mem_flatMap.mpr ⟨r, hr, List.mem_append_right _ (List.mem_map.mpr ⟨f, hf, rfl⟩)⟩))⟩
  · simp only [insG, Bool.and_eq_true] at ins
    have z := List.all_eq_true.mp ins.1.1 q hq
    split at z
    · rename_i d e
      split at z
      · rename_i j C hc
        simp only [Bool.and_eq_true, decide_eq_true_eq] at z
        exact ⟨d, C, e, by rw [hc, z.1], z.2⟩
      · cases z
    · cases z
  · simp only [insG, Bool.and_eq_true] at ins
    have z := List.all_eq_true.mp ins.1.2 q hq
    split at z
    · rename_i d e
      simp only [Bool.and_eq_true, decide_eq_true_eq] at z
      exact ⟨d, e, z.1, z.2⟩
    · cases z
/-- the law's module, by the hook -/
theorem law_of {k n : Nat} {d : DefD} {x : Str} (X : K.In h) (Gm : h.Ns mainGlobals mg) (c : He.SaysX (heF ds G) (ds.map heD) [] (heT ds) (exB ds G gls) w h K) (fns : G.fns = ds.map fun d => (d.gn, d.ps.length, d.lv)) (ck : AllCk G ds) (bd : AllBd ds) (kw : AllKw ds G.kws) (nd : clsN G = true) (td : tdsC ds G = true) (ins : insG ds G = true) (sm : SysOk h)
    (hd : ds[k]? = some d) (hc : d.cls = none) (hp : d.ps = [x]) (hl : d.lv ≤ 190) (pl : ∀ ns : List Int, ns.length ≤ n → ∃ h', dels ds (fun k => gls.getD k .non) (d.lv + 1) k [.fz (ns.map D.int)] [] = .ok (.bl true) h') : LawOk K mg h d.x x n := by
  have mT : ∀ p ∈ (mdOf ds G K).cs, ∃ q ∈ heT ds, p = He.cT K q := fun p hp => by
    obtain ⟨y, hy, rfl⟩ := List.mem_map.mp hp
    exact ⟨(y, none), List.mem_map.mpr ⟨y, hy, rfl⟩, rfl⟩
  refine ⟨sm, mdOf ds G K, ds, G, _, k, d, mdl_of X Gm c fns ck bd kw nd td ins, hd, rfl, hc, hp, hl, fun p hp => ?_, fun p hp => ?_, fun p hp => ?_, fun p hp => ?_, pl⟩
  · obtain ⟨q, hq, rfl⟩ := mT p hp
    exact c.empty q hq
  · obtain ⟨q, hq, rfl⟩ := mT p hp
    exact c.out q hq
  · obtain ⟨q, hq, rfl⟩ := mT p hp
    exact PySem.W.codeHd_of_K X (c.hd q hq)
  · obtain ⟨y, hy, rfl⟩ := List.mem_map.mp hp
    exact List.mem_map.mpr ⟨_, List.mem_map.mpr ⟨y, hy, rfl⟩, rfl⟩
end
/-! ### the hook: He.hookX, and sys.modules is a dict -/
def smB (g : Addr → Option Obj) : Bool := match g sysModules with
  | some ⟨_, _, .dict _ _, _⟩ => true
  | _ => false
theorem smB_ok {h : Heap} (e : smB h.get? = true) : SysOk h := by
  unfold smB at e
  split at e
  · rename_i c d es n sl q
    exact ⟨_, es, n, q, rfl⟩
  · cases e
def obsY (n : Nat) (fa : List He.Fa) (fn : List He.DefD) (ts : List He.Tab) (tf : List He.Defn) (ex : PySem.W.Frag → Bool) (g : Addr → Option Obj) : He.AlX × Bool := (He.obsX n fa fn ts tf ex g, smB g)
def hookY (n : Nat) (fa : List He.Fa) (fn : List He.DefD) (ts : List He.Tab) (tf : List He.Defn) (ex : PySem.W.Frag → Bool) : PySem.W.Hook where
  α := He.AlX × Bool
  obs := fun s => obsY n fa fn ts tf ex s.heap.get?
  val := fun w => (He.valX fn ts w, true)
  says := fun w h => (∃ K : PySem.W.Frag, K.In h ∧ He.SaysX fa fn ts tf ex w h K) ∧ SysOk h
  of := fun w s e => ⟨⟨_, He.frT_in, He.saysX_of (congrArg (fun z : He.AlX × Bool => z.1) e)⟩, smB_ok (congrArg (fun z : He.AlX × Bool => z.2) e)⟩
  keeps := fun w h h' x k => ⟨(He.hookX n fa fn ts tf ex).keeps w h h' x.1 k, let ⟨o, es, m, e1, e2⟩ := x.2; ⟨o, es, m, k _ _ e1, e2⟩⟩
theorem obsY_eq {n : Nat} {fa : List He.Fa} {fn : List He.DefD} {ts : List He.Tab} {tf : List He.Defn} {ex : PySem.W.Frag → Bool} {g : Addr → Option Obj} {s : Shared} (h : ∀ a, g a = s.heap.get? a) : obsY n fa fn ts tf ex g = (hookY n fa fn ts tf ex).obs s := by
  have e : g = s.heap.get? := funext h
  rw [e] <;> rfl
end HS

namespace K02
open PySem HS
def top (i : Nat) : Stmt := PySem.Challenge.pw_homesteps_k02_whole_numbers_told_of_anyt.main.body.getD i (.Pass ⟨0, 0, 0, 0⟩)
def mtop (i j : Nat) : Stmt := match top i with
  | .ClassDef _ _ _ body _ _ _ _ _ _ _ => body.getD j (.Pass ⟨0, 0, 0, 0⟩)
  | s => s
def b_is_whole : Ss :=
  (.cons (.ret (.and (.isi (.var 0) (.b "int")) (.not (.isi (.var 0) (.b "bool"))))) .nil)
def d_is_whole : DefD := ⟨"is_whole", top 2, ["value"], ["value"], 0, ⟨1, 1, b_is_whole⟩, false, none⟩
def b_are_wholes : Ss :=
  (.cons (.ret (.and (.isi (.var 0) (.b "tuple")) (.and (.cmp .Eq (.blt .len (.cons (.var 0) .nil)) (.var 1)) (.blt .all (.cons (.lc (.call 0 (.cons (.var 2) .nil)) (.nm 2) (.pln (.var 0)) .no [2]) .nil))))) .nil)
def d_are_wholes : DefD := ⟨"are_wholes", top 3, ["value", "many", "number"], ["value", "many"], 1, ⟨2, 3, b_are_wholes⟩, false, none⟩
def b_divisor_of : Ss :=
  (.cons (.asg (.nm 1) (.int 0)) 
  (.cons (.fr (.nm 2) (.pln (.var 0)) (
    (.cons (.asg (.nm 1) (.blt .gcd (.cons (.var 1) (.cons (.var 2) .nil)))) .nil))) 
  (.cons (.ret (.var 1)) .nil)))
def d_divisor_of : DefD := ⟨"divisor_of", top 4, ["numbers", "found", "number"], ["numbers"], 0, ⟨1, 3, b_divisor_of⟩, false, none⟩
def b_is_reduced : Ss :=
  (.cons (.ret (.cmp .Eq (.call 2 (.cons (.var 0) .nil)) (.int 1))) .nil)
def d_is_reduced : DefD := ⟨"is_reduced", top 5, ["numbers"], ["numbers"], 1, ⟨1, 1, b_is_reduced⟩, false, none⟩
def b_is_ratio : Ss :=
  (.cons (.ret (.and (.call 1 (.cons (.var 0) (.cons (.int 2) .nil))) (.and (.cmp .Gt (.idx (.var 0) (.int 1)) (.int 0)) (.call 3 (.cons (.var 0) .nil))))) .nil)
def d_is_ratio : DefD := ⟨"is_ratio", top 8, ["value"], ["value"], 2, ⟨1, 1, b_is_ratio⟩, false, none⟩
def b_are_ratios : Ss :=
  (.cons (.ret (.and (.isi (.var 0) (.b "tuple")) (.blt .all (.cons (.lc (.call 4 (.cons (.var 1) .nil)) (.nm 1) (.pln (.var 0)) .no [1]) .nil)))) .nil)
def d_are_ratios : DefD := ⟨"are_ratios", top 11, ["value", "number"], ["value"], 3, ⟨1, 2, b_are_ratios⟩, false, none⟩
def b_is_parts : Ss :=
  (.cons (.ret (.and (.call 5 (.cons (.var 0) .nil)) (.and (.cmp .LtE (.blt .len (.cons (.var 0) .nil)) (.glb 1)) (.or (.cmp .Eq (.var 0) (.tup .nil)) (.cmp .NotEq (.idx (.var 0) (.neg (.int 1))) (.glb 0)))))) .nil)
def d_is_parts : DefD := ⟨"is_parts", top 12, ["value"], ["value"], 4, ⟨1, 1, b_is_parts⟩, false, none⟩
def b_is_from_nought : Ss :=
  (.cons (.ret (.and (.call 4 (.cons (.var 0) .nil)) (.cmp .GtE (.idx (.var 0) (.int 0)) (.int 0)))) .nil)
def d_is_from_nought : DefD := ⟨"is_from_nought", top 15, ["value"], ["value"], 3, ⟨1, 1, b_is_from_nought⟩, false, none⟩
def b_are_bounds : Ss :=
  (.cons (.ife (.or (.not (.isi (.var 0) (.b "tuple"))) (.or (.cmp .NotEq (.blt .len (.cons (.var 0) .nil)) (.int 2)) (.or (.not (.call 7 (.cons (.idx (.var 0) (.int 0)) .nil))) (.not (.call 5 (.cons (.idx (.var 0) (.int 1)) .nil)))))) (
    (.cons (.ret (.bl false)) .nil)) (.nil)) 
  (.cons (.ife (.or (.cmp .GtE (.blt .len (.cons (.idx (.var 0) (.int 1)) .nil)) (.glb 2)) (.not (.blt .all (.cons (.lc (.cmp .GtE (.idx (.var 1) (.int 0)) (.int 0)) (.nm 1) (.pln (.idx (.var 0) (.int 1))) .no [1]) .nil)))) (
    (.cons (.ret (.bl false)) .nil)) (.nil)) 
  (.cons (.ret (.or (.cmp .Eq (.idx (.var 0) (.int 1)) (.tup .nil)) (.cmp .NotEq (.idx (.idx (.var 0) (.int 1)) (.neg (.int 1))) (.glb 0)))) .nil)))
def d_are_bounds : DefD := ⟨"are_bounds", top 16, ["value", "number"], ["value"], 4, ⟨1, 2, b_are_bounds⟩, false, none⟩
def b_is_pair : Ss :=
  (.cons (.ret (.and (.isi (.var 0) (.b "tuple")) (.and (.cmp .Eq (.blt .len (.cons (.var 0) .nil)) (.int 2)) (.and (.call 4 (.cons (.idx (.var 0) (.int 0)) .nil)) (.call 4 (.cons (.idx (.var 0) (.int 1)) .nil)))))) .nil)
def d_is_pair : DefD := ⟨"is_pair", top 18, ["value"], ["value"], 3, ⟨1, 1, b_is_pair⟩, false, none⟩
def b_is_bounds : Ss :=
  (.cons (.ret (.call 8 (.cons (.var 0) .nil))) .nil)
def d_is_bounds : DefD := ⟨"is_bounds", top 20, ["value"], ["value"], 5, ⟨1, 1, b_is_bounds⟩, false, none⟩
def b_is_fraction : Ss :=
  (.cons (.ret (.call 4 (.cons (.var 0) .nil))) .nil)
def d_is_fraction : DefD := ⟨"is_fraction", top 22, ["value"], ["value"], 3, ⟨1, 1, b_is_fraction⟩, false, none⟩
def b_is_point : Ss :=
  (.cons (.ret (.call 9 (.cons (.var 0) .nil))) .nil)
def d_is_point : DefD := ⟨"is_point", top 23, ["value"], ["value"], 4, ⟨1, 1, b_is_point⟩, false, none⟩
def b_is_polynomial : Ss :=
  (.cons (.ret (.call 6 (.cons (.var 0) .nil))) .nil)
def d_is_polynomial : DefD := ⟨"is_polynomial", top 24, ["value"], ["value"], 5, ⟨1, 1, b_is_polynomial⟩, false, none⟩
def b_law_sack : Ss :=
  (.cons (.asg (.tup (.cons (.nm 2) (.cons (.nm 3) .nil))) (.tup (.cons (.bin .add (.int 70001) (.bin .mul (.int 5003) (.var 1))) (.cons (.bin .add (.int 40009) (.bin .mul (.int 7) (.var 1))) .nil)))) 
  (.cons (.fr (.nm 4) (.pln (.slc (.var 0) .no (.so (.int 12)))) (
    (.cons (.asg (.nm 2) (.bin .mod (.blt .int (.cons (.bin .add (.bin .add (.bin .mul (.var 2) (.int 48611)) (.blt .int (.cons (.var 4) .nil))) (.int 29)) .nil)) (.int 2147483587))) 
    (.cons (.asg (.nm 3) (.bin .mod (.blt .int (.cons (.bin .add (.bin .add (.bin .mul (.var 3) (.int 30011)) (.bin .mod (.blt .int (.cons (.var 4) .nil)) (.int 1999999973))) (.bin .fdiv (.var 2) (.int 16))) .nil)) (.int 1999999973))) .nil)))) 
  (.cons (.asg (.nm 5) (.ife (.cmp .Lt (.var 1) (.blt .len (.cons (.var 0) .nil))) (.blt .abs (.cons (.blt .int (.cons (.idx (.var 0) (.var 1)) .nil)) .nil)) (.int 0))) 
  (.cons (.ret (.lst (.cons (.ife (.cmp .GtE (.var 5) (.bin .pow (.int 10) (.int 18))) (.var 5) (.int 0)) (.cons (.bin .mod (.blt .int (.cons (.bin .add (.var 2) (.bin .mul (.bin .mod (.blt .int (.cons (.var 5) .nil)) (.int 2147483587)) (.int 6911))) .nil)) (.int 2147483587)) (.cons (.var 3) .nil))))) .nil))))
def d_law_sack : DefD := ⟨"_law_sack", top 26, ["script", "turn", "blend", "other", "cell", "own"], ["script", "turn"], 0, ⟨2, 6, b_law_sack⟩, false, none⟩
def b_law_pull : Ss :=
  (.cons (.ife (.cmp .Gt (.idx (.var 0) (.int 0)) (.int 0)) (
    (.cons (.asg (.tup (.cons (.sub (.var 0) (.int 0)) (.cons (.nm 2) .nil))) (.blt .divmod (.cons (.idx (.var 0) (.int 0)) (.cons (.var 1) .nil)))) 
    (.cons (.ret (.var 2)) .nil))) (.nil)) 
  (.cons (.asg (.sub (.var 0) (.int 2)) (.bin .mod (.blt .int (.cons (.bin .add (.bin .mul (.idx (.var 0) (.int 2)) (.int 69069)) (.int 7)) .nil)) (.int 1999999973))) 
  (.cons (.asg (.sub (.var 0) (.int 1)) (.bin .mod (.blt .int (.cons (.bin .add (.bin .add (.bin .mul (.idx (.var 0) (.int 1)) (.int 40503)) (.bin .fdiv (.idx (.var 0) (.int 2)) (.int 8))) (.int 1)) .nil)) (.int 2147483587))) 
  (.cons (.ret (.bin .mod (.blt .int (.cons (.bin .add (.bin .fdiv (.idx (.var 0) (.int 1)) (.int 64)) (.bin .fdiv (.idx (.var 0) (.int 2)) (.int 128))) .nil)) (.var 1))) .nil))))
def d_law_pull : DefD := ⟨"_law_pull", top 27, ["sack", "many", "digit"], ["sack", "many"], 0, ⟨2, 3, b_law_pull⟩, false, none⟩
def b_law_pick : Ss :=
  (.cons (.ret (.idx (.var 1) (.call 15 (.cons (.var 0) (.cons (.blt .len (.cons (.var 1) .nil)) .nil))))) .nil)
def d_law_pick : DefD := ⟨"_law_pick", top 28, ["sack", "some"], ["sack", "some"], 1, ⟨2, 2, b_law_pick⟩, false, none⟩
def b_law_f : Ss :=
  (.cons (.ife (.cmp .Lt (.var 1) (.int 0)) (
    (.cons (.asg (.tup (.cons (.nm 0) (.cons (.nm 1) .nil))) (.tup (.cons (.neg (.var 0)) (.cons (.neg (.var 1)) .nil)))) .nil)) (.nil)) 
  (.cons (.asg (.tup (.cons (.nm 2) (.cons (.nm 3) .nil))) (.tup (.cons (.blt .abs (.cons (.var 0) .nil)) (.cons (.var 1) .nil)))) 
  (.cons (.whl (.cmp .Gt (.var 3) (.int 0)) (
    (.cons (.asg (.tup (.cons (.nm 2) (.cons (.nm 3) .nil))) (.tup (.cons (.var 3) (.cons (.bin .mod (.blt .int (.cons (.var 2) .nil)) (.var 3)) .nil)))) .nil))) 
  (.cons (.ret (.tup (.cons (.bin .fdiv (.var 0) (.var 2)) (.cons (.bin .fdiv (.var 1) (.var 2)) .nil)))) .nil))))
def d_law_f : DefD := ⟨"_law_f", top 29, ["upper", "lower", "one", "two"], ["upper", "lower"], 0, ⟨2, 4, b_law_f⟩, false, none⟩
def b_law_is_fraction : Ss :=
  (.cons (.ife (.or (.not (.isi (.var 0) (.b "tuple"))) (.cmp .NotEq (.blt .len (.cons (.var 0) .nil)) (.int 2))) (
    (.cons (.ret (.bl false)) .nil)) (.nil)) 
  (.cons (.ife (.cmp .NotEq (.lc (.var 1) (.nm 1) (.pln (.var 0)) (.so (.or (.not (.isi (.var 1) (.b "int"))) (.isi (.var 1) (.b "bool")))) [1]) (.lst .nil)) (
    (.cons (.ret (.bl false)) .nil)) (.nil)) 
  (.cons (.ret (.and (.cmp .Gt (.idx (.var 0) (.int 1)) (.int 0)) (.cmp .Eq (.call 17 (.cons (.idx (.var 0) (.int 0)) (.cons (.idx (.var 0) (.int 1)) .nil))) (.var 0)))) .nil)))
def d_law_is_fraction : DefD := ⟨"_law_is_fraction", top 30, ["value", "each"], ["value"], 1, ⟨1, 2, b_law_is_fraction⟩, false, none⟩
def b_law_odd : Ss :=
  (.cons (.asg (.nm 1) (.lst (.cons .non (.cons (.bl true) (.cons (.bl false) (.cons (.int 0) (.cons (.int 3) (.cons (.neg (.int 1)) (.cons (.str "") (.cons (.str "x") (.cons (.str "1/2") (.cons (.tup .nil) (.cons (.tup (.cons (.int 0) .nil)) (.cons (.tup (.cons (.int 2) (.cons (.int 4) .nil))) (.cons (.tup (.cons (.int 1) (.cons (.int 0) .nil))) (.cons (.tup (.cons (.int 0) (.cons (.int 2) .nil))) (.cons (.tup (.cons (.int 1) (.cons (.neg (.int 2)) .nil))) (.cons (.lst (.cons (.int 0) (.cons (.int 1) .nil))) (.cons (.tup (.cons (.int 1) (.cons (.int 2) (.cons (.int 3) .nil)))) (.cons .dic0 (.cons (.tup (.cons (.tup (.cons (.int 0) (.cons (.int 1) .nil))) .nil)) .nil))))))))))))))))))))) 
  (.cons (.ret (.call 16 (.cons (.var 0) (.cons (.bin .add (.var 1) (.lst (.cons (.tup (.cons (.bl true) (.cons (.int 1) .nil))) (.cons (.tup (.cons (.int 1) (.cons (.bl true) .nil))) (.cons (.tup (.cons .non (.cons (.int 1) .nil))) (.cons (.tup (.cons (.tup (.cons (.int 1) (.cons (.int 1) .nil))) (.cons (.tup (.cons (.int 1) (.cons (.int 1) .nil))) (.cons (.tup (.cons (.int 1) (.cons (.int 1) .nil))) .nil)))) (.cons (.tup (.cons (.tup (.cons (.int 0) (.cons (.int 1) .nil))) (.cons (.tup (.cons (.int 1) (.cons (.int 1) .nil))) .nil))) (.cons (.tup (.cons (.bin .pow (.int 10) (.int 30)) (.cons (.int 7) .nil))) .nil)))))))) .nil)))) .nil))
def d_law_odd : DefD := ⟨"_law_odd", top 31, ["sack", "some"], ["sack"], 2, ⟨1, 2, b_law_odd⟩, false, none⟩
def b_law_number : Ss :=
  (.cons (.asg (.nm 1) (.call 17 (.cons (.bin .sub (.call 15 (.cons (.var 0) (.cons (.int 13) .nil))) (.int 5)) (.cons (.bin .add (.int 1) (.call 15 (.cons (.var 0) (.cons (.int 6) .nil)))) .nil)))) 
  (.cons (.ife (.cmp .Gt (.call 15 (.cons (.var 0) (.cons (.int 9) .nil))) (.int 0)) (
    (.cons (.ret (.var 1)) .nil)) (.nil)) 
  (.cons (.ret (.call 16 (.cons (.var 0) (.cons (.lst (.cons (.tup (.cons (.bin .mul (.int 2) (.idx (.var 1) (.int 0))) (.cons (.bin .mul (.int 2) (.idx (.var 1) (.int 1))) .nil))) (.cons (.tup (.cons (.idx (.var 1) (.int 0)) (.cons (.neg (.idx (.var 1) (.int 1))) .nil))) (.cons (.blt .list (.cons (.var 1) .nil)) (.cons (.bin .add (.var 1) (.tup (.cons (.int 1) .nil))) (.cons (.slc (.var 1) .no (.so (.int 1))) (.cons (.tup (.cons (.idx (.var 1) (.int 0)) (.cons (.bl true) .nil))) (.cons (.idx (.var 1) (.int 0)) (.cons (.call 19 (.cons (.var 0) .nil)) .nil))))))))) .nil)))) .nil)))
def d_law_number : DefD := ⟨"_law_number", top 32, ["sack", "one"], ["sack"], 3, ⟨1, 2, b_law_number⟩, false, none⟩
def b_law_row : Ss :=
  (.cons (.asg (.nm 2) (.blt .tuple (.cons (.lc (.call 20 (.cons (.var 0) .nil)) (.nm 3) (.rng (.cons (.var 1) .nil)) .no [3]) .nil))) 
  (.cons (.asg (.nm 4) (.call 15 (.cons (.var 0) (.cons (.int 10) .nil)))) 
  (.cons (.ife (.cmp .Eq (.var 4) (.int 0)) (
    (.cons (.ret (.blt .list (.cons (.var 2) .nil))) .nil)) (.nil)) 
  (.cons (.ret (.ife (.cmp .Eq (.var 4) (.int 1)) (.bin .add (.var 2) (.tup (.cons (.tup (.cons (.int 0) (.cons (.int 1) .nil))) .nil))) (.var 2))) .nil))))
def d_law_row : DefD := ⟨"_law_row", top 33, ["sack", "many", "row", "each", "way"], ["sack", "many"], 4, ⟨2, 5, b_law_row⟩, false, none⟩
def b_law_are_fractions : Ss :=
  (.cons (.ret (.and (.isi (.var 0) (.b "tuple")) (.cmp .Eq (.lc (.var 1) (.nm 1) (.pln (.var 0)) (.so (.not (.call 18 (.cons (.var 1) .nil)))) [1]) (.lst .nil)))) .nil)
def d_law_are_fractions : DefD := ⟨"_law_are_fractions", top 34, ["value", "each"], ["value"], 2, ⟨1, 2, b_law_are_fractions⟩, false, none⟩
def b_law_is_poly : Ss :=
  (.cons (.ret (.and (.call 22 (.cons (.var 0) .nil)) (.and (.cmp .LtE (.blt .len (.cons (.var 0) .nil)) (.int 9)) (.or (.cmp .Eq (.var 0) (.tup .nil)) (.cmp .NotEq (.idx (.idx (.var 0) (.neg (.int 1))) (.int 0)) (.int 0)))))) .nil)
def d_law_is_poly : DefD := ⟨"_law_is_poly", top 35, ["value"], ["value"], 3, ⟨1, 1, b_law_is_poly⟩, false, none⟩
def b_law_is_pair : Ss :=
  (.cons (.ife (.or (.not (.isi (.var 0) (.b "tuple"))) (.or (.cmp .NotEq (.blt .len (.cons (.var 0) .nil)) (.int 2)) (.or (.not (.call 18 (.cons (.idx (.var 0) (.int 0)) .nil))) (.cmp .Lt (.idx (.idx (.var 0) (.int 0)) (.int 0)) (.int 0))))) (
    (.cons (.ret (.bl false)) .nil)) (.nil)) 
  (.cons (.ife (.or (.not (.call 22 (.cons (.idx (.var 0) (.int 1)) .nil))) (.or (.cmp .Gt (.blt .len (.cons (.idx (.var 0) (.int 1)) .nil)) (.int 7)) (.cmp .NotEq (.lc (.var 1) (.nm 1) (.pln (.idx (.var 0) (.int 1))) (.so (.cmp .Lt (.idx (.var 1) (.int 0)) (.int 0))) [1]) (.lst .nil)))) (
    (.cons (.ret (.bl false)) .nil)) (.nil)) 
  (.cons (.ret (.or (.cmp .Eq (.idx (.var 0) (.int 1)) (.tup .nil)) (.cmp .Gt (.idx (.idx (.idx (.var 0) (.int 1)) (.neg (.int 1))) (.int 0)) (.int 0)))) .nil)))
def d_law_is_pair : DefD := ⟨"_law_is_pair", top 36, ["value", "each"], ["value"], 3, ⟨1, 2, b_law_is_pair⟩, false, none⟩
def b_law_thing : Ss :=
  (.cons (.asg (.nm 1) (.call 15 (.cons (.var 0) (.cons (.int 6) .nil)))) 
  (.cons (.ife (.cmp .Eq (.var 1) (.int 0)) (
    (.cons (.ret (.call 19 (.cons (.var 0) .nil))) .nil)) (.nil)) 
  (.cons (.ife (.cmp .Eq (.var 1) (.int 1)) (
    (.cons (.ret (.call 20 (.cons (.var 0) .nil))) .nil)) (.nil)) 
  (.cons (.ife (.cmp .Eq (.var 1) (.int 2)) (
    (.cons (.ret (.call 21 (.cons (.var 0) (.cons (.int 2) .nil)))) .nil)) (.nil)) 
  (.cons (.ife (.cmp .Eq (.var 1) (.int 3)) (
    (.cons (.ret (.call 21 (.cons (.var 0) (.cons (.call 15 (.cons (.var 0) (.cons (.int 11) .nil))) .nil)))) .nil)) (.nil)) 
  (.cons (.asg (.nm 2) (.call 21 (.cons (.var 0) (.cons (.call 15 (.cons (.var 0) (.cons (.int 9) .nil))) .nil)))) 
  (.cons (.ife (.and (.call 22 (.cons (.var 2) .nil)) (.cmp .Gt (.call 15 (.cons (.var 0) (.cons (.int 4) .nil))) (.int 0))) (
    (.cons (.asg (.nm 2) (.blt .tuple (.cons (.lc (.tup (.cons (.blt .abs (.cons (.idx (.var 3) (.int 0)) .nil)) (.cons (.idx (.var 3) (.int 1)) .nil))) (.nm 3) (.pln (.var 2)) .no [3]) .nil))) .nil)) (.nil)) 
  (.cons (.asg (.nm 4) (.call 20 (.cons (.var 0) .nil))) 
  (.cons (.asg (.nm 4) (.ife (.and (.call 18 (.cons (.var 4) .nil)) (.cmp .Gt (.call 15 (.cons (.var 0) (.cons (.int 5) .nil))) (.int 0))) (.tup (.cons (.blt .abs (.cons (.idx (.var 4) (.int 0)) .nil)) (.cons (.idx (.var 4) (.int 1)) .nil))) (.var 4))) 
  (.cons (.ret (.call 16 (.cons (.var 0) (.cons (.lst (.cons (.tup (.cons (.var 4) (.cons (.var 2) .nil))) (.cons (.tup (.cons (.var 4) (.cons (.var 2) .nil))) (.cons (.tup (.cons (.var 4) (.cons (.var 2) .nil))) (.cons (.lst (.cons (.var 4) (.cons (.var 2) .nil))) (.cons (.tup (.cons (.var 4) .nil)) (.cons (.tup (.cons (.var 4) (.cons (.var 2) (.cons (.var 2) .nil)))) (.cons (.tup (.cons (.var 2) (.cons (.var 4) .nil))) .nil)))))))) .nil)))) .nil))))))))))
def d_law_thing : DefD := ⟨"_law_thing", top 37, ["sack", "way", "cs", "each", "first"], ["sack"], 5, ⟨1, 5, b_law_thing⟩, false, none⟩
def b_law_right : Ss :=
  (.cons (.asg (.nm 1) (.call 25 (.cons (.var 0) .nil))) 
  (.cons (.asg (.nm 2) (.blt .repr (.cons (.var 1) .nil))) 
  (.cons (.asg (.nm 3) (.and (.isi (.var 1) (.b "tuple")) (.and (.cmp .Eq (.blt .len (.cons (.var 1) .nil)) (.int 2)) (.call 22 (.cons (.var 1) .nil))))) 
  (.cons (.asg (.nm 4) (.lst (.cons (.call 18 (.cons (.var 1) .nil)) (.cons (.var 3) (.cons (.call 23 (.cons (.var 1) .nil)) (.cons (.call 24 (.cons (.var 1) .nil)) .nil)))))) 
  (.cons (.asg (.nm 5) (.lst (.cons (.call 11 (.cons (.var 1) .nil)) (.cons (.call 12 (.cons (.var 1) .nil)) (.cons (.call 13 (.cons (.var 1) .nil)) (.cons (.call 10 (.cons (.var 1) .nil)) .nil)))))) 
  (.cons (.asg (.nm 6) (.lst (.cons (.callk 11 .nil [0] (.cons (.var 1) .nil)) (.cons (.callk 12 .nil [0] (.cons (.var 1) .nil)) (.cons (.callk 13 .nil [0] (.cons (.var 1) .nil)) (.cons (.callk 10 .nil [0] (.cons (.var 1) .nil)) .nil)))))) 
  (.cons (.ret (.and (.cmp .Eq (.blt .repr (.cons (.lst (.cons (.var 5) (.cons (.var 6) .nil))) .nil)) (.blt .repr (.cons (.lst (.cons (.var 4) (.cons (.var 4) .nil))) .nil))) (.cmp .Eq (.blt .repr (.cons (.var 1) .nil)) (.var 2)))) .nil)))))))
def d_law_right : DefD := ⟨"_law_right", top 38, ["sack", "thing", "was", "is_spot", "due", "told", "named"], ["sack"], 6, ⟨1, 7, b_law_right⟩, false, none⟩
def b_law : Ss :=
  (.cons (.ret (.blt .all (.cons (.lc (.call 26 (.cons (.call 14 (.cons (.var 0) (.cons (.var 1) .nil))) .nil)) (.nm 1) (.rng (.cons (.blt .max (.cons (.int 8) (.cons (.blt .min (.cons (.blt .len (.cons (.var 0) .nil)) (.cons (.int 16) .nil))) .nil))) .nil)) .no [1]) .nil))) .nil)
def d_law : DefD := ⟨"law", top 39, ["script", "turn"], ["script"], 7, ⟨1, 2, b_law⟩, false, none⟩
def ds : List DefD := [d_is_whole, d_are_wholes, d_divisor_of, d_is_reduced, d_is_ratio, d_are_ratios, d_is_parts, d_is_from_nought, d_are_bounds, d_is_pair, d_is_bounds, d_is_fraction, d_is_point, d_is_polynomial, d_law_sack, d_law_pull, d_law_pick, d_law_f, d_law_is_fraction, d_law_odd, d_law_number, d_law_row, d_law_are_fractions, d_law_is_poly, d_law_is_pair, d_law_thing, d_law_right, d_law]
def G : Gt := ⟨[(("is_whole" : Str), 1, 0), (("are_wholes" : Str), 2, 1), (("divisor_of" : Str), 1, 0), (("is_reduced" : Str), 1, 1), (("is_ratio" : Str), 1, 2), (("are_ratios" : Str), 1, 3), (("is_parts" : Str), 1, 4), (("is_from_nought" : Str), 1, 3), (("are_bounds" : Str), 1, 4), (("is_pair" : Str), 1, 3), (("is_bounds" : Str), 1, 5), (("is_fraction" : Str), 1, 3), (("is_point" : Str), 1, 4), (("is_polynomial" : Str), 1, 5), (("_law_sack" : Str), 2, 0), (("_law_pull" : Str), 2, 0), (("_law_pick" : Str), 2, 1), (("_law_f" : Str), 2, 0), (("_law_is_fraction" : Str), 1, 1), (("_law_odd" : Str), 1, 2), (("_law_number" : Str), 1, 3), (("_law_row" : Str), 2, 4), (("_law_are_fractions" : Str), 1, 2), (("_law_is_poly" : Str), 1, 3), (("_law_is_pair" : Str), 1, 3), (("_law_thing" : Str), 1, 5), (("_law_right" : Str), 1, 6), (("law" : Str), 1, 7)], [(11, 0, ["value"], [0]), (12, 0, ["value"], [0]), (13, 0, ["value"], [0]), (10, 0, ["value"], [0])], ["ZERO", "MOST_PARTS", "MOST_POWER"], ["isinstance", "bool", "int", "all", "len", "tuple", "abs", "divmod", "list", "range", "repr", "max", "min"], true, [], [], [], [], [], []⟩
def gls : List D := [(.tup [(.int 0), (.int 1)]), (.int 9), (.int 8)]
def gl (k : Nat) : D := gls.getD k .non
theorem ck_is_whole : ckD G d_is_whole = true := by decide +kernel
theorem ck_are_wholes : ckD G d_are_wholes = true := by decide +kernel
theorem ck_divisor_of : ckD G d_divisor_of = true := by decide +kernel
theorem ck_is_reduced : ckD G d_is_reduced = true := by decide +kernel
theorem ck_is_ratio : ckD G d_is_ratio = true := by decide +kernel
theorem ck_are_ratios : ckD G d_are_ratios = true := by decide +kernel
theorem ck_is_parts : ckD G d_is_parts = true := by decide +kernel
theorem ck_is_from_nought : ckD G d_is_from_nought = true := by decide +kernel
theorem ck_are_bounds : ckD G d_are_bounds = true := by decide +kernel
theorem ck_is_pair : ckD G d_is_pair = true := by decide +kernel
theorem ck_is_bounds : ckD G d_is_bounds = true := by decide +kernel
theorem ck_is_fraction : ckD G d_is_fraction = true := by decide +kernel
theorem ck_is_point : ckD G d_is_point = true := by decide +kernel
theorem ck_is_polynomial : ckD G d_is_polynomial = true := by decide +kernel
theorem ck_law_sack : ckD G d_law_sack = true := by decide +kernel
theorem ck_law_pull : ckD G d_law_pull = true := by decide +kernel
theorem ck_law_pick : ckD G d_law_pick = true := by decide +kernel
theorem ck_law_f : ckD G d_law_f = true := by decide +kernel
theorem ck_law_is_fraction : ckD G d_law_is_fraction = true := by decide +kernel
theorem ck_law_odd : ckD G d_law_odd = true := by decide +kernel
theorem ck_law_number : ckD G d_law_number = true := by decide +kernel
theorem ck_law_row : ckD G d_law_row = true := by decide +kernel
theorem ck_law_are_fractions : ckD G d_law_are_fractions = true := by decide +kernel
theorem ck_law_is_poly : ckD G d_law_is_poly = true := by decide +kernel
theorem ck_law_is_pair : ckD G d_law_is_pair = true := by decide +kernel
theorem ck_law_thing : ckD G d_law_thing = true := by decide +kernel
theorem ck_law_right : ckD G d_law_right = true := by decide +kernel
theorem ck_law : ckD G d_law = true := by decide +kernel
theorem bd_is_whole : BdOk d_is_whole := fun _ _ _ _ _ _ us hl => match us, hl with | [_], _ => rfl
theorem bd_are_wholes : BdOk d_are_wholes := fun _ _ _ _ _ _ us hl => match us, hl with | [_, _], _ => rfl
theorem bd_divisor_of : BdOk d_divisor_of := fun _ _ _ _ _ _ us hl => match us, hl with | [_], _ => rfl
theorem bd_is_reduced : BdOk d_is_reduced := fun _ _ _ _ _ _ us hl => match us, hl with | [_], _ => rfl
theorem bd_is_ratio : BdOk d_is_ratio := fun _ _ _ _ _ _ us hl => match us, hl with | [_], _ => rfl
theorem bd_are_ratios : BdOk d_are_ratios := fun _ _ _ _ _ _ us hl => match us, hl with | [_], _ => rfl
theorem bd_is_parts : BdOk d_is_parts := fun _ _ _ _ _ _ us hl => match us, hl with | [_], _ => rfl
theorem bd_is_from_nought : BdOk d_is_from_nought := fun _ _ _ _ _ _ us hl => match us, hl with | [_], _ => rfl
theorem bd_are_bounds : BdOk d_are_bounds := fun _ _ _ _ _ _ us hl => match us, hl with | [_], _ => rfl
theorem bd_is_pair : BdOk d_is_pair := fun _ _ _ _ _ _ us hl => match us, hl with | [_], _ => rfl
theorem bd_is_bounds : BdOk d_is_bounds := fun _ _ _ _ _ _ us hl => match us, hl with | [_], _ => rfl
theorem bd_is_fraction : BdOk d_is_fraction := fun _ _ _ _ _ _ us hl => match us, hl with | [_], _ => rfl
theorem bd_is_point : BdOk d_is_point := fun _ _ _ _ _ _ us hl => match us, hl with | [_], _ => rfl
theorem bd_is_polynomial : BdOk d_is_polynomial := fun _ _ _ _ _ _ us hl => match us, hl with | [_], _ => rfl
theorem bd_law_sack : BdOk d_law_sack := fun _ _ _ _ _ _ us hl => match us, hl with | [_, _], _ => rfl
theorem bd_law_pull : BdOk d_law_pull := fun _ _ _ _ _ _ us hl => match us, hl with | [_, _], _ => rfl
theorem bd_law_pick : BdOk d_law_pick := fun _ _ _ _ _ _ us hl => match us, hl with | [_, _], _ => rfl
theorem bd_law_f : BdOk d_law_f := fun _ _ _ _ _ _ us hl => match us, hl with | [_, _], _ => rfl
theorem bd_law_is_fraction : BdOk d_law_is_fraction := fun _ _ _ _ _ _ us hl => match us, hl with | [_], _ => rfl
theorem bd_law_odd : BdOk d_law_odd := fun _ _ _ _ _ _ us hl => match us, hl with | [_], _ => rfl
theorem bd_law_number : BdOk d_law_number := fun _ _ _ _ _ _ us hl => match us, hl with | [_], _ => rfl
theorem bd_law_row : BdOk d_law_row := fun _ _ _ _ _ _ us hl => match us, hl with | [_, _], _ => rfl
theorem bd_law_are_fractions : BdOk d_law_are_fractions := fun _ _ _ _ _ _ us hl => match us, hl with | [_], _ => rfl
theorem bd_law_is_poly : BdOk d_law_is_poly := fun _ _ _ _ _ _ us hl => match us, hl with | [_], _ => rfl
theorem bd_law_is_pair : BdOk d_law_is_pair := fun _ _ _ _ _ _ us hl => match us, hl with | [_], _ => rfl
theorem bd_law_thing : BdOk d_law_thing := fun _ _ _ _ _ _ us hl => match us, hl with | [_], _ => rfl
theorem bd_law_right : BdOk d_law_right := fun _ _ _ _ _ _ us hl => match us, hl with | [_], _ => rfl
theorem bd_law : BdOk d_law := fun _ _ _ _ _ _ us hl => match us, hl with | [_], _ => rfl
theorem kw_0 : KwD d_is_fraction 0 ["value"] [0] := fun _ _ _ _ _ _ us ws h1 h2 => match us, h1, ws, h2 with | [], _, [_], _ => rfl
theorem kw_1 : KwD d_is_point 0 ["value"] [0] := fun _ _ _ _ _ _ us ws h1 h2 => match us, h1, ws, h2 with | [], _, [_], _ => rfl
theorem kw_2 : KwD d_is_polynomial 0 ["value"] [0] := fun _ _ _ _ _ _ us ws h1 h2 => match us, h1, ws, h2 with | [], _, [_], _ => rfl
theorem kw_3 : KwD d_is_bounds 0 ["value"] [0] := fun _ _ _ _ _ _ us ws h1 h2 => match us, h1, ws, h2 with | [], _, [_], _ => rfl
theorem ck_all : AllCk G ds := ⟨ck_is_whole, ck_are_wholes, ck_divisor_of, ck_is_reduced, ck_is_ratio, ck_are_ratios, ck_is_parts, ck_is_from_nought, ck_are_bounds, ck_is_pair, ck_is_bounds, ck_is_fraction, ck_is_point, ck_is_polynomial, ck_law_sack, ck_law_pull, ck_law_pick, ck_law_f, ck_law_is_fraction, ck_law_odd, ck_law_number, ck_law_row, ck_law_are_fractions, ck_law_is_poly, ck_law_is_pair, ck_law_thing, ck_law_right, ck_law, trivial⟩
theorem bd_all : AllBd ds := ⟨bd_is_whole, bd_are_wholes, bd_divisor_of, bd_is_reduced, bd_is_ratio, bd_are_ratios, bd_is_parts, bd_is_from_nought, bd_are_bounds, bd_is_pair, bd_is_bounds, bd_is_fraction, bd_is_point, bd_is_polynomial, bd_law_sack, bd_law_pull, bd_law_pick, bd_law_f, bd_law_is_fraction, bd_law_odd, bd_law_number, bd_law_row, bd_law_are_fractions, bd_law_is_poly, bd_law_is_pair, bd_law_thing, bd_law_right, bd_law, trivial⟩
theorem kw_all : AllKw ds G.kws := ⟨⟨_, rfl, kw_0⟩, ⟨_, rfl, kw_1⟩, ⟨_, rfl, kw_2⟩, ⟨_, rfl, kw_3⟩, trivial⟩
/-- the plain law -/
def Plain : Prop := ∀ ns : List Int, ns.length ≤ 63 → ∃ h2, dels ds (fun k => gls.getD k .non) 8 27 [.fz (ns.map D.int)] [] = .ok (.bl true) h2
def nm_0 : List Str := ["__name__", "is_whole", "are_wholes", "divisor_of", "is_reduced", "ZERO", "is_ratio", "MOST_PARTS", "are_ratios", "is_parts", "MOST_POWER", "is_from_nought", "are_bounds", "is_pair", "is_bounds", "is_fraction", "is_point", "is_polynomial", "_law_sack", "_law_pull", "_law_pick", "_law_f", "_law_is_fraction", "_law_odd", "_law_number", "_law_row", "_law_are_fractions", "_law_is_poly", "_law_is_pair", "_law_thing"]
def nm_1 : List Str := ["_law_right"]
def nm : List Str := (nm_0 ++ nm_1)
theorem nd : clsN G = true := by decide
theorem td : tdsC ds G = true := by decide +kernel
theorem ins : insG ds G = true := by decide +kernel
abbrev R : PySem.W.OpenRow := PySem.W.OpenLaw.row PySem.Challenge.rw_homesteps_k02_whole_numbers_told_of_anyt
abbrev hk : PySem.W.Hook := hookY 2 (heF ds G) (ds.map heD) [] (heT ds) (exB ds G gls)
def ob (s : PySem.W.SharedT) : He.AlX × Bool := obsY 2 (heF ds G) (ds.map heD) [] (heT ds) (exB ds G gls) (HandSHeadRun.getT s)
theorem ob_eq (s : PySem.W.SharedT) : ob s = hk.obs s.abs := obsY_eq (HandSHeadRun.getT_eq s)
set_option maxHeartbeats 0 in
theorem run (w : World) : HandSHeadRun.RunEqI R (PySem.W.view R.prog [0, 39]) hk ob 6000 nm w := by
  unfold HandSHeadRun.RunEqI
  kernel_rfl
theorem fin (pl : Plain) {w : World} {mg : Str → Option Value} {h : Heap} (Y : (∃ K : PySem.W.Frag, K.In h ∧ He.SaysX (heF ds G) (ds.map heD) [] (heT ds) (exB ds G gls) w h K) ∧ SysOk h) (Gm : h.Ns mainGlobals mg) : ∃ K : PySem.W.Frag, K.In h ∧ LawOk K mg h "law" "script" 63 := by
  obtain ⟨⟨K, KX, c⟩, sm⟩ := Y
  exact ⟨K, KX, law_of (k := 27) (d := d_law) KX Gm c rfl ck_all bd_all kw_all nd td ins sm rfl rfl rfl (by decide) pl⟩
end K02

/-! Plain reasoning about the evaluator: numbers, fractions. -/
namespace HS
open PySem L2

theorem call_at {ds : List DefD} {gl : Nat → D} {n k : Nat} {d : DefD} (hd : ds[k]? = some d) (h : d.lv < n) : dels ds gl n k = run (dels ds gl d.lv) gl d.df := by
  have e1 : lvOf ds k = d.lv := by unfold lvOf; rw [hd]
  have e2 : tabOf ds k = d.df := by unfold tabOf; rw [hd]
  have z := del_at (tab := tabOf ds) (lv := lvOf ds) (gl := gl) (n := n) (k := k) (by rw [e1]; exact h)
  rw [e1, e2] at z
  exact z
@[simp] theorem flat_int {i : Int} : (D.int i).flat = true := rfl
@[simp] theorem flat_bl {i : Bool} : (D.bl i).flat = true := rfl
@[simp] theorem flat_non : D.non.flat = true := rfl
@[simp] theorem flat_str {i : Str} : (D.str i).flat = true := rfl
@[simp] theorem flat_tup {xs : List D} : (D.tup xs).flat = D.flats xs := rfl
@[simp] theorem flat_ref {n : Nat} : (D.ref n).flat = false := rfl
@[simp] theorem flats_nil : D.flats [] = true := rfl
@[simp] theorem flats_cons {d : D} {ds : List D} : D.flats (d :: ds) = (d.flat && D.flats ds) := rfl
theorem tidy_self {d : D} {h : Hh} (f : d.flat = true) : tidy h d h = .ok d h := by
  unfold tidy
  rw [if_pos ⟨f, List.prefix_rfl⟩]
theorem tidy_pre {d : D} {h t : Hh} (f : d.flat = true) : tidy h d (h ++ t) = .ok d h := by
  unfold tidy
  rw [if_pos ⟨f, List.prefix_append _ _⟩]
theorem tidy_flat {d : D} {h h' : Hh} (f : d.flat = true) : tidy h d h' = .ok d h ∨ tidy h d h' = .ok d h' := by
  unfold tidy
  split
  · exact .inl rfl
  · cases d <;> first | exact .inr rfl | (simp [D.flat] at f; done)
@[simp] theorem atI_0 {α : Type} {a : α} {l : List α} : atI (a :: l) 0 = some a := by simp [atI, ixN]
@[simp] theorem atI_1 {α : Type} {a b : α} {l : List α} : atI (a :: b :: l) 1 = some b := by
  have : ixN (a :: b :: l).length 1 = some 1 := by simp [ixN]; omega
  unfold atI
  rw [this]
  rfl
@[simp] theorem atI_2 {α : Type} {a b c : α} {l : List α} : atI (a :: b :: c :: l) 2 = some c := by
  have : ixN (a :: b :: c :: l).length 2 = some 2 := by simp [ixN]; omega
  unfold atI
  rw [this]
  rfl
/-! ### sizes -/
/-- at most B bits -/
def Bt (B : Nat) (i : Int) : Prop := i.natAbs < 2 ^ B
theorem Bt.mono {B C : Nat} {i : Int} (h : Bt B i) (l : B ≤ C) : Bt C i := Nat.lt_of_lt_of_le h (Nat.pow_le_pow_right (by decide) l)
theorem Bt.log {B : Nat} {i : Int} (h : Bt B i) : i.natAbs.log2 ≤ B := by
  by_cases h0 : i.natAbs = 0
  · rw [h0]; simp
  · exact Nat.le_of_lt ((Nat.log2_lt h0).mpr h)
theorem Bt.mul {B C : Nat} {i j : Int} (h : Bt B i) (g : Bt C j) : Bt (B + C) (i * j) := by
  unfold Bt at *
  rw [Int.natAbs_mul, Nat.pow_add]
  exact Nat.mul_lt_mul'' h g
theorem Bt.add {B C : Nat} {i j : Int} (h : Bt B i) (g : Bt C j) : Bt (max B C + 1) (i + j) := by
  have h := h.mono (Nat.le_max_left B C)
  have g := g.mono (Nat.le_max_right B C)
  unfold Bt at *
  rw [Nat.pow_succ]
  have := Int.natAbs_add_le i j
  omega
theorem Bt.sub {B C : Nat} {i j : Int} (h : Bt B i) (g : Bt C j) : Bt (max B C + 1) (i - j) := by
  have h := h.mono (Nat.le_max_left B C)
  have g := g.mono (Nat.le_max_right B C)
  unfold Bt at *
  rw [Nat.pow_succ]
  omega
theorem Bt.neg {B : Nat} {i : Int} (h : Bt B i) : Bt B (-i) := by unfold Bt at *; rwa [Int.natAbs_neg]
theorem mulOk_of {B C : Nat} {i j : Int} (h : Bt B i) (g : Bt C j) (l : B + C < 100000000) : mulOk i j = true := by
  have := h.log
  have := g.log
  exact decide_eq_true (by show _ < 100000000; omega)
theorem pylong_of {a b : Int} {B : Nat} (h : Bt B b) (l : B ≤ 8999) : Builtin.divisionGoesByPylong a b = false := by
  have e : ¬ (300 < (if b == 0 then 0 else b.natAbs.log2 / 30 + 1)) := by
    have := h.log
    split
    · omega
    · have h0 : b.natAbs ≠ 0 := by
        intro z
        have : b = 0 := Int.natAbs_eq_zero.mp z
        simp_all
      have : b.natAbs.log2 < 9000 := by omega
      omega
  unfold Builtin.divisionGoesByPylong
  simp only [gt_iff_lt]
  simp only [decide_eq_false e, Bool.false_and]
end HS

/-! The program's fractions. -/
namespace HS
open PySem L2
def B_is_whole : Ss :=
  (.cons (.ret (.and (.isi (.var 0) (.b "int")) (.not (.isi (.var 0) (.b "bool"))))) .nil)
def F_is_whole : Df := ⟨1, 1, B_is_whole⟩
def B_are_wholes (f_is_whole : Nat) : Ss :=
  (.cons (.ret (.and (.isi (.var 0) (.b "tuple")) (.and (.cmp .Eq (.blt .len (.cons (.var 0) .nil)) (.var 1)) (.blt .all (.cons (.lc (.call f_is_whole (.cons (.var 2) .nil)) (.nm 2) (.pln (.var 0)) .no [2]) .nil))))) .nil)
def F_are_wholes (f_is_whole : Nat) : Df := ⟨2, 3, B_are_wholes f_is_whole⟩
def B_divisor_of : Ss :=
  (.cons (.asg (.nm 1) (.int 0)) 
  (.cons (.fr (.nm 2) (.pln (.var 0)) (
    (.cons (.asg (.nm 1) (.blt .gcd (.cons (.var 1) (.cons (.var 2) .nil)))) .nil))) 
  (.cons (.ret (.var 1)) .nil)))
def F_divisor_of : Df := ⟨1, 3, B_divisor_of⟩
def B_is_reduced (f_divisor_of : Nat) : Ss :=
  (.cons (.ret (.cmp .Eq (.call f_divisor_of (.cons (.var 0) .nil)) (.int 1))) .nil)
def F_is_reduced (f_divisor_of : Nat) : Df := ⟨1, 1, B_is_reduced f_divisor_of⟩
def B_is_ratio (f_are_wholes f_is_reduced : Nat) : Ss :=
  (.cons (.ret (.and (.call f_are_wholes (.cons (.var 0) (.cons (.int 2) .nil))) (.and (.cmp .Gt (.idx (.var 0) (.int 1)) (.int 0)) (.call f_is_reduced (.cons (.var 0) .nil))))) .nil)
def F_is_ratio (f_are_wholes f_is_reduced : Nat) : Df := ⟨1, 1, B_is_ratio f_are_wholes f_is_reduced⟩
def B_ratio_with (f_divisor_of : Nat) : Ss :=
  (.cons (.asg (.nm 2) (.call f_divisor_of (.cons (.tup (.cons (.var 0) (.cons (.var 1) .nil))) .nil))) 
  (.cons (.asg (.nm 2) (.ife (.cmp .Gt (.var 1) (.int 0)) (.var 2) (.neg (.var 2)))) 
  (.cons (.ret (.tup (.cons (.bin .fdiv (.var 0) (.var 2)) (.cons (.bin .fdiv (.var 1) (.var 2)) .nil)))) .nil)))
def F_ratio_with (f_divisor_of : Nat) : Df := ⟨2, 3, B_ratio_with f_divisor_of⟩
def B_ratio_sum (f_ratio_with : Nat) : Ss :=
  (.cons (.ret (.call f_ratio_with (.cons (.bin .add (.bin .mul (.idx (.var 0) (.int 0)) (.idx (.var 1) (.int 1))) (.bin .mul (.idx (.var 1) (.int 0)) (.idx (.var 0) (.int 1)))) (.cons (.bin .mul (.idx (.var 0) (.int 1)) (.idx (.var 1) (.int 1))) .nil)))) .nil)
def F_ratio_sum (f_ratio_with : Nat) : Df := ⟨2, 2, B_ratio_sum f_ratio_with⟩
def B_ratio_less (f_ratio_with : Nat) : Ss :=
  (.cons (.ret (.call f_ratio_with (.cons (.bin .sub (.bin .mul (.idx (.var 0) (.int 0)) (.idx (.var 1) (.int 1))) (.bin .mul (.idx (.var 1) (.int 0)) (.idx (.var 0) (.int 1)))) (.cons (.bin .mul (.idx (.var 0) (.int 1)) (.idx (.var 1) (.int 1))) .nil)))) .nil)
def F_ratio_less (f_ratio_with : Nat) : Df := ⟨2, 2, B_ratio_less f_ratio_with⟩
def B_ratio_product (f_ratio_with : Nat) : Ss :=
  (.cons (.ret (.call f_ratio_with (.cons (.bin .mul (.idx (.var 0) (.int 0)) (.idx (.var 1) (.int 0))) (.cons (.bin .mul (.idx (.var 0) (.int 1)) (.idx (.var 1) (.int 1))) .nil)))) .nil)
def F_ratio_product (f_ratio_with : Nat) : Df := ⟨2, 2, B_ratio_product f_ratio_with⟩
def B_ratio_over (f_ratio_with : Nat) : Ss :=
  (.cons (.ret (.call f_ratio_with (.cons (.bin .mul (.idx (.var 0) (.int 0)) (.idx (.var 1) (.int 1))) (.cons (.bin .mul (.idx (.var 0) (.int 1)) (.idx (.var 1) (.int 0))) .nil)))) .nil)
def F_ratio_over (f_ratio_with : Nat) : Df := ⟨2, 2, B_ratio_over f_ratio_with⟩
def B_is_lower : Ss :=
  (.cons (.ret (.cmp .Lt (.bin .mul (.idx (.var 0) (.int 0)) (.idx (.var 1) (.int 1))) (.bin .mul (.idx (.var 1) (.int 0)) (.idx (.var 0) (.int 1))))) .nil)
def F_is_lower : Df := ⟨2, 2, B_is_lower⟩
/-- a fraction as the program has it -/
def fr (q : Rat) : D := .tup [.int q.num, .int q.den]
def Sz (B : Nat) (q : Rat) : Prop := Bt B q.num ∧ Bt B (q.den : Int)
def S_div (f : Fn) : Prop := ∀ (a b : Int) h, f [.tup [.int a, .int b]] h = .ok (.int (Int.gcd a b : Nat)) h
def S_with (f : Fn) : Prop := ∀ (a b : Int) (B : Nat) h, b ≠ 0 → Bt B b → B ≤ 8999 → f [.int a, .int b] h = .ok (fr (Rat.divInt a b)) h
def S_op (op : Rat → Rat → Rat) (f : Fn) : Prop := ∀ (p q : Rat) (B C : Nat) h, Sz B p → Sz C q → B + C ≤ 8999 → f [fr p, fr q] h = .ok (fr (op p q)) h
def S_over (f : Fn) : Prop := ∀ (p q : Rat) (B C : Nat) h, Sz B p → Sz C q → B + C ≤ 8999 → q ≠ 0 → f [fr p, fr q] h = .ok (fr (p / q)) h
def S_lower (f : Fn) : Prop := ∀ (p q : Rat) (B C : Nat) h, Sz B p → Sz C q → B + C ≤ 1000000 → f [fr p, fr q] h = .ok (.bl (decide (p < q))) h
theorem den_ne (q : Rat) : (q.den : Int) ≠ 0 := by have := q.den_nz; omega
theorem den_pos' (q : Rat) : (0 : Int) < q.den := by have := q.den_pos; omega
theorem fr_flat (q : Rat) : (fr q).flat = true := by simp [fr]
section
variable {Δ : Nat → Fn} {gl : Nat → D}
theorem gcd_gcd (a b : Int) : Nat.gcd (Nat.gcd 0 a.natAbs) b.natAbs = Int.gcd a b := by simp [Int.gcd]
theorem s_divisor_of : S_div (run Δ gl F_divisor_of) := by
  intro a b h
  simp [run, F_divisor_of, B_divisor_of, exs, ex, ev, evs, evi, asn, itemsD, forL, gsOk_nil, bltD, List.set, tidy_self, gcd_gcd, Int.gcd, R.calm]
  exact tidy_self rfl
theorem gcd_bt {a b : Int} {B : Nat} (h : Bt B b) (h0 : b ≠ 0) : Bt B (Int.gcd a b : Nat) := by
  unfold Bt at *
  have := Int.gcd_le_natAbs_right a h0
  simp only [Int.natAbs_natCast]
  omega
theorem fr_divInt {a b : Int} (h : b ≠ 0) : fr (Rat.divInt a b) = .tup [.int (a.fdiv (if 0 < b then (Int.gcd a b : Nat) else -((Int.gcd a b : Nat) : Int))), .int (b.fdiv (if 0 < b then (Int.gcd a b : Nat) else -((Int.gcd a b : Nat) : Int)))] := by
  have g0 : (Int.gcd a b : Nat) ≠ 0 := by
    intro z
    exact h (Int.gcd_eq_zero_iff.mp z).2
  have da : ((Int.gcd a b : Nat) : Int) ∣ a := Int.gcd_dvd_left a b
  have db : ((Int.gcd a b : Nat) : Int) ∣ b := Int.gcd_dvd_right a b
  obtain ⟨x, hx⟩ := da
  obtain ⟨y, hy⟩ := db
  have e1 := Rat.num_divInt a b
  have e2 := Rat.den_divInt a b
  rw [if_neg h, Int.gcd_comm] at e2
  rw [Int.gcd_comm] at e1
  generalize hg : (Int.gcd a b : Nat) = g at *
  have gz : (g : Int) ≠ 0 := by omega
  unfold fr
  rw [e1, e2]
  have fa : ∀ z : Int, ((g : Int) * z).fdiv (-(g : Int)) = -z := fun z => by
    rw [Int.fdiv_eq_ediv_of_dvd ⟨-z, by simp [Int.mul_neg, Int.neg_mul]⟩]
    rw [Int.ediv_neg, Int.mul_ediv_cancel_left _ gz]
  have fb : ∀ z : Int, ((g : Int) * z).fdiv (g : Int) = z := fun z => by
    rw [Int.fdiv_eq_ediv_of_dvd ⟨z, rfl⟩, Int.mul_ediv_cancel_left _ gz]
  have hb : (b.natAbs / g : Nat) = y.natAbs := by
    rw [hy, Int.natAbs_mul, Int.natAbs_natCast]
    exact Nat.mul_div_cancel_left _ (by omega)
  by_cases hp : 0 < b
  · have ys : 0 < y := by
      rcases Int.lt_or_le 0 y with z | z
      · exact z
      · have := Int.mul_nonpos_of_nonneg_of_nonpos (a := (g : Int)) (b := y) (by omega) z
        omega
    rw [if_pos hp, Int.sign_eq_one_of_pos hp, Int.one_mul, hb]
    rw [hx, hy, fb, fb, Int.mul_ediv_cancel_left _ gz]
    simp [Int.natAbs_of_nonneg (Int.le_of_lt ys)]
  · have hn : b < 0 := by omega
    have ys : y < 0 := by
      rcases Int.lt_or_le y 0 with z | z
      · exact z
      · have := Int.mul_nonneg (a := (g : Int)) (b := y) (by omega) z
        omega
    rw [if_neg hp, Int.sign_eq_neg_one_of_neg hn, hb]
    rw [hx, hy, fa, fa]
    have : -1 * ((g : Int) * x) = (g : Int) * (-x) := by rw [Int.mul_neg]; omega
    rw [this, Int.mul_ediv_cancel_left _ gz]
    have : ((y.natAbs : Nat) : Int) = -y := by omega
    rw [this]
theorem s_ratio_with {i : Nat} (hd : S_div (Δ i)) : S_with (run Δ gl (F_ratio_with i)) := by
  intro a b B h h0 hb hB
  have g0 : ((Int.gcd a b : Nat) : Int) ≠ 0 := by
    intro z
    exact h0 (Int.gcd_eq_zero_iff.mp (Int.ofNat.inj z)).2
  have hg := gcd_bt (a := a) hb h0
  have p1 := fun x => pylong_of (a := x) hg hB
  have p2 := fun x => pylong_of (a := x) hg.neg hB
  rw [fr_divInt h0]
  by_cases hp : 0 < b
  · simp [run, F_ratio_with, B_ratio_with, exs, ex, ev, evs, asn, R.calm, hd a b h, cmpD, bop, hp, p1, g0, h0, lineOk, sizeLine, List.set, tidy_self]
  · simp [run, F_ratio_with, B_ratio_with, exs, ex, ev, evs, asn, R.calm, hd a b h, cmpD, bop, hp, p2, g0, h0, lineOk, sizeLine, List.set, tidy_self]

theorem add_eq (p q : Rat) : p + q = Rat.divInt (p.num * q.den + q.num * p.den) (p.den * q.den) := by
  conv => lhs; rw [← Rat.num_divInt_den p, ← Rat.num_divInt_den q]
  rw [Rat.divInt_add_divInt _ _ (den_ne p) (den_ne q)]
theorem sub_eq (p q : Rat) : p - q = Rat.divInt (p.num * q.den - q.num * p.den) (p.den * q.den) := by
  conv => lhs; rw [← Rat.num_divInt_den p, ← Rat.num_divInt_den q]
  rw [Rat.divInt_sub_divInt _ _ (den_ne p) (den_ne q)]
theorem mul_eq (p q : Rat) : p * q = Rat.divInt (p.num * q.num) (p.den * q.den) := by
  conv => lhs; rw [← Rat.num_divInt_den p, ← Rat.num_divInt_den q]
  rw [Rat.divInt_mul_divInt]
theorem div_eq (p q : Rat) : p / q = Rat.divInt (p.num * q.den) (p.den * q.num) := by
  conv => lhs; rw [← Rat.num_divInt_den p, ← Rat.num_divInt_den q]
  rw [Rat.div_def, Rat.inv_divInt, Rat.divInt_mul_divInt]
theorem num_ne {q : Rat} (h : q ≠ 0) : q.num ≠ 0 := fun z => h (Rat.num_eq_zero.mp z)
theorem dd_ne (p q : Rat) : (p.den : Int) * q.den ≠ 0 := Int.mul_ne_zero (den_ne p) (den_ne q)
theorem s_ratio_sum {i : Nat} (hw : S_with (Δ i)) : S_op (· + ·) (run Δ gl (F_ratio_sum i)) := by
  intro p q B C h hp hq hB
  have m1 : mulOk p.num q.den = true := mulOk_of hp.1 hq.2 (by omega)
  have m2 : mulOk q.num p.den = true := mulOk_of hq.1 hp.2 (by omega)
  have m3 : mulOk p.den q.den = true := mulOk_of hp.2 hq.2 (by omega)
  have w := hw (p.num * q.den + q.num * p.den) (p.den * q.den) (B + C) h (dd_ne p q) (hp.2.mul hq.2) hB
  simp [run, F_ratio_sum, B_ratio_sum, exs, ex, ev, evs, fr, ixD, bop, m1, m2, m3, w]
  rw [← add_eq]
  exact tidy_self (fr_flat _)
theorem s_ratio_less {i : Nat} (hw : S_with (Δ i)) : S_op (· - ·) (run Δ gl (F_ratio_less i)) := by
  intro p q B C h hp hq hB
  have m1 : mulOk p.num q.den = true := mulOk_of hp.1 hq.2 (by omega)
  have m2 : mulOk q.num p.den = true := mulOk_of hq.1 hp.2 (by omega)
  have m3 : mulOk p.den q.den = true := mulOk_of hp.2 hq.2 (by omega)
  have w := hw (p.num * q.den - q.num * p.den) (p.den * q.den) (B + C) h (dd_ne p q) (hp.2.mul hq.2) hB
  simp [run, F_ratio_less, B_ratio_less, exs, ex, ev, evs, fr, ixD, bop, m1, m2, m3, w]
  rw [← sub_eq]
  exact tidy_self (fr_flat _)
theorem s_ratio_product {i : Nat} (hw : S_with (Δ i)) : S_op (· * ·) (run Δ gl (F_ratio_product i)) := by
  intro p q B C h hp hq hB
  have m1 : mulOk p.num q.num = true := mulOk_of hp.1 hq.1 (by omega)
  have m3 : mulOk p.den q.den = true := mulOk_of hp.2 hq.2 (by omega)
  have w := hw (p.num * q.num) (p.den * q.den) (B + C) h (dd_ne p q) (hp.2.mul hq.2) hB
  simp [run, F_ratio_product, B_ratio_product, exs, ex, ev, evs, fr, ixD, bop, m1, m3, w]
  rw [← mul_eq]
  exact tidy_self (fr_flat _)
theorem s_ratio_over {i : Nat} (hw : S_with (Δ i)) : S_over (run Δ gl (F_ratio_over i)) := by
  intro p q B C h hp hq hB h0
  have m1 : mulOk p.num q.den = true := mulOk_of hp.1 hq.2 (by omega)
  have m3 : mulOk p.den q.num = true := mulOk_of hp.2 hq.1 (by omega)
  have w := hw (p.num * q.den) (p.den * q.num) (B + C) h (Int.mul_ne_zero (den_ne p) (num_ne h0)) (hp.2.mul hq.1) hB
  simp [run, F_ratio_over, B_ratio_over, exs, ex, ev, evs, fr, ixD, bop, m1, m3, w]
  rw [← div_eq]
  exact tidy_self (fr_flat _)
theorem s_is_lower : S_lower (run Δ gl F_is_lower) := by
  intro p q B C h hp hq hB
  have m1 : mulOk p.num q.den = true := mulOk_of hp.1 hq.2 (by omega)
  have m2 : mulOk q.num p.den = true := mulOk_of hq.1 hp.2 (by omega)
  simp [run, F_is_lower, B_is_lower, exs, ex, ev, evs, fr, ixD, bop, cmpD, m1, m2, ← Rat.lt_iff]
  exact tidy_self rfl
/-! ### is it a fraction -/
def S_whole (f : Fn) : Prop := ∀ (i : Int) h, f [.int i] h = .ok (.bl true) h
theorem s_is_whole : S_whole (run Δ gl F_is_whole) := by
  intro i h
  have k1 : kitB "int" "int" = some true := rfl
  have k2 : kitB "int" "bool" = some false := by decide +kernel
  simp [run, F_is_whole, B_is_whole, exs, ex, ev, isiD, tyD, k1, k2]
  exact tidy_self rfl
/-- two whole numbers -/
def S_wholes2 (f : Fn) : Prop := ∀ (i j : Int) h, f [.tup [.int i, .int j], .int 2] h = .ok (.bl true) h
theorem s_are_wholes {i : Nat} (hw : S_whole (Δ i)) : S_wholes2 (run Δ gl (F_are_wholes i)) := by
  intro a b h
  have k1 : kitB "tuple" "tuple" = some true := rfl
  simp [run, F_are_wholes, B_are_wholes, exs, ex, ev, evs, evi, evt, asn, isiD, tyD, k1, bltD, cmpD, eqD, itemsD, lcL, gsOk_nil, sizeLine, wipeD, List.set, hw a, hw b, R.calm, alloc, listAt, blsOf]
  exact tidy_pre rfl
/-- reduced -/
def S_reduced (f : Fn) : Prop := ∀ (q : Rat) h, f [fr q] h = .ok (.bl true) h
theorem s_is_reduced {i : Nat} (hd : S_div (Δ i)) : S_reduced (run Δ gl (F_is_reduced i)) := by
  intro q h
  have e : Int.gcd q.num q.den = 1 := q.reduced
  have w := hd q.num q.den h
  rw [e] at w
  simp [run, F_is_reduced, B_is_reduced, exs, ex, ev, evs, fr, w, cmpD, eqD]
  exact tidy_self rfl
def S_ratio (f : Fn) : Prop := ∀ (q : Rat) h, f [fr q] h = .ok (.bl true) h
theorem s_is_ratio {i j : Nat} (hw : S_wholes2 (Δ i)) (hr : S_reduced (Δ j)) : S_ratio (run Δ gl (F_is_ratio i j)) := by
  intro q h
  have p := den_pos' q
  have w := hw q.num q.den h
  have r := hr q h
  unfold fr at r
  simp [run, F_is_ratio, B_is_ratio, exs, ex, ev, evs, fr, w, r, ixD, cmpD, q.den_pos]
  exact tidy_self rfl
end
end HS

/-! The laws' own fractions, their urns. -/
namespace HS
open PySem L2
/-! ### while -/
theorem whN_more {c : En → Hh → R Bool} {bd : En → Hh → R F} : ∀ (n : Nat) (ρ : En) (h : Hh) (r : R F) (k : Nat), whN c bd n ρ h = some r → whN c bd (n + k) ρ h = some r := by
  intro n
  induction n with
  | zero => intro ρ h r k e; cases e
  | succ n ih =>
    intro ρ h r k e
    have : n + 1 + k = (n + k) + 1 := by omega
    rw [this]
    unfold whN at e ⊢
    split at e
    · split at e <;> first | exact ih _ _ _ _ e | exact e
    · exact e
    · exact e
    · exact e
theorem whL_of {c : En → Hh → R Bool} {bd : En → Hh → R F} {ρ : En} {h : Hh} {n : Nat} {r : R F} (e : whN c bd n ρ h = some r) : whL c bd ρ h = r := by
  unfold whL
  have hx : ∃ n r, whN c bd n ρ h = some r := ⟨n, r, e⟩
  rw [dif_pos hx]
  have e2 := (Classical.choose_spec hx).choose_spec
  generalize (Classical.choose_spec hx).choose = r2 at e2
  generalize Classical.choose hx = m at e2
  have a := whN_more n ρ h r m e
  have b := whN_more m ρ h r2 n e2
  rw [Nat.add_comm m n, a] at b
  exact (Option.some.inj b).symm
def B_is_lost_at (f_is_lower f_ratio_product g_ONE : Nat) : Ss :=
  (.cons (.ret (.not (.call f_is_lower (.cons (.call f_ratio_product (.cons (.var 0) (.cons (.var 1) .nil))) (.cons (.glb g_ONE) .nil))))) .nil)
def F_is_lost_at (f_is_lower f_ratio_product g_ONE : Nat) : Df := ⟨2, 2, B_is_lost_at f_is_lower f_ratio_product g_ONE⟩
def B_next_error (f_ratio_product f_ratio_over g_TWO f_ratio_less g_ONE f_ratio_sum : Nat) : Ss :=
  (.cons (.asg (.nm 3) (.call f_ratio_product (.cons (.var 0) (.cons (.var 2) .nil)))) 
  (.cons (.asg (.nm 4) (.call f_ratio_over (.cons (.call f_ratio_product (.cons (.var 3) (.cons (.var 2) .nil))) (.cons (.call f_ratio_product (.cons (.glb g_TWO) (.cons (.call f_ratio_less (.cons (.glb g_ONE) (.cons (.var 3) .nil))) .nil))) .nil)))) 
  (.cons (.ret (.call f_ratio_sum (.cons (.var 4) (.cons (.var 1) .nil)))) .nil)))
def F_next_error (f_ratio_product f_ratio_over g_TWO f_ratio_less g_ONE f_ratio_sum : Nat) : Df := ⟨3, 5, B_next_error f_ratio_product f_ratio_over g_TWO f_ratio_less g_ONE f_ratio_sum⟩
def B_check_change (f_is_ratio : Nat) : Ss :=
  (.cons (.ife (.or (.not (.call f_is_ratio (.cons (.var 0) .nil))) (.cmp .LtE (.idx (.var 0) (.int 0)) (.int 0))) (
    (.cons .never .nil)) (.nil)) .nil)
def F_check_change (f_is_ratio : Nat) : Df := ⟨1, 1, B_check_change f_is_ratio⟩
def B_check_rounding (f_is_ratio f_is_lost_at : Nat) : Ss :=
  (.cons (.ife (.or (.not (.call f_is_ratio (.cons (.var 1) .nil))) (.or (.cmp .Lt (.idx (.var 1) (.int 0)) (.int 0)) (.call f_is_lost_at (.cons (.var 0) (.cons (.var 1) .nil))))) (
    (.cons .never .nil)) (.nil)) .nil)
def F_check_rounding (f_is_ratio f_is_lost_at : Nat) : Df := ⟨2, 2, B_check_rounding f_is_ratio f_is_lost_at⟩
def B_check_first (f_is_ratio : Nat) : Ss :=
  (.cons (.ife (.or (.not (.call f_is_ratio (.cons (.var 0) .nil))) (.cmp .Lt (.idx (.var 0) (.int 0)) (.int 0))) (
    (.cons .never .nil)) (.nil)) .nil)
def F_check_first (f_is_ratio : Nat) : Df := ⟨1, 1, B_check_first f_is_ratio⟩
def B_check_gap (f_is_ratio : Nat) : Ss :=
  (.cons (.ife (.or (.not (.call f_is_ratio (.cons (.var 0) .nil))) (.cmp .LtE (.idx (.var 0) (.int 0)) (.int 0))) (
    (.cons .never .nil)) (.nil)) .nil)
def F_check_gap (f_is_ratio : Nat) : Df := ⟨1, 1, B_check_gap f_is_ratio⟩
def B_check_start (f_check_change f_check_rounding f_check_first : Nat) : Ss :=
  (.cons (.exp (.call f_check_change (.cons (.var 0) .nil))) 
  (.cons (.exp (.call f_check_rounding (.cons (.var 0) (.cons (.var 1) .nil)))) 
  (.cons (.exp (.call f_check_first (.cons (.var 2) .nil))) .nil)))
def F_check_start (f_check_change f_check_rounding f_check_first : Nat) : Df := ⟨3, 3, B_check_start f_check_change f_check_rounding f_check_first⟩
def B_law_nip : Ss :=
  (.cons (.ife (.cmp .Gt (.idx (.var 0) (.int 0)) (.int 0)) (
    (.cons (.asg (.tup (.cons (.sub (.var 0) (.int 0)) (.cons (.nm 2) .nil))) (.blt .divmod (.cons (.idx (.var 0) (.int 0)) (.cons (.var 1) .nil)))) 
    (.cons (.ret (.var 2)) .nil))) (.nil)) 
  (.cons (.asg (.sub (.var 0) (.int 2)) (.bin .add (.idx (.var 0) (.int 2)) (.int 1))) 
  (.cons (.asg (.nm 3) (.bin .mod (.blt .int (.cons (.bin .add (.bin .add (.bin .mul (.idx (.var 0) (.int 1)) (.int 41299)) (.bin .mul (.idx (.var 0) (.int 2)) (.int 50951))) (.int 23)) .nil)) (.int 2147483423))) 
  (.cons (.asg (.sub (.var 0) (.int 1)) (.bin .mod (.blt .int (.cons (.bin .add (.bin .mul (.var 3) (.bin .add (.bin .mul (.int 2) (.bin .fdiv (.var 3) (.int 37))) (.int 20011))) (.idx (.var 0) (.int 2))) .nil)) (.int 2147483423))) 
  (.cons (.ret (.bin .mod (.blt .int (.cons (.bin .fdiv (.idx (.var 0) (.int 1)) (.int 103)) .nil)) (.var 1))) .nil)))))
def F_law_nip : Df := ⟨2, 4, B_law_nip⟩
def B_law_any_of (f__law_nip : Nat) : Ss :=
  (.cons (.ret (.idx (.var 1) (.call f__law_nip (.cons (.var 0) (.cons (.blt .len (.cons (.var 1) .nil)) .nil))))) .nil)
def F_law_any_of (f__law_nip : Nat) : Df := ⟨2, 2, B_law_any_of f__law_nip⟩
def B_law_divisor : Ss :=
  (.cons (.asg (.tup (.cons (.nm 0) (.cons (.nm 1) .nil))) (.tup (.cons (.blt .abs (.cons (.var 0) .nil)) (.cons (.blt .abs (.cons (.var 1) .nil)) .nil)))) 
  (.cons (.whl (.cmp .Gt (.var 1) (.int 0)) (
    (.cons (.asg (.tup (.cons (.nm 0) (.cons (.nm 1) .nil))) (.tup (.cons (.var 1) (.cons (.bin .mod (.blt .int (.cons (.var 0) .nil)) (.var 1)) .nil)))) .nil))) 
  (.cons (.ret (.var 0)) .nil)))
def F_law_divisor : Df := ⟨2, 2, B_law_divisor⟩
def B_law_frac (f__law_divisor : Nat) : Ss :=
  (.cons (.asg (.nm 2) (.call f__law_divisor (.cons (.var 0) (.cons (.var 1) .nil)))) 
  (.cons (.asg (.nm 2) (.ife (.cmp .Gt (.var 1) (.int 0)) (.var 2) (.bin .sub (.int 0) (.var 2)))) 
  (.cons (.ret (.tup (.cons (.bin .fdiv (.var 0) (.var 2)) (.cons (.bin .fdiv (.var 1) (.var 2)) .nil)))) .nil)))
def F_law_frac (f__law_divisor : Nat) : Df := ⟨2, 3, B_law_frac f__law_divisor⟩
def B_law_add (f__law_frac : Nat) : Ss :=
  (.cons (.ret (.call f__law_frac (.cons (.bin .add (.bin .mul (.idx (.var 0) (.int 0)) (.idx (.var 1) (.int 1))) (.bin .mul (.idx (.var 1) (.int 0)) (.idx (.var 0) (.int 1)))) (.cons (.bin .mul (.idx (.var 0) (.int 1)) (.idx (.var 1) (.int 1))) .nil)))) .nil)
def F_law_add (f__law_frac : Nat) : Df := ⟨2, 2, B_law_add f__law_frac⟩
def B_law_sub (f__law_frac : Nat) : Ss :=
  (.cons (.ret (.call f__law_frac (.cons (.bin .sub (.bin .mul (.idx (.var 0) (.int 0)) (.idx (.var 1) (.int 1))) (.bin .mul (.idx (.var 1) (.int 0)) (.idx (.var 0) (.int 1)))) (.cons (.bin .mul (.idx (.var 0) (.int 1)) (.idx (.var 1) (.int 1))) .nil)))) .nil)
def F_law_sub (f__law_frac : Nat) : Df := ⟨2, 2, B_law_sub f__law_frac⟩
def B_law_mul (f__law_frac : Nat) : Ss :=
  (.cons (.ret (.call f__law_frac (.cons (.bin .mul (.idx (.var 0) (.int 0)) (.idx (.var 1) (.int 0))) (.cons (.bin .mul (.idx (.var 0) (.int 1)) (.idx (.var 1) (.int 1))) .nil)))) .nil)
def F_law_mul (f__law_frac : Nat) : Df := ⟨2, 2, B_law_mul f__law_frac⟩
def B_law_div (f__law_frac : Nat) : Ss :=
  (.cons (.ret (.call f__law_frac (.cons (.bin .mul (.idx (.var 0) (.int 0)) (.idx (.var 1) (.int 1))) (.cons (.bin .mul (.idx (.var 0) (.int 1)) (.idx (.var 1) (.int 0))) .nil)))) .nil)
def F_law_div (f__law_frac : Nat) : Df := ⟨2, 2, B_law_div f__law_frac⟩
def B_law_led (f__law_mul f__law_add f__law_div f__law_sub : Nat) : Ss :=
  (.cons (.asg (.nm 3) (.call f__law_mul (.cons (.var 0) (.cons (.var 2) .nil)))) 
  (.cons (.asg (.nm 4) (.call f__law_mul (.cons (.var 3) (.cons (.var 2) .nil)))) 
  (.cons (.ret (.call f__law_add (.cons (.call f__law_div (.cons (.var 4) (.cons (.call f__law_mul (.cons (.tup (.cons (.int 2) (.cons (.int 1) .nil))) (.cons (.call f__law_sub (.cons (.tup (.cons (.int 1) (.cons (.int 1) .nil))) (.cons (.var 3) .nil))) .nil))) .nil))) (.cons (.var 1) .nil)))) .nil)))
def F_law_led (f__law_mul f__law_add f__law_div f__law_sub : Nat) : Df := ⟨3, 5, B_law_led f__law_mul f__law_add f__law_div f__law_sub⟩
def B_law_is_lost : Ss :=
  (.cons (.ret (.cmp .GtE (.bin .mul (.idx (.var 0) (.int 0)) (.idx (.var 1) (.int 0))) (.bin .mul (.idx (.var 0) (.int 1)) (.idx (.var 1) (.int 1))))) .nil)
def F_law_is_lost : Df := ⟨2, 2, B_law_is_lost⟩
def S_gcd (f : Fn) : Prop := ∀ (a b : Int) h, f [.int a, .int b] h = .ok (.int (Int.gcd a b : Nat)) h
section
variable {Δ : Nat → Fn} {gl : Nat → D}
theorem gcd_loop {c : En → Hh → R Bool} {bd : En → Hh → R F} {h : Hh} (hc : ∀ (a b : Nat), c [some (.int a), some (.int b)] h = .ok (decide (0 < b)) h)
    (hb : ∀ (a b : Nat), 0 < b → bd [some (.int a), some (.int b)] h = .ok (.nx [some (.int b), some (.int ((a % b : Nat) : Int))]) h) :
    ∀ (b a : Nat), ∃ n, whN c bd n [some (.int a), some (.int b)] h = some (.ok (.nx [some (.int (Nat.gcd a b : Nat)), some (.int 0)]) h) := by
  intro b
  induction b using Nat.strongRecOn with
  | _ b ih =>
    intro a
    by_cases hz : b = 0
    · subst hz
      refine ⟨1, ?_⟩
      have := hc a 0
      simp only [Int.natCast_zero] at this
      simp [whN, this]
    · have hp : 0 < b := by omega
      obtain ⟨n, e⟩ := ih (a % b) (Nat.mod_lt _ hp) b
      refine ⟨n + 1, ?_⟩
      rw [Nat.gcd_comm, ← Nat.gcd_rec, Nat.gcd_comm] at e
      simp [whN, hc a b, hb a b hp, hp]
      simpa using e
theorem s_law_divisor : S_gcd (run Δ gl F_law_divisor) := by
  intro a b h
  obtain ⟨n, e⟩ := gcd_loop (h := h) (c := fun ρ h => (ev Δ gl (.cmp .Gt (.var 1) (.int 0)) ρ h).bind asBl) (bd := fun ρ h => exs Δ gl (.cons (.asg (.tup (.cons (.nm 0) (.cons (.nm 1) .nil))) (.tup (.cons (.var 1) (.cons (.bin .mod (.blt .int (.cons (.var 0) .nil)) (.var 1)) .nil)))) .nil) ρ h)
    (fun a b => by simp [ev, cmpD, asBl]) (fun a b hb => by
      have hb0 : b ≠ 0 := by omega
      have e : Int.fmod (a : Int) (b : Int) = ((a % b : Nat) : Int) := by rw [Int.fmod_eq_emod_of_nonneg _ (by omega)]; simp
      simp [exs, ex, ev, evs, asn, asns, bltD, bop, hb0, lineOk, sizeLine, R.calm, List.set, e]) b.natAbs a.natAbs
  have w := whL_of e
  have ab : ∀ x : Int, (if x < 0 then -x else x) = ((x.natAbs : Nat) : Int) := fun x => by split <;> omega
  simp [run, F_law_divisor, B_law_divisor, exs, ex, ev, evs, asn, asns, bltD, lineOk, sizeLine, R.calm, List.set, ab]
  simp [exs, ex, ev, evs, asn, asns, bltD, lineOk, sizeLine, R.calm, List.set, ab] at w
  simp [w, Int.gcd]
  exact tidy_self rfl
theorem s_law_frac {i : Nat} (hd : S_gcd (Δ i)) : S_with (run Δ gl (F_law_frac i)) := by
  intro a b B h h0 hb hB
  have g0 : ((Int.gcd a b : Nat) : Int) ≠ 0 := by
    intro z
    exact h0 (Int.gcd_eq_zero_iff.mp (Int.ofNat.inj z)).2
  have hg := gcd_bt (a := a) hb h0
  have p1 := fun x => pylong_of (a := x) hg hB
  have p2 := fun x => pylong_of (a := x) hg.neg hB
  rw [fr_divInt h0]
  by_cases hp : 0 < b
  · simp [run, F_law_frac, B_law_frac, exs, ex, ev, evs, asn, R.calm, hd a b h, cmpD, bop, hp, p1, g0, h0, lineOk, sizeLine, List.set, tidy_self]
  · simp [run, F_law_frac, B_law_frac, exs, ex, ev, evs, asn, R.calm, hd a b h, cmpD, bop, hp, p2, g0, h0, lineOk, sizeLine, List.set, tidy_self]
theorem s_law_add {i : Nat} (hw : S_with (Δ i)) : S_op (· + ·) (run Δ gl (F_law_add i)) := s_ratio_sum hw
theorem s_law_sub {i : Nat} (hw : S_with (Δ i)) : S_op (· - ·) (run Δ gl (F_law_sub i)) := s_ratio_less hw
theorem s_law_mul {i : Nat} (hw : S_with (Δ i)) : S_op (· * ·) (run Δ gl (F_law_mul i)) := s_ratio_product hw
theorem s_law_div {i : Nat} (hw : S_with (Δ i)) : S_over (run Δ gl (F_law_div i)) := s_ratio_over hw
/-- change * x >= 1 -/
def S_lost (f : Fn) : Prop := ∀ (c x : Rat) (B C : Nat) h, Sz B c → Sz C x → B + C ≤ 8999 → f [fr c, fr x] h = .ok (.bl (decide (1 ≤ c * x))) h
theorem one_le_mul (c x : Rat) : 1 ≤ c * x ↔ c.den * x.den ≤ c.num * x.num := by
  have h1 : (0 : Rat) < ((c.den * x.den : Int) : Rat) := by
    have := Int.mul_pos (den_pos' c) (den_pos' x)
    exact_mod_cast this
  have e : c * x = ((c.num * x.num : Int) : Rat) / ((c.den * x.den : Int) : Rat) := by
    rw [mul_eq]
    exact Rat.divInt_eq_div _ _
  rw [e, ← Rat.not_lt, Rat.div_lt_iff h1, Rat.one_mul, Rat.intCast_lt_intCast]
  omega
theorem s_law_is_lost : S_lost (run Δ gl F_law_is_lost) := by
  intro c x B C h hc hx hB
  have m1 : mulOk c.num x.num = true := mulOk_of hc.1 hx.1 (by omega)
  have m2 : mulOk c.den x.den = true := mulOk_of hc.2 hx.2 (by omega)
  simp [run, F_law_is_lost, B_law_is_lost, exs, ex, ev, evs, fr, ixD, bop, cmpD, m1, m2, one_le_mul]
  exact tidy_self rfl
theorem sz_divInt {a b : Int} {B : Nat} (h0 : b ≠ 0) (ha : Bt B a) (hb : Bt B b) : Sz B (Rat.divInt a b) := by
  constructor
  · unfold Bt at *
    rw [Rat.num_divInt]
    have d : ((b.gcd a : Nat) : Int) ∣ b.sign * a := Int.dvd_mul_of_dvd_right (Int.gcd_dvd_right b a)
    have := Int.natAbs_ediv_of_dvd d
    rw [this, Int.natAbs_mul, Int.natAbs_sign_of_ne_zero h0, Nat.one_mul]
    exact Nat.lt_of_le_of_lt (Nat.div_le_self _ _) ha
  · unfold Bt at *
    rw [Rat.den_divInt, if_neg h0, Int.natAbs_natCast]
    exact Nat.lt_of_le_of_lt (Nat.div_le_self _ _) hb
theorem Sz.mono {B C : Nat} {q : Rat} (h : Sz B q) (l : B ≤ C) : Sz C q := ⟨h.1.mono l, h.2.mono l⟩
theorem Sz.mul {B C : Nat} {p q : Rat} (h : Sz B p) (g : Sz C q) : Sz (B + C) (p * q) := by
  rw [mul_eq]
  exact sz_divInt (dd_ne p q) (h.1.mul g.1) (h.2.mul g.2)
theorem Sz.add {B C : Nat} {p q : Rat} (h : Sz B p) (g : Sz C q) : Sz (B + C + 1) (p + q) := by
  rw [add_eq]
  exact sz_divInt (dd_ne p q) (((h.1.mul g.2).add (g.1.mul h.2)).mono (by omega)) ((h.2.mul g.2).mono (by omega))
theorem Sz.sub {B C : Nat} {p q : Rat} (h : Sz B p) (g : Sz C q) : Sz (B + C + 1) (p - q) := by
  rw [sub_eq]
  exact sz_divInt (dd_ne p q) (((h.1.mul g.2).sub (g.1.mul h.2)).mono (by omega)) ((h.2.mul g.2).mono (by omega))
theorem Sz.div {B C : Nat} {p q : Rat} (h : Sz B p) (g : Sz C q) (h0 : q ≠ 0) : Sz (B + C) (p / q) := by
  rw [div_eq]
  exact sz_divInt (Int.mul_ne_zero (den_ne p) (num_ne h0)) (h.1.mul g.2) (h.2.mul g.1)
theorem bt_of {B : Nat} {i : Int} (h : i.natAbs < 2 ^ B) : Bt B i := h
theorem sz1 : Sz 1 1 := ⟨bt_of (by decide), bt_of (by decide)⟩
theorem sz2 : Sz 2 2 := ⟨bt_of (by decide), bt_of (by decide)⟩
theorem s_is_lost_at {i j k : Nat} (hl : S_lower (Δ i)) (hm : S_op (· * ·) (Δ j)) (hg : gl k = fr 1) : S_lost (run Δ gl (F_is_lost_at i j k)) := by
  intro c x B C h hc hx hB
  have a := hm c x B C h hc hx hB
  have b := hl (c * x) 1 (B + C) 1 h (hc.mul hx) sz1 (by omega)
  simp [run, F_is_lost_at, B_is_lost_at, exs, ex, ev, evs, a, hg, b, ← Rat.not_lt]
  exact tidy_self rfl
end
end HS

/-! The next error, the checks. -/
namespace HS
open PySem L2
/-- the error's next part, the next error -/
def prt (c e : Rat) : Rat := c * e * e / (2 * (1 - c * e))
def nxt (c r e : Rat) : Rat := prt c e + r
theorem cast_num (q : Rat) : q = (q.num : Rat) / ((q.den : Int) : Rat) := by
  rw [← Rat.divInt_eq_div, Rat.num_divInt_den]
theorem cast_ne {i : Int} (h : i ≠ 0) : (i : Rat) ≠ 0 := fun z => h (Rat.intCast_eq_zero_iff.mp z)
theorem one_sub_ne {c e : Rat} (h : c * e ≠ 1) : 1 - c * e ≠ 0 := fun z => h (by grind)
theorem two_ne {c e : Rat} (h : c * e ≠ 1) : 2 * (1 - c * e) ≠ 0 := fun z => h (by grind)
theorem prt_key1 (p q n d : Rat) (hq : q ≠ 0) (hd : d ≠ 0) (h : p / q * (n / d) ≠ 1) : q * d - p * n ≠ 0 := by
  intro z
  apply h
  grind
theorem prt_key2 (p q n d : Rat) (hq : q ≠ 0) (hd : d ≠ 0) (h : q * d - p * n ≠ 0) : p / q * (n / d) * (n / d) / (2 * (1 - p / q * (n / d))) = p * n * n / (2 * d * (q * d - p * n)) := by
  have e1 : 1 - p / q * (n / d) = (q * d - p * n) / (q * d) := by grind
  rw [e1]
  grind
theorem prt_eq {c e : Rat} (h : c * e ≠ 1) : (c.den : Int) * e.den - c.num * e.num ≠ 0 ∧ prt c e = Rat.divInt (c.num * e.num * e.num) (2 * (e.den * (c.den * e.den - c.num * e.num))) := by
  have h1 := cast_ne (den_ne c)
  have h2 := cast_ne (den_ne e)
  have hc := cast_num c
  have he := cast_num e
  have hx : ((c.num : Int) : Rat) / ((c.den : Int) : Rat) * (((e.num : Int) : Rat) / ((e.den : Int) : Rat)) ≠ 1 := by rw [← hc, ← he]; exact h
  have k1 := prt_key1 _ _ _ _ h1 h2 hx
  have k2 := prt_key2 _ _ _ _ h1 h2 k1
  rw [← hc, ← he] at k2
  constructor
  · intro z
    apply k1
    have := congrArg (fun i : Int => (i : Rat)) z
    simpa using this
  · rw [Rat.divInt_eq_div]
    unfold prt
    rw [k2]
    simp only [Rat.intCast_mul, Rat.intCast_sub, Rat.intCast_ofNat]
    rw [← Rat.mul_assoc]
theorem Bt.two {B : Nat} {i : Int} (h : Bt B i) : Bt (B + 1) (2 * i) := by unfold Bt at *; rw [Nat.pow_succ]; omega
theorem sz_prt {c e : Rat} {B : Nat} (hc : Sz 4 c) (he : Sz B e) (h : c * e ≠ 1) : Sz (2 * B + 6) (prt c e) := by
  obtain ⟨h1, h2⟩ := prt_eq h
  rw [h2]
  exact sz_divInt (Int.mul_ne_zero (by decide) (Int.mul_ne_zero (den_ne e) h1)) (((hc.1.mul he.1).mul he.1).mono (by omega)) ((he.2.mul ((hc.2.mul he.2).sub (hc.1.mul he.1))).two.mono (by omega))
theorem sz_nxt {c r e : Rat} {B : Nat} (hc : Sz 4 c) (hr : Sz 24 r) (he : Sz B e) (h : c * e ≠ 1) : Sz (2 * B + 31) (nxt c r e) := by
  have z := (sz_prt hc he h).add hr
  exact z.mono (by omega)
def S_next (f : Fn) : Prop := ∀ (c r e : Rat) (B : Nat) h, Sz 4 c → Sz 24 r → Sz B e → B ≤ 2977 → c * e ≠ 1 → f [fr c, fr r, fr e] h = .ok (fr (nxt c r e)) h
section
variable {Δ : Nat → Fn} {gl : Nat → D}
theorem s_next_error {i j k l m o : Nat} (hm : S_op (· * ·) (Δ i)) (hd : S_over (Δ j)) (g2 : gl k = fr 2) (hs : S_op (· - ·) (Δ l)) (g1 : gl m = fr 1) (ha : S_op (· + ·) (Δ o)) : S_next (run Δ gl (F_next_error i j k l m o)) := by
  intro c r e B h hc hr he hB h1
  have z1 := hc.mul he
  have a1 := fun h => hm c e 4 B h hc he (by omega)
  have a2 := fun h => hm (c * e) e (4 + B) B h z1 he (by omega)
  have z3 := sz1.sub z1
  have a3 := fun h => hs 1 (c * e) 1 (4 + B) h sz1 z1 (by omega)
  have a4 := fun h => hm 2 (1 - c * e) 2 _ h sz2 z3 (by omega)
  have a5 := fun h => hd (c * e * e) (2 * (1 - c * e)) _ _ h (z1.mul he) (sz2.mul z3) (by omega) (two_ne h1)
  have a6 := fun h => ha (prt c e) r _ 24 h (sz_prt hc he h1) hr (by omega)
  unfold prt at a6
  simp [run, F_next_error, B_next_error, exs, ex, ev, evs, asn, R.calm, List.set, g1, g2, a1, a2, a3, a4, a5, a6]
  exact tidy_self (fr_flat _)
theorem fr_two : D.tup [.int 2, .int 1] = fr 2 := rfl
theorem fr_one : D.tup [.int 1, .int 1] = fr 1 := rfl
theorem s_law_led {i j k l : Nat} (hm : S_op (· * ·) (Δ i)) (ha : S_op (· + ·) (Δ j)) (hd : S_over (Δ k)) (hs : S_op (· - ·) (Δ l)) : S_next (run Δ gl (F_law_led i j k l)) := by
  intro c r e B h hc hr he hB h1
  have z1 := hc.mul he
  have a1 := fun h => hm c e 4 B h hc he (by omega)
  have a2 := fun h => hm (c * e) e (4 + B) B h z1 he (by omega)
  have z3 := sz1.sub z1
  have a3 := fun h => hs 1 (c * e) 1 (4 + B) h sz1 z1 (by omega)
  have a4 := fun h => hm 2 (1 - c * e) 2 _ h sz2 z3 (by omega)
  have a5 := fun h => hd (c * e * e) (2 * (1 - c * e)) _ _ h (z1.mul he) (sz2.mul z3) (by omega) (two_ne h1)
  have a6 := fun h => ha (prt c e) r _ 24 h (sz_prt hc he h1) hr (by omega)
  unfold prt at a6
  simp [run, F_law_led, B_law_led, exs, ex, ev, evs, asn, R.calm, List.set, lineOk, sizeLine, fr_two, fr_one, a1, a2, a3, a4, a5, a6]
  exact tidy_self (fr_flat _)
/-! ### checks -/
def S_pos (f : Fn) : Prop := ∀ (q : Rat) h, 0 < q.num → f [fr q] h = .ok .non h
def S_nneg (f : Fn) : Prop := ∀ (q : Rat) h, 0 ≤ q.num → f [fr q] h = .ok .non h
theorem s_check_change {i : Nat} (hr : S_ratio (Δ i)) : S_pos (run Δ gl (F_check_change i)) := by
  intro q h hq
  have r := hr q h
  unfold fr at r
  have : ¬ q.num ≤ 0 := by omega
  simp [run, F_check_change, B_check_change, exs, ex, ev, evs, fr, r, asBl, ixD, cmpD, this]
  exact tidy_self rfl
theorem s_check_gap {i : Nat} (hr : S_ratio (Δ i)) : S_pos (run Δ gl (F_check_gap i)) := s_check_change hr
theorem s_check_first {i : Nat} (hr : S_ratio (Δ i)) : S_nneg (run Δ gl (F_check_first i)) := by
  intro q h hq
  have r := hr q h
  unfold fr at r
  have : ¬ q.num < 0 := by omega
  simp [run, F_check_first, B_check_first, exs, ex, ev, evs, fr, r, asBl, ixD, cmpD, this]
  exact tidy_self rfl
def S_rounding (f : Fn) : Prop := ∀ (c q : Rat) h, Sz 4 c → Sz 24 q → 0 ≤ q.num → c * q < 1 → f [fr c, fr q] h = .ok .non h
theorem s_check_rounding {i j : Nat} (hr : S_ratio (Δ i)) (hl : S_lost (Δ j)) : S_rounding (run Δ gl (F_check_rounding i j)) := by
  intro c q h hc hq h0 h1
  have r := hr q h
  have l := hl c q 4 24 h hc hq (by omega)
  have e : ¬ 1 ≤ c * q := Rat.not_le.mpr h1
  rw [decide_eq_false e] at l
  unfold fr at r l
  have : ¬ q.num < 0 := by omega
  simp [run, F_check_rounding, B_check_rounding, exs, ex, ev, evs, fr, r, l, asBl, ixD, cmpD, this]
  exact tidy_self rfl
def S_start (f : Fn) : Prop := ∀ (c r e : Rat) h, Sz 4 c → Sz 24 r → 0 < c.num → 0 ≤ r.num → c * r < 1 → 0 ≤ e.num → f [fr c, fr r, fr e] h = .ok .non h
theorem s_check_start {i j k : Nat} (hc : S_pos (Δ i)) (hr : S_rounding (Δ j)) (hf : S_nneg (Δ k)) : S_start (run Δ gl (F_check_start i j k)) := by
  intro c r e h s1 s2 h1 h2 h3 h4
  simp [run, F_check_start, B_check_start, exs, ex, ev, evs, hc c h h1, hr c r h s1 s2 h2 h3, hf e h h4]
  exact tidy_self rfl
end
end HS

/-! Urns. -/
namespace HS
open PySem L2
/-- an urn's three numbers; the last one counts -/
def Ur (N : Nat) (xs : List D) : Prop := ∃ a b c : Int, xs = [.int a, .int b, .int c] ∧ 0 ≤ a ∧ 0 ≤ b ∧ b < 2147483648 ∧ 0 ≤ c ∧ c ≤ N
def UAt (n N : Nat) (h : Hh) : Prop := ∃ xs, h[n]? = some (.lst xs) ∧ Ur N xs
/-- the urn moves on, all else stays -/
structure Up (n N : Nat) (h h' : Hh) : Prop where
  at_ : UAt n N h'
  len : h.length ≤ h'.length
  oth : ∀ k, k ≠ n → k < h.length → h'[k]? = h[k]?
theorem UAt.mono {n N M : Nat} {h : Hh} (x : UAt n N h) (l : N ≤ M) : UAt n M h := by
  obtain ⟨xs, e, a, b, c, e2, h1, h2, h3, h4, h5⟩ := x
  exact ⟨xs, e, a, b, c, e2, h1, h2, h3, h4, by omega⟩
theorem UAt.lt {n N : Nat} {h : Hh} (x : UAt n N h) : n < h.length := by
  obtain ⟨xs, e, _⟩ := x
  exact (List.getElem?_eq_some_iff.mp e).1
theorem Up.refl {n N : Nat} {h : Hh} (x : UAt n N h) : Up n N h h := ⟨x, Nat.le_refl _, fun _ _ _ => rfl⟩
theorem Up.trans {n N M : Nat} {h h' h'' : Hh} (x : Up n N h h') (y : Up n M h' h'') : Up n M h h'' :=
  ⟨y.at_, Nat.le_trans x.len y.len, fun k hk hl => (y.oth k hk (Nat.lt_of_lt_of_le hl x.len)).trans (x.oth k hk hl)⟩
theorem Up.mono {n N M : Nat} {h h' : Hh} (x : Up n N h h') (l : N ≤ M) : Up n M h h' := ⟨x.at_.mono l, x.len, x.oth⟩
theorem Up.set {n N : Nat} {h : Hh} {xs : List D} (hl : n < h.length) (u : Ur N xs) : Up n N h (h.set n (.lst xs)) :=
  ⟨⟨xs, by rw [List.getElem?_set_self hl], u⟩, by simp, fun k hk _ => by rw [List.getElem?_set_ne (Ne.symm hk)]⟩
theorem tidy_up {n N M : Nat} {d : D} {h h' : Hh} (f : d.flat = true) (a : UAt n N h) (l : N ≤ M) (u : Up n M h h') : ∃ h2, tidy h d h' = .ok d h2 ∧ Up n M h h2 := by
  rcases tidy_flat (h := h) (h' := h') f with e | e
  · exact ⟨h, e, .refl (a.mono l)⟩
  · exact ⟨h', e, u⟩
def S_nip (f : Fn) : Prop := ∀ (n N : Nat) (m : Int) h, UAt n N h → N ≤ 1000000 → 0 < m → m < 1000000 → ∃ v h', f [.ref n, .int m] h = .ok (.int v) h' ∧ 0 ≤ v ∧ v < m ∧ Up n (N + 1) h h'
theorem bt31 {b : Int} (h0 : 0 ≤ b) (h1 : b < 2147483648) : Bt 31 b := by unfold Bt; omega
theorem bt21 {b : Int} (h0 : 0 ≤ b) (h1 : b < 2097152) : Bt 21 b := by unfold Bt; omega
section
variable {Δ : Nat → Fn} {gl : Nat → D}
set_option maxHeartbeats 1000000 in
theorem s_law_nip : S_nip (run Δ gl F_law_nip) := by
  intro n N m h ⟨xs, e, a, b, c, ex0, ha, hb1, hb2, hc1, hc2⟩ hN hm1 hm2
  subst ex0
  have hl : n < h.length := (List.getElem?_eq_some_iff.mp e).1
  have hm0 : m ≠ 0 := by omega
  by_cases h0 : 0 < a
  · have up : Up n (N + 1) h (h.set n (.lst [.int (a / m), .int b, .int c])) := .set hl ⟨a / m, b, c, rfl, Int.ediv_nonneg ha (by omega), hb1, hb2, hc1, by omega⟩
    obtain ⟨h2, t1, t2⟩ := tidy_up (d := .int (a % m)) rfl ⟨_, e, a, b, c, rfl, ha, hb1, hb2, hc1, hc2⟩ (Nat.le_succ N) up
    refine ⟨a % m, h2, ?_, Int.emod_nonneg _ hm0, Int.emod_lt_of_pos _ hm1, t2⟩
    have hm3 : m < 1073741824 := by omega
    simp [run, F_law_nip, B_law_nip, exs, ex, ev, evs, asn, asns, asBl, listAt, e, ixD, cmpD, h0, bltD, hm1, hm3, setI, ixN, List.set, R.calm, t1]
  · have c1 : 0 ≤ c + 1 := by omega
    have hs : ∀ z, (h.set n z)[n]? = some z := fun z => List.getElem?_set_self hl
    have m1 : mulOk b 41299 = true := mulOk_of (bt31 hb1 hb2) (bt_of (B := 16) (by decide)) (by decide)
    have m2 : mulOk (c + 1) 50951 = true := mulOk_of (bt21 c1 (by omega)) (bt_of (B := 16) (by decide)) (by decide)
    generalize el : Int.fmod (b * 41299 + (c + 1) * 50951 + 23) 2147483423 = lap
    have l1 : 0 ≤ lap := by rw [← el]; exact Int.fmod_nonneg_of_pos _ (by decide)
    have l2 : lap < 2147483423 := by rw [← el]; exact Int.fmod_lt_of_pos _ (by decide)
    have q1 : Bt 31 (Int.fdiv lap 37) := by
      rw [Int.fdiv_eq_ediv_of_nonneg _ (by decide)]
      exact bt31 (Int.ediv_nonneg l1 (by decide)) (by omega)
    have m3 : mulOk 2 (Int.fdiv lap 37) = true := mulOk_of (bt_of (B := 2) (by decide)) q1 (by decide)
    have q2 : Bt 33 (2 * Int.fdiv lap 37 + 20011) := ((q1.two).add (bt_of (B := 32) (i := 20011) (by decide))).mono (by decide)
    have m4 : mulOk lap (2 * Int.fdiv lap 37 + 20011) = true := mulOk_of (bt31 l1 (by omega)) q2 (by decide)
    generalize eb : Int.fmod (lap * (2 * Int.fdiv lap 37 + 20011) + (c + 1)) 2147483423 = b2
    have b1' : 0 ≤ b2 := by rw [← eb]; exact Int.fmod_nonneg_of_pos _ (by decide)
    have b2' : b2 < 2147483423 := by rw [← eb]; exact Int.fmod_lt_of_pos _ (by decide)
    have p1 : ∀ x, Builtin.divisionGoesByPylong x 37 = false := fun x => pylong_of (B := 6) (bt_of (by decide)) (by decide)
    have p2 : ∀ x, Builtin.divisionGoesByPylong x 103 = false := fun x => pylong_of (B := 7) (bt_of (by decide)) (by decide)
    have up : Up n (N + 1) h (h.set n (.lst [.int a, .int b2, .int (c + 1)])) := .set hl ⟨a, b2, c + 1, rfl, ha, b1', by omega, c1, by omega⟩
    obtain ⟨h2, t1, t2⟩ := tidy_up (d := .int (Int.fmod (Int.fdiv b2 103) m)) rfl ⟨_, e, a, b, c, rfl, ha, hb1, hb2, hc1, hc2⟩ (Nat.le_succ N) up
    refine ⟨Int.fmod (Int.fdiv b2 103) m, h2, ?_, Int.fmod_nonneg_of_pos _ hm1, Int.fmod_lt_of_pos _ hm1, t2⟩
    simp [run, F_law_nip, B_law_nip, exs, ex, ev, evs, asn, asns, asBl, listAt, e, hs, ixD, cmpD, h0, bltD, bop, hm0, setI, ixN, List.set, R.calm, m1, m2, el, p1, m3, m4, eb, p2, t1]
end
end HS

/-! The pulls' worlds. -/
namespace HS
open PySem L2
def B_law_world (f__law_frac f__law_nip f__law_any_of f__law_div : Nat) : Ss :=
  (.cons (.asg (.nm 1) (.call f__law_frac (.cons (.bin .add (.int 1) (.call f__law_nip (.cons (.var 0) (.cons (.int 12) .nil)))) (.cons (.bin .add (.int 1) (.call f__law_nip (.cons (.var 0) (.cons (.int 9) .nil)))) .nil)))) 
  (.cons (.asg (.nm 2) (.call f__law_any_of (.cons (.var 0) (.cons (.tup (.cons (.tup (.cons (.int 0) (.cons (.int 1) .nil))) (.cons (.tup (.cons (.int 0) (.cons (.int 1) .nil))) (.cons (.tup (.cons (.int 1) (.cons (.int 4) .nil))) (.cons (.tup (.cons (.int 4) (.cons (.int 15) .nil))) (.cons (.tup (.cons (.int 5) (.cons (.int 24) .nil))) (.cons (.tup (.cons (.int 15) (.cons (.int 56) .nil))) (.cons (.tup (.cons (.int 7) (.cons (.int 40) .nil))) (.cons (.tup (.cons (.int 1) (.cons (.int 10) .nil))) (.cons (.tup (.cons (.int 1) (.cons (.int 100) .nil))) .nil)))))))))) .nil)))) 
  (.cons (.asg (.nm 3) (.call f__law_nip (.cons (.var 0) (.cons (.int 6) .nil)))) 
  (.cons (.ife (.cmp .Eq (.var 3) (.int 0)) (
    (.cons (.asg (.nm 2) (.call f__law_frac (.cons (.call f__law_nip (.cons (.var 0) (.cons (.int 30) .nil))) (.cons (.int 30) .nil)))) .nil)) (.nil)) 
  (.cons (.ife (.cmp .Eq (.var 3) (.int 1)) (
    (.cons (.asg (.nm 2) (.call f__law_any_of (.cons (.var 0) (.cons (.tup (.cons (.tup (.cons (.int 26794) (.cons (.bin .pow (.int 10) (.int 5)) .nil))) (.cons (.tup (.cons (.int 26795) (.cons (.bin .pow (.int 10) (.int 5)) .nil))) (.cons (.tup (.cons (.int 267949) (.cons (.bin .pow (.int 10) (.int 6)) .nil))) (.cons (.tup (.cons (.int 26795) (.cons (.int 99999) .nil))) .nil))))) .nil)))) .nil)) (.nil)) 
  (.cons (.ret (.tup (.cons (.var 1) (.cons (.call f__law_div (.cons (.var 2) (.cons (.var 1) .nil))) .nil)))) .nil))))))
def F_law_world (f__law_frac f__law_nip f__law_any_of f__law_div : Nat) : Df := ⟨1, 4, B_law_world f__law_frac f__law_nip f__law_any_of f__law_div⟩
def B_law_first (f__law_nip f__law_frac f__law_any_of f__law_div : Nat) : Ss :=
  (.cons (.asg (.nm 2) (.call f__law_nip (.cons (.var 0) (.cons (.int 6) .nil)))) 
  (.cons (.ife (.cmp .Eq (.var 2) (.int 0)) (
    (.cons (.ret (.call f__law_frac (.cons (.call f__law_nip (.cons (.var 0) (.cons (.int 20) .nil))) (.cons (.bin .add (.int 1) (.call f__law_nip (.cons (.var 0) (.cons (.int 6) .nil)))) .nil)))) .nil)) (.nil)) 
  (.cons (.asg (.nm 3) (.call f__law_any_of (.cons (.var 0) (.cons (.tup (.cons (.tup (.cons (.int 0) (.cons (.int 1) .nil))) (.cons (.tup (.cons (.int 2) (.cons (.int 3) .nil))) (.cons (.tup (.cons (.int 2) (.cons (.int 3) .nil))) (.cons (.tup (.cons (.int 1) (.cons (.int 2) .nil))) (.cons (.tup (.cons (.int 1) (.cons (.int 3) .nil))) (.cons (.tup (.cons (.int 3) (.cons (.int 5) .nil))) (.cons (.tup (.cons (.int 3) (.cons (.int 4) .nil))) (.cons (.tup (.cons (.int 9) (.cons (.int 10) .nil))) (.cons (.tup (.cons (.int 1) (.cons (.int 1) .nil))) .nil)))))))))) .nil)))) 
  (.cons (.ife (.cmp .Eq (.var 2) (.int 1)) (
    (.cons (.asg (.nm 3) (.call f__law_frac (.cons (.bin .add (.int 2000) (.call f__law_any_of (.cons (.var 0) (.cons (.tup (.cons (.int 1) (.cons (.neg (.int 1)) .nil))) .nil)))) (.cons (.int 3000) .nil)))) .nil)) (.nil)) 
  (.cons (.ife (.cmp .Gt (.var 2) (.int 3)) (
    (.cons (.asg (.nm 3) (.call f__law_frac (.cons (.call f__law_nip (.cons (.var 0) (.cons (.int 60) .nil))) (.cons (.int 60) .nil)))) .nil)) (.nil)) 
  (.cons (.ret (.call f__law_div (.cons (.var 3) (.cons (.var 1) .nil)))) .nil))))))
def F_law_first (f__law_nip f__law_frac f__law_any_of f__law_div : Nat) : Df := ⟨2, 4, B_law_first f__law_nip f__law_frac f__law_any_of f__law_div⟩
theorem atI_in {xs : List D} {v : Int} (h0 : 0 ≤ v) (h1 : v < xs.length) : ∃ d ∈ xs, atI xs v = some d := by
  obtain ⟨k, rfl⟩ := Int.eq_ofNat_of_zero_le h0
  have hk : k < xs.length := by omega
  refine ⟨xs[k], List.getElem_mem hk, ?_⟩
  have : ixN xs.length (k : Int) = some k := by
    unfold ixN
    simp
    omega
  unfold atI
  rw [this]
  simp [hk]
def S_any (f : Fn) : Prop := ∀ (n N : Nat) (xs : List D) h, UAt n N h → N ≤ 1000000 → xs ≠ [] → xs.length < 1000000 → (∀ d ∈ xs, d.flat = true) → ∃ d ∈ xs, ∃ h', f [.ref n, .tup xs] h = .ok d h' ∧ Up n (N + 1) h h'
def S_anyL (f : Fn) : Prop := ∀ (n N m : Nat) (xs : List D) h, UAt n N h → N ≤ 1000000 → m ≠ n → h[m]? = some (.lst xs) → xs ≠ [] → xs.length < 1000000 → (∀ d ∈ xs, d.flat = true) → ∃ d ∈ xs, ∃ h', f [.ref n, .ref m] h = .ok d h' ∧ Up n (N + 1) h h'
def S_div2 (f : Fn) : Prop := ∀ (a b : Int) (q : Rat) (B C : Nat) h, b ≠ 0 → Bt B a → Bt B b → Sz C q → B + C ≤ 8999 → q ≠ 0 → f [.tup [.int a, .int b], fr q] h = .ok (fr (Rat.divInt a b / q)) h
section
variable {Δ : Nat → Fn} {gl : Nat → D}
theorem s_law_any_of {i : Nat} (hn : S_nip (Δ i)) : S_any (run Δ gl (F_law_any_of i)) := by
  intro n N xs h ua hN hx hl hf
  have l0 : 0 < xs.length := List.length_pos_iff.mpr hx
  obtain ⟨v, h', e, v0, v1, up⟩ := hn n N xs.length h ua hN (by omega) (by omega)
  obtain ⟨d, dm, ed⟩ := atI_in v0 v1
  obtain ⟨h2, t1, t2⟩ := tidy_up (d := d) (hf d dm) ua (Nat.le_succ N) up
  refine ⟨d, dm, h2, ?_, t2⟩
  simp [run, F_law_any_of, B_law_any_of, exs, ex, ev, evs, bltD, e, ixD, ed, t1]
theorem s_law_any_ofL {i : Nat} (hn : S_nip (Δ i)) : S_anyL (run Δ gl (F_law_any_of i)) := by
  intro n N m xs h ua hN hm hx0 hx hl hf
  have l0 : 0 < xs.length := List.length_pos_iff.mpr hx
  obtain ⟨v, h', e, v0, v1, up⟩ := hn n N xs.length h ua hN (by omega) (by omega)
  obtain ⟨d, dm, ed⟩ := atI_in v0 v1
  obtain ⟨h2, t1, t2⟩ := tidy_up (d := d) (hf d dm) ua (Nat.le_succ N) up
  have ml : m < h.length := (List.getElem?_eq_some_iff.mp hx0).1
  have hx1 := (up.oth m hm ml).trans hx0
  refine ⟨d, dm, h2, ?_, t2⟩
  simp [run, F_law_any_of, B_law_any_of, exs, ex, ev, evs, bltD, listAt, hx0, hx1, e, ixD, ed, t1]
theorem div2_eq (a b : Int) (q : Rat) (hb : b ≠ 0) (hq : q ≠ 0) : Rat.divInt a b / q = Rat.divInt (a * q.den) (b * q.num) := by
  conv => lhs; rw [← Rat.num_divInt_den q]
  rw [Rat.div_def, Rat.inv_divInt, Rat.divInt_mul_divInt]
theorem s_law_div2 {i : Nat} (hw : S_with (Δ i)) : S_div2 (run Δ gl (F_law_div i)) := by
  intro a b q B C h h0 ha hb hq hB hq0
  have m1 : mulOk a q.den = true := mulOk_of ha hq.2 (by omega)
  have m3 : mulOk b q.num = true := mulOk_of hb hq.1 (by omega)
  have w := hw (a * q.den) (b * q.num) (B + C) h (Int.mul_ne_zero h0 (num_ne hq0)) (hb.mul hq.1) hB
  simp [run, F_law_div, B_law_div, exs, ex, ev, evs, fr, ixD, bop, m1, m3, w]
  rw [← div2_eq a b q h0 hq0]
  exact tidy_self (fr_flat _)
end
/-- a change, a rounding -/
structure Wd (c r : Rat) : Prop where
  sc : Sz 4 c
  sr : Sz 24 r
  cp : 0 < c.num
  rp : 0 ≤ r.num
  cr : c * r < 1
  pr : Sz 20 (c * r)
theorem Wd.c0 {c r : Rat} (w : Wd c r) : c ≠ 0 := fun z => by have := w.cp; rw [z] at this; exact absurd this (by decide)
theorem divInt_pos {a b : Int} (ha : 0 < a) (hb : 0 < b) : 0 < (Rat.divInt a b).num := by
  rw [Rat.num_divInt, Int.sign_eq_one_of_pos hb, Int.one_mul]
  have d : ((b.gcd a : Nat) : Int) ∣ a := Int.gcd_dvd_right b a
  have g : (0 : Int) < (b.gcd a : Nat) := by
    have : b.gcd a ≠ 0 := fun z => by have := (Int.gcd_eq_zero_iff.mp z).1; omega
    omega
  exact Int.ediv_pos_of_pos_of_dvd ha (Int.le_of_lt g) d
theorem divInt_nn {a b : Int} (ha : 0 ≤ a) (hb : 0 < b) : 0 ≤ (Rat.divInt a b).num := by
  rw [Rat.num_divInt, Int.sign_eq_one_of_pos hb, Int.one_mul]
  exact Int.ediv_nonneg ha (by omega)
theorem rounding_ok {c : Rat} {a b : Int} (sc : Sz 4 c) (cp : 0 < c.num) (ha : 0 ≤ a) (hab : a < b) (hb : b < 1048576) : Wd c (Rat.divInt a b / c) := by
  have b0 : b ≠ 0 := by omega
  have c0 : c ≠ 0 := fun z => by rw [z] at cp; exact absurd cp (by decide)
  have s : Sz 20 (Rat.divInt a b) := sz_divInt b0 (by unfold Bt; omega) (by unfold Bt; omega)
  have cpos : 0 < c := by
    rw [Rat.lt_iff]
    simpa using cp
  have p0 : 0 ≤ Rat.divInt a b := Rat.num_nonneg.mp (divInt_nn ha (by omega))
  have p1 : Rat.divInt a b < 1 := by
    rw [Rat.divInt_eq_div, Rat.div_lt_iff (Rat.intCast_pos.mpr (by omega)), Rat.one_mul, Rat.intCast_lt_intCast]
    exact hab
  have ce : c * (Rat.divInt a b / c) = Rat.divInt a b := by grind
  refine ⟨sc, s.div sc c0, cp, Rat.num_nonneg.mpr ?_, ?_, by rw [ce]; exact s⟩
  · rw [Rat.div_def]
    exact Rat.mul_nonneg p0 (Rat.le_of_lt (Rat.inv_pos.mpr cpos))
  · rw [ce]
    exact p1
end HS

/-! The pulls' worlds: how they are drawn. -/
namespace HS
open PySem L2
def S_world (f : Fn) : Prop := ∀ (n N : Nat) h, UAt n N h → N ≤ 900000 → ∃ c r h', Wd c r ∧ f [.ref n] h = .ok (.tup [fr c, fr r]) h' ∧ Up n (N + 6) h h'
def S_first (f : Fn) : Prop := ∀ (n N : Nat) (c : Rat) h, UAt n N h → N ≤ 900000 → Sz 4 c → 0 < c.num → ∃ e h', (Sz 16 e ∧ Sz 12 (c * e)) ∧ 0 ≤ e.num ∧ f [.ref n, fr c] h = .ok (fr e) h' ∧ Up n (N + 6) h h'
theorem bts {B : Nat} {i : Int} (h : i.natAbs < 2 ^ B) : Bt B i := h
/-- a part as it is drawn: a pair of whole numbers -/
def Prt (x : D) : Prop := ∃ a b : Int, x = .tup [.int a, .int b] ∧ 0 ≤ a ∧ a < b ∧ b < 1048576
theorem prt_div {Δf : Fn} (hd : S_div2 Δf) {x : D} (p : Prt x) {c : Rat} (sc : Sz 4 c) (cp : 0 < c.num) (h : Hh) : ∃ r, Wd c r ∧ Δf [x, fr c] h = .ok (fr r) h := by
  obtain ⟨a, b, rfl, h1, h2, h3⟩ := p
  have w := rounding_ok sc cp h1 h2 h3
  exact ⟨_, w, hd a b c 20 4 h (by omega) (by unfold Bt; omega) (by unfold Bt; omega) sc (by omega) w.c0⟩
theorem prt_fr {a b : Int} (h1 : 0 ≤ a) (h2 : a < b) (h3 : b < 1048576) : Prt (fr (Rat.divInt a b)) := by
  have b0 : b ≠ 0 := by omega
  have s : Sz 20 (Rat.divInt a b) := sz_divInt b0 (by unfold Bt; omega) (by unfold Bt; omega)
  have p1 : Rat.divInt a b < 1 := by
    rw [Rat.divInt_eq_div, Rat.div_lt_iff (Rat.intCast_pos.mpr (by omega)), Rat.one_mul, Rat.intCast_lt_intCast]
    exact h2
  refine ⟨_, _, rfl, divInt_nn h1 (by omega), ?_, ?_⟩
  · rw [Rat.lt_iff] at p1
    simpa using p1
  · have := s.2
    unfold Bt at this
    omega
section
variable {Δ : Nat → Fn} {gl : Nat → D}
set_option maxHeartbeats 2000000 in
theorem s_law_world {i j k l : Nat} (hw : S_with (Δ i)) (hn : S_nip (Δ j)) (ha : S_any (Δ k)) (hd : S_div2 (Δ l)) : S_world (run Δ gl (F_law_world i j k l)) := by
  intro n N h ua hN
  obtain ⟨v1, h1, e1, v1a, v1b, u1⟩ := hn n N 12 h ua (by omega) (by decide) (by decide)
  obtain ⟨v2, h2, e2, v2a, v2b, u2⟩ := hn n (N + 1) 9 h1 u1.at_ (by omega) (by decide) (by decide)
  have e3 := hw (1 + v1) (1 + v2) 4 h2 (by omega) (by unfold Bt; omega) (by decide)
  have sc : Sz 4 (Rat.divInt (1 + v1) (1 + v2)) := sz_divInt (by omega) (by unfold Bt; omega) (by unfold Bt; omega)
  have cp : 0 < (Rat.divInt (1 + v1) (1 + v2)).num := divInt_pos (by omega) (by omega)
  generalize Rat.divInt (1 + v1) (1 + v2) = c at e3 sc cp
  obtain ⟨x, xm, h4, e4, u4⟩ := ha n (N + 2) [.tup [.int 0, .int 1], .tup [.int 0, .int 1], .tup [.int 1, .int 4], .tup [.int 4, .int 15], .tup [.int 5, .int 24], .tup [.int 15, .int 56], .tup [.int 7, .int 40], .tup [.int 1, .int 10], .tup [.int 1, .int 100]] h2 u2.at_ (by omega) (by simp) (by simp) (by simp)
  have px : Prt x := by
    simp only [List.mem_cons, List.not_mem_nil, or_false] at xm
    rcases xm with rfl | rfl | rfl | rfl | rfl | rfl | rfl | rfl | rfl <;> exact ⟨_, _, rfl, by decide, by decide, by decide⟩
  obtain ⟨w, h5, e5, wa, wb, u5⟩ := hn n (N + 3) 6 h4 u4.at_ (by omega) (by decide) (by decide)
  have u15 := ((u1.trans u2).trans u4).trans u5
  by_cases w0 : w = 0
  · subst w0
    obtain ⟨v6, h6, e6, v6a, v6b, u6⟩ := hn n (N + 4) 30 h5 u5.at_ (by omega) (by decide) (by decide)
    have e7 := hw v6 30 5 h6 (by decide) (bts (by decide)) (by decide)
    obtain ⟨r, wd, e8⟩ := prt_div hd (prt_fr v6a v6b (by decide)) sc cp h6
    obtain ⟨h9, t1, t2⟩ := tidy_up (d := .tup [fr c, fr r]) (by simp [fr_flat]) ua (show N ≤ N + 6 by omega) ((u15.trans u6).mono (by omega))
    refine ⟨c, r, h9, wd, ?_, t2⟩
    simp [run, F_law_world, B_law_world, exs, ex, ev, evs, asn, asBl, R.calm, List.set, bop, cmpD, eqD, lineOk, sizeLine, e1, e2, e3, e4, e5, e6, e7, e8, t1]
  · by_cases w1 : w = 1
    · subst w1
      obtain ⟨x6, xm6, h6, e6, u6⟩ := ha n (N + 4) [.tup [.int 26794, .int 100000], .tup [.int 26795, .int 100000], .tup [.int 267949, .int 1000000], .tup [.int 26795, .int 99999]] h5 u5.at_ (by omega) (by simp) (by simp) (by simp)
      have px6 : Prt x6 := by
        simp only [List.mem_cons, List.not_mem_nil, or_false] at xm6
        rcases xm6 with rfl | rfl | rfl | rfl <;> exact ⟨_, _, rfl, by decide, by decide, by decide⟩
      obtain ⟨r, wd, e8⟩ := prt_div hd px6 sc cp h6
      obtain ⟨h9, t1, t2⟩ := tidy_up (d := .tup [fr c, fr r]) (by simp [fr_flat]) ua (show N ≤ N + 6 by omega) ((u15.trans u6).mono (by omega))
      refine ⟨c, r, h9, wd, ?_, t2⟩
      simp [run, F_law_world, B_law_world, exs, ex, ev, evs, asn, asBl, R.calm, List.set, bop, cmpD, eqD, lineOk, sizeLine, e1, e2, e3, e4, e5, e6, e8, t1]
    · obtain ⟨r, wd, e8⟩ := prt_div hd px sc cp h5
      obtain ⟨h9, t1, t2⟩ := tidy_up (d := .tup [fr c, fr r]) (by simp [fr_flat]) ua (show N ≤ N + 6 by omega) (u15.mono (by omega))
      refine ⟨c, r, h9, wd, ?_, t2⟩
      simp [run, F_law_world, B_law_world, exs, ex, ev, evs, asn, asBl, R.calm, List.set, bop, cmpD, eqD, lineOk, sizeLine, e1, e2, e3, e4, e5, e8, t1, w0, w1]
/-- a start's part as it is drawn -/
def Fst (x : D) : Prop := ∃ a b : Int, x = .tup [.int a, .int b] ∧ 0 ≤ a ∧ a < 4096 ∧ 0 < b ∧ b < 4096
theorem fst_div {Δf : Fn} (hd : S_div2 Δf) {x : D} (p : Fst x) {c : Rat} (sc : Sz 4 c) (cp : 0 < c.num) (h : Hh) : ∃ e, (Sz 16 e ∧ Sz 12 (c * e)) ∧ 0 ≤ e.num ∧ Δf [x, fr c] h = .ok (fr e) h := by
  obtain ⟨a, b, rfl, h1, h2, h3, h4⟩ := p
  have c0 : c ≠ 0 := fun z => by rw [z] at cp; exact absurd cp (by decide)
  have s : Sz 12 (Rat.divInt a b) := sz_divInt (by omega) (by unfold Bt; omega) (by unfold Bt; omega)
  have cpos : 0 < c := by
    rw [Rat.lt_iff]
    simpa using cp
  have ce : c * (Rat.divInt a b / c) = Rat.divInt a b := by grind
  refine ⟨Rat.divInt a b / c, ⟨s.div sc c0, by rw [ce]; exact s⟩, Rat.num_nonneg.mpr ?_, hd a b c 12 4 h (by omega) (by unfold Bt; omega) (by unfold Bt; omega) sc (by omega) c0⟩
  rw [Rat.div_def]
  exact Rat.mul_nonneg (Rat.num_nonneg.mp (divInt_nn h1 h3)) (Rat.le_of_lt (Rat.inv_pos.mpr cpos))
theorem fst_fr {a b : Int} (h1 : 0 ≤ a) (h2 : a < 4096) (h3 : 0 < b) (h4 : b < 4096) : Fst (fr (Rat.divInt a b)) := by
  have s : Sz 12 (Rat.divInt a b) := sz_divInt (by omega) (by unfold Bt; omega) (by unfold Bt; omega)
  have n0 := divInt_nn h1 h3
  have d0 := den_pos' (Rat.divInt a b)
  have s1 := s.1
  have s2 := s.2
  unfold Bt at s1 s2
  exact ⟨_, _, rfl, n0, by omega, d0, by omega⟩
set_option maxHeartbeats 2000000 in
theorem s_law_first {i j k l : Nat} (hn : S_nip (Δ i)) (hw : S_with (Δ j)) (ha : S_any (Δ k)) (hd : S_div2 (Δ l)) : S_first (run Δ gl (F_law_first i j k l)) := by
  intro n N c h ua hN sc cp
  obtain ⟨w, h1, e1, wa, wb, u1⟩ := hn n N 6 h ua (by omega) (by decide) (by decide)
  by_cases w0 : w = 0
  · subst w0
    obtain ⟨v2, h2, e2, v2a, v2b, u2⟩ := hn n (N + 1) 20 h1 u1.at_ (by omega) (by decide) (by decide)
    obtain ⟨v3, h3, e3, v3a, v3b, u3⟩ := hn n (N + 2) 6 h2 u2.at_ (by omega) (by decide) (by decide)
    have e4 := hw v2 (1 + v3) 4 h3 (by omega) (by unfold Bt; omega) (by decide)
    obtain ⟨h9, t1, t2⟩ := tidy_up (d := fr (Rat.divInt v2 (1 + v3))) (fr_flat _) ua (show N ≤ N + 6 by omega) (((u1.trans u2).trans u3).mono (by omega))
    refine ⟨Rat.divInt v2 (1 + v3), h9, ⟨(sz_divInt (B := 5) (a := v2) (b := 1 + v3) (by omega) (by unfold Bt; omega) (by unfold Bt; omega)).mono (by decide), (sc.mul (sz_divInt (B := 5) (a := v2) (b := 1 + v3) (by omega) (by unfold Bt; omega) (by unfold Bt; omega))).mono (by decide)⟩, divInt_nn v2a (by omega), ?_, t2⟩
    simp [run, F_law_first, B_law_first, exs, ex, ev, evs, asn, asBl, R.calm, List.set, bop, cmpD, eqD, e1, e2, e3, e4, t1]
  · obtain ⟨x, xm, h2, e2, u2⟩ := ha n (N + 1) [.tup [.int 0, .int 1], .tup [.int 2, .int 3], .tup [.int 2, .int 3], .tup [.int 1, .int 2], .tup [.int 1, .int 3], .tup [.int 3, .int 5], .tup [.int 3, .int 4], .tup [.int 9, .int 10], .tup [.int 1, .int 1]] h1 u1.at_ (by omega) (by simp) (by simp) (by simp)
    have px : Fst x := by
      simp only [List.mem_cons, List.not_mem_nil, or_false] at xm
      rcases xm with rfl | rfl | rfl | rfl | rfl | rfl | rfl | rfl | rfl <;> exact ⟨_, _, rfl, by decide, by decide, by decide, by decide⟩
    by_cases w1 : w = 1
    · subst w1
      obtain ⟨y, ym, h3, e3, u3⟩ := ha n (N + 2) [.int 1, .int (-1)] h2 u2.at_ (by omega) (by simp) (by simp) (by simp)
      obtain ⟨v, rfl, va, vb⟩ : ∃ v : Int, y = .int v ∧ -1 ≤ v ∧ v ≤ 1 := by
        simp only [List.mem_cons, List.not_mem_nil, or_false] at ym
        rcases ym with rfl | rfl <;> exact ⟨_, rfl, by decide, by decide⟩
      have e4 := hw (2000 + v) 3000 12 h3 (by decide) (bts (by decide)) (by decide)
      obtain ⟨e, se, pe, e5⟩ := fst_div hd (fst_fr (a := 2000 + v) (b := 3000) (by omega) (by omega) (by decide) (by decide)) sc cp h3
      obtain ⟨h9, t1, t2⟩ := tidy_up (d := fr e) (fr_flat _) ua (show N ≤ N + 6 by omega) (((u1.trans u2).trans u3).mono (by omega))
      refine ⟨e, h9, se, pe, ?_, t2⟩
      simp [run, F_law_first, B_law_first, exs, ex, ev, evs, asn, asBl, R.calm, List.set, bop, cmpD, eqD, lineOk, sizeLine, e1, e2, e3, e4, e5, t1]
    · by_cases w3 : 3 < w
      · obtain ⟨v3, h3, e3, v3a, v3b, u3⟩ := hn n (N + 2) 60 h2 u2.at_ (by omega) (by decide) (by decide)
        have e4 := hw v3 60 6 h3 (by decide) (bts (by decide)) (by decide)
        obtain ⟨e, se, pe, e5⟩ := fst_div hd (fst_fr (a := v3) (b := 60) (by omega) (by omega) (by decide) (by decide)) sc cp h3
        obtain ⟨h9, t1, t2⟩ := tidy_up (d := fr e) (fr_flat _) ua (show N ≤ N + 6 by omega) (((u1.trans u2).trans u3).mono (by omega))
        refine ⟨e, h9, se, pe, ?_, t2⟩
        simp [run, F_law_first, B_law_first, exs, ex, ev, evs, asn, asBl, R.calm, List.set, bop, cmpD, eqD, lineOk, sizeLine, e1, e2, e3, e4, e5, t1, w0, w1, w3]
      · obtain ⟨e, se, pe, e5⟩ := fst_div hd px sc cp h2
        obtain ⟨h9, t1, t2⟩ := tidy_up (d := fr e) (fr_flat _) ua (show N ≤ N + 6 by omega) ((u1.trans u2).mono (by omega))
        refine ⟨e, h9, se, pe, ?_, t2⟩
        simp [run, F_law_first, B_law_first, exs, ex, ev, evs, asn, asBl, R.calm, List.set, bop, cmpD, eqD, lineOk, sizeLine, e1, e2, e5, t1, w0, w1, w3]
end
end HS

/-! k37: errors, gaps. -/
namespace HS
open PySem L2
def L_errors_for_0 (f_is_lower f_is_lost_at f_next_error : Nat) : Ss :=
    (.cons (.ife (.not (.call f_is_lower (.cons (.var 3) (.cons (.var 4) .nil)))) (
      (.cons (.ret (.var 5)) .nil)) (.nil)) 
    (.cons (.ife (.call f_is_lost_at (.cons (.var 0) (.cons (.var 4) .nil))) (
      (.cons (.ret .non) .nil)) (.nil)) 
    (.cons (.asg (.nm 4) (.call f_next_error (.cons (.var 0) (.cons (.var 1) (.cons (.var 4) .nil))))) .nil)))
def B_errors_for (f_check_start f_check_gap g_MOST_STEPS f_is_lower f_is_lost_at f_next_error : Nat) : Ss :=
  (.cons (.exp (.call f_check_start (.cons (.var 0) (.cons (.var 1) (.cons (.var 2) .nil))))) 
  (.cons (.exp (.call f_check_gap (.cons (.var 3) .nil))) 
  (.cons (.asg (.nm 4) (.var 2)) 
  (.cons (.fr (.nm 5) (.rng (.cons (.bin .add (.glb g_MOST_STEPS) (.int 1)) .nil)) (L_errors_for_0 f_is_lower f_is_lost_at f_next_error)) 
  (.cons (.ret .non) .nil)))))
def F_errors_for (f_check_start f_check_gap g_MOST_STEPS f_is_lower f_is_lost_at f_next_error : Nat) : Df := ⟨4, 6, B_errors_for f_check_start f_check_gap g_MOST_STEPS f_is_lower f_is_lost_at f_next_error⟩
def L_law_urn_0 : Ss :=
    (.cons (.asg (.nm 3) (.bin .mod (.blt .int (.cons (.bin .add (.bin .add (.bin .mul (.var 3) (.int 43591)) (.bin .mod (.blt .int (.cons (.var 4) .nil)) (.int 2147483423))) (.int 43)) .nil)) (.int 2147483423))) .nil)
def B_law_urn (cA cB cC : Int) : Ss :=
  (.cons (.asg (.nm 2) (.ife (.cmp .Lt (.var 1) (.blt .len (.cons (.var 0) .nil))) (.blt .int (.cons (.idx (.var 0) (.var 1)) .nil)) (.bin .add (.bin .add (.bin .mul (.int cA) (.var 1)) (.int cB)) (.bin .mod (.blt .int (.cons (.blt .sum (.cons (.slc (.var 0) .no (.so (.int 5))) .nil)) .nil)) (.int 999769))))) 
  (.cons (.asg (.nm 3) (.bin .add (.int cC) (.bin .mul (.int 2903) (.var 1)))) 
  (.cons (.fr (.nm 4) (.pln (.bin .add (.slc (.var 0) .no (.so (.int 11))) (.lst (.cons (.var 2) .nil)))) (L_law_urn_0)) 
  (.cons (.ret (.lst (.cons (.ife (.or (.cmp .Lt (.var 2) (.int 0)) (.cmp .GtE (.var 2) (.bin .pow (.int 10) (.int 18)))) (.blt .abs (.cons (.var 2) .nil)) (.int 0)) (.cons (.var 3) (.cons (.int 0) .nil))))) .nil))))
def F_law_urn (cA cB cC : Int) : Df := ⟨2, 5, B_law_urn cA cB cC⟩
def L_law_errors_0 (f__law_is_lost f__law_led : Nat) : Ss :=
    (.cons (.ife (.call f__law_is_lost (.cons (.var 0) (.cons (.idx (.var 3) (.neg (.int 1))) .nil))) (
      (.cons (.ret (.var 3)) .nil)) (.nil)) 
    (.cons (.exp (.app (.var 3) (.call f__law_led (.cons (.var 0) (.cons (.var 1) (.cons (.idx (.var 3) (.neg (.int 1))) .nil)))))) .nil))
def B_law_errors (f__law_is_lost f__law_led : Nat) : Ss :=
  (.cons (.asg (.nm 3) (.lst (.cons (.var 2) .nil))) 
  (.cons (.fr (.nm 4) (.rng (.cons (.int 6) .nil)) (L_law_errors_0 f__law_is_lost f__law_led)) 
  (.cons (.ret (.var 3)) .nil)))
def F_law_errors (f__law_is_lost f__law_led : Nat) : Df := ⟨3, 5, B_law_errors f__law_is_lost f__law_led⟩
def B_law_gap (f__law_any_of f__law_nip f__law_frac f__law_mul : Nat) : Ss :=
  (.cons (.asg (.tup (.cons (.nm 2) (.cons (.nm 3) .nil))) (.tup (.cons (.call f__law_any_of (.cons (.var 0) (.cons (.var 1) .nil))) (.cons (.call f__law_nip (.cons (.var 0) (.cons (.int 4) .nil))) .nil)))) 
  (.cons (.ife (.cmp .Eq (.var 3) (.int 0)) (
    (.cons (.ret (.call f__law_frac (.cons (.bin .add (.int 1) (.call f__law_nip (.cons (.var 0) (.cons (.int 30) .nil)))) (.cons (.bin .add (.int 1) (.call f__law_nip (.cons (.var 0) (.cons (.int 300) .nil)))) .nil)))) .nil)) (.nil)) 
  (.cons (.ife (.cmp .Lt (.var 3) (.int 3)) (
    (.cons (.asg (.nm 2) (.call f__law_mul (.cons (.var 2) (.cons (.call f__law_frac (.cons (.bin .sub (.bin .add (.bin .pow (.int 10) (.int 6)) (.bin .mul (.int 2) (.var 3))) (.int 3)) (.cons (.bin .pow (.int 10) (.int 6)) .nil))) .nil)))) .nil)) (.nil)) 
  (.cons (.ret (.ife (.cmp .Gt (.idx (.var 2) (.int 0)) (.int 0)) (.var 2) (.tup (.cons (.int 1) (.cons (.int 1000) .nil))))) .nil))))
def F_law_gap (f__law_any_of f__law_nip f__law_frac f__law_mul : Nat) : Df := ⟨2, 4, B_law_gap f__law_any_of f__law_nip f__law_frac f__law_mul⟩
def L_law_right_0 (f__law_gap f__law_sub f_errors_for : Nat) : Ss :=
    (.cons (.asg (.nm 6) (.call f__law_gap (.cons (.var 0) (.cons (.slc (.var 4) .no (.so (.int 5))) .nil)))) 
    (.cons (.asg (.nm 7) (.lc (.var 8) (.nm 8) (.rng (.cons (.blt .len (.cons (.var 4) .nil)) .nil)) (.so (.cmp .GtE (.idx (.call f__law_sub (.cons (.var 6) (.cons (.idx (.var 4) (.var 8)) .nil))) (.int 0)) (.int 0))) [8])) 
    (.cons (.asg (.nm 9) (.ife (.cmp .NotEq (.var 7) (.lst .nil)) (.idx (.var 7) (.int 0)) .non)) 
    (.cons (.ife (.cmp .NotEq (.blt .repr (.cons (.call f_errors_for (.cons (.var 1) (.cons (.var 2) (.cons (.var 3) (.cons (.var 6) .nil))))) .nil)) (.blt .repr (.cons (.var 9) .nil))) (
      (.cons (.ret (.bl false)) .nil)) (.nil)) 
    (.cons (.ife (.cmp .NotEq (.blt .repr (.cons (.callk f_errors_for .nil [3, 2, 1, 0] (.cons (.var 6) (.cons (.var 3) (.cons (.var 2) (.cons (.var 1) .nil))))) .nil)) (.blt .repr (.cons (.var 9) .nil))) (
      (.cons (.ret (.bl false)) .nil)) (.nil)) .nil)))))
def B_law_right (f__law_world f__law_first f__law_errors f__law_gap f__law_sub f_errors_for : Nat) : Ss :=
  (.cons (.asg (.tup (.cons (.nm 1) (.cons (.nm 2) .nil))) (.call f__law_world (.cons (.var 0) .nil))) 
  (.cons (.asg (.nm 3) (.call f__law_first (.cons (.var 0) (.cons (.var 1) .nil)))) 
  (.cons (.asg (.nm 4) (.call f__law_errors (.cons (.var 1) (.cons (.var 2) (.cons (.var 3) .nil))))) 
  (.cons (.fr (.nm 5) (.rng (.cons (.int 3) .nil)) (L_law_right_0 f__law_gap f__law_sub f_errors_for)) 
  (.cons (.ret (.bl true)) .nil)))))
def F_law_right (f__law_world f__law_first f__law_errors f__law_gap f__law_sub f_errors_for : Nat) : Df := ⟨1, 10, B_law_right f__law_world f__law_first f__law_errors f__law_gap f__law_sub f_errors_for⟩
def B_law (f__law_right f__law_urn : Nat) : Ss :=
  (.cons (.ret (.blt .all (.cons (.lc (.call f__law_right (.cons (.call f__law_urn (.cons (.var 0) (.cons (.var 1) .nil))) .nil)) (.nm 1) (.rng (.cons (.int 2) .nil)) .no [1]) .nil))) .nil)
def F_law (f__law_right f__law_urn : Nat) : Df := ⟨1, 2, B_law f__law_right f__law_urn⟩
def errs (c r : Rat) : Nat → Rat → List Rat
  | 0, e => [e]
  | k + 1, e => if 1 ≤ c * e then [e] else e :: errs c r k (nxt c r e)
def due (c r g : Rat) : Nat → Nat → Rat → Option Nat
  | _, 0, _ => none
  | s, k + 1, e => if e ≤ g then some s else if 1 ≤ c * e then none else due c r g (s + 1) k (nxt c r e)
def fstLe (g : Rat) : Nat → List Rat → Option Nat
  | _, [] => none
  | s, x :: xs => if x ≤ g then some s else fstLe g (s + 1) xs
theorem due_errs (c r g : Rat) : ∀ (k s : Nat) (e : Rat), due c r g s (k + 1) e = fstLe g s (errs c r k e)
  | 0, s, e => by simp [due, errs, fstLe]
  | k + 1, s, e => by
    rw [due, errs]
    by_cases h1 : e ≤ g
    · by_cases h2 : 1 ≤ c * e <;> simp [h1, h2, fstLe]
    · by_cases h2 : 1 ≤ c * e
      · simp [h1, h2, fstLe]
      · simp [h1, h2, fstLe, due_errs c r g k]
theorem errs_ne (c r : Rat) : ∀ (k : Nat) (e : Rat), errs c r k e ≠ []
  | 0, e => by simp [errs]
  | k + 1, e => by rw [errs]; split <;> simp
theorem errs_len (c r : Rat) : ∀ (k : Nat) (e : Rat), (errs c r k e).length ≤ k + 1
  | 0, e => by simp [errs]
  | k + 1, e => by
    rw [errs]
    split
    · simp
    · have := errs_len c r k (nxt c r e)
      simp
      omega
theorem lost_ne {c e : Rat} (h : ¬ 1 ≤ c * e) : c * e ≠ 1 := fun z => h (by rw [z]; exact Rat.le_refl)
theorem errs_sz {c r : Rat} (w : Wd c r) : ∀ (k B : Nat) (e : Rat), Sz B e → (B + 31) * 2 ^ k ≤ 3008 → ∀ x ∈ errs c r k e, Sz 2977 x
  | 0, B, e, he, hB, x, hx => by
    simp [errs] at hx
    subst hx
    exact he.mono (by omega)
  | k + 1, B, e, he, hB, x, hx => by
    rw [errs] at hx
    rw [Nat.pow_succ] at hB
    have hB2 : (2 * B + 31 + 31) * 2 ^ k ≤ 3008 := by
      have : (2 * B + 31 + 31) * 2 ^ k = (B + 31) * (2 ^ k * 2) := by rw [show 2 * B + 31 + 31 = (B + 31) * 2 by omega, Nat.mul_assoc, Nat.mul_comm 2]
      omega
    have p1 : 1 ≤ 2 ^ k := Nat.one_le_two_pow
    have hB3 : B ≤ 2977 := by
      have : (B + 31) * 1 ≤ (B + 31) * (2 ^ k * 2) := Nat.mul_le_mul_left _ (by omega)
      omega
    split at hx
    · simp at hx; subst hx; exact he.mono hB3
    · rename_i hl
      rcases List.mem_cons.mp hx with rfl | hx
      · exact he.mono hB3
      · exact errs_sz w k (2 * B + 31) _ (sz_nxt w.sc w.sr he (lost_ne hl)) hB2 x hx
def optD : Option Nat → D
  | none => .non
  | some n => .int n
def S_errsOf (f : Fn) : Prop := ∀ (c r e : Rat) h, Wd c r → Sz 16 e → f [fr c, fr r, fr e] h = .ok (.ref h.length) (h ++ [.lst ((errs c r 6 e).map fr)])
theorem flats_fr : ∀ l : List Rat, D.flats (l.map fr) = true
  | [] => rfl
  | q :: l => by simp [fr_flat, flats_fr l]
theorem atI_last {xs : List D} {d : D} : atI (xs ++ [d]) (-1) = some d := by
  have : ixN (xs ++ [d]).length (-1) = some xs.length := by
    unfold ixN
    simp
    omega
  unfold atI
  rw [this]
  simp
section
variable {Δ : Nat → Fn} {gl : Nat → D}
theorem get_end {h : Hh} {c : C} : (h ++ [c])[h.length]? = some c := by simp
theorem set_end {h : Hh} {c d : C} : (h ++ [c]).set h.length d = h ++ [d] := by simp
theorem pow_step {B k : Nat} (hB : (B + 31) * 2 ^ (k + 1) ≤ 3008) : (2 * B + 31 + 31) * 2 ^ k ≤ 3008 ∧ B ≤ 2977 := by
  rw [Nat.pow_succ] at hB
  have p1 : 1 ≤ 2 ^ k := Nat.one_le_two_pow
  constructor
  · have : (2 * B + 31 + 31) * 2 ^ k = (B + 31) * (2 ^ k * 2) := by rw [show 2 * B + 31 + 31 = (B + 31) * 2 by omega, Nat.mul_assoc, Nat.mul_comm 2]
    omega
  · have : (B + 31) * 1 ≤ (B + 31) * (2 ^ k * 2) := Nat.mul_le_mul_left _ (by omega)
    omega
theorem errs_loop {tg : D → En → Hh → R En} {bd : En → Hh → R F} {c r : Rat} (w : Wd c r) (h : Hh) (St : Option D → En) (htg : ∀ d z h, tg d (St z) h = .ok (St (some d)) h)
    (hb1 : ∀ (acc : List Rat) (e : Rat) (B : Nat) (z : Option D), Sz B e → B ≤ 2977 → 1 ≤ c * e → bd (St z) (h ++ [.lst ((acc ++ [e]).map fr)]) = .ok (.rt (.ref h.length)) (h ++ [.lst ((acc ++ [e]).map fr)]))
    (hb2 : ∀ (acc : List Rat) (e : Rat) (B : Nat) (z : Option D), Sz B e → B ≤ 2977 → ¬ 1 ≤ c * e → acc.length < 1000 → bd (St z) (h ++ [.lst ((acc ++ [e]).map fr)]) = .ok (.nx (St z)) (h ++ [.lst (((acc ++ [e]) ++ [nxt c r e]).map fr)])) :
    ∀ (items : List D) (acc : List Rat) (B : Nat) (e : Rat) (z : Option D), Sz B e → (B + 31) * 2 ^ items.length ≤ 3008 → acc.length + items.length < 1000 →
      ∃ f, forL [] tg bd items (St z) (h ++ [.lst ((acc ++ [e]).map fr)]) = .ok f (h ++ [.lst ((acc ++ errs c r items.length e).map fr)]) ∧ (f = .rt (.ref h.length) ∨ ∃ z, f = .nx (St z))
  | [], acc, B, e, z, he, hB, hlen => ⟨.nx (St z), by simp [forL, gsOk_nil, errs], .inr ⟨z, rfl⟩⟩
  | d :: items, acc, B, e, z, he, hB, hlen => by
    obtain ⟨hB2, hB3⟩ := pow_step hB
    unfold forL
    rw [if_pos (gsOk_nil _), htg]
    by_cases hlost : 1 ≤ c * e
    · refine ⟨.rt (.ref h.length), ?_, .inl rfl⟩
      simp only [R.calm_ok, R.bind_ok, hb1 acc e B (some d) he hB3 hlost, List.length_cons, errs, hlost, if_true]
    · obtain ⟨f, e1, e2⟩ := errs_loop w h St htg hb1 hb2 items (acc ++ [e]) (2 * B + 31) (nxt c r e) (some d) (sz_nxt w.sc w.sr he (lost_ne hlost)) hB2 (by simp at hlen ⊢; omega)
      refine ⟨f, ?_, e2⟩
      simp only [R.calm_ok, R.bind_ok, hb2 acc e B (some d) he hB3 hlost (by simp at hlen; omega), List.length_cons, errs, hlost, if_false, e1]
      simp
theorem s_law_errors {i j : Nat} (hl : S_lost (Δ i)) (hn : S_next (Δ j)) : S_errsOf (run Δ gl (F_law_errors i j)) := by
  intro c r e0 h w he
  obtain ⟨f, e1, e2⟩ := errs_loop (tg := fun d ρ h => R.ok (List.set ρ 4 (some d)) h) (bd := fun ρ h => exs Δ gl (L_law_errors_0 i j) ρ h)
    w h (fun z => [some (fr c), some (fr r), some (fr e0), some (.ref h.length), z]) (fun d z h => by simp [List.set])
    (fun acc e B z he hB hlost => by
      have l1 := fun h => hl c e 4 B h w.sc he (by omega)
      have a1 : atI (acc.map fr ++ [fr e]) (-1) = some (fr e) := atI_last
      simp [L_law_errors_0, exs, ex, ev, evs, asBl, ixD, listAt, get_end, a1, l1, hlost])
    (fun acc e B z he hB hlost hlen => by
      have l1 := fun h => hl c e 4 B h w.sc he (by omega)
      have n1 := fun h => hn c r e B h w.sc w.sr he hB (lost_ne hlost)
      have a1 : atI (acc.map fr ++ [fr e]) (-1) = some (fr e) := atI_last
      have sl : acc.length + 1 < sizeLine := Nat.lt_of_lt_of_le (show acc.length + 1 < 1001 by omega) (by decide)
      simp [L_law_errors_0, exs, ex, ev, evs, asBl, ixD, listAt, get_end, a1, l1, hlost, n1, lstOk, app, sl])
    (upFrom 0 6) [] 16 e0 none he (by decide) (by decide)
  have e3 : tidy h (.ref h.length) (h ++ [.lst ((errs c r 6 e0).map fr)]) = .ok (.ref h.length) (h ++ [.lst ((errs c r 6 e0).map fr)]) := by
    unfold tidy
    rw [if_neg (by simp)]
    simp [flats_fr]
  have e4 : small62 6 = true := by decide
  simp only [show (upFrom 0 6).length = 6 from rfl, List.nil_append, List.map_cons, List.map_nil] at e1
  simp [run, F_law_errors, B_law_errors, exs, ex, ev, evs, evi, asn, rngD, e4, lineOk, sizeLine, alloc, R.calm, List.set, e1]
  rcases e2 with rfl | ⟨z, rfl⟩
  · simp [e3]
  · simp [e3]
end
end HS

/-! k37: gaps, the program's search, urns. -/
namespace HS
open PySem L2
def S_gap (f : Fn) : Prop := ∀ (n N m : Nat) (es : List Rat) h, UAt n N h → N ≤ 900000 → m ≠ n → h[m]? = some (.lst (es.map fr)) → es ≠ [] → es.length < 1000 → (∀ e ∈ es, Sz 2977 e) → ∃ g h', 0 < g.num ∧ Sz 3000 g ∧ f [.ref n, .ref m] h = .ok (fr g) h' ∧ Up n (N + 6) h h'
def S_errorsFor (f : Fn) : Prop := ∀ (c r e g : Rat) h, Wd c r → Sz 16 e → 0 ≤ e.num → 0 < g.num → Sz 3000 g → f [fr c, fr r, fr e, fr g] h = .ok (optD (due c r g 0 7 e)) h
def S_urn (f : Fn) : Prop := ∀ (ns : List Int) (lap : Int) h, ns.length ≤ 63 → 0 ≤ lap → lap < 1000 → ∃ xs, Ur 0 xs ∧ f [.fz (ns.map D.int), .int lap] h = .ok (.ref h.length) (h ++ [.lst xs])
section
variable {Δ : Nat → Fn} {gl : Nat → D}
set_option maxHeartbeats 1000000 in
theorem s_law_gap {i j k l : Nat} (ha : S_anyL (Δ i)) (hn : S_nip (Δ j)) (hw : S_with (Δ k)) (hm : S_op (· * ·) (Δ l)) : S_gap (run Δ gl (F_law_gap i j k l)) := by
  intro n N m es h ua hN hmn hx hne hlen hsz
  obtain ⟨d, dm, h1, e1, u1⟩ := ha n N m (es.map fr) h ua (by omega) hmn hx (by simpa using hne) (by simp; omega) (fun d hd => by
    obtain ⟨q, _, rfl⟩ := List.mem_map.mp hd
    exact fr_flat q)
  obtain ⟨x, xm, rfl⟩ := List.mem_map.mp dm
  have sx := hsz x xm
  obtain ⟨w, h2, e2, wa, wb, u2⟩ := hn n (N + 1) 4 h1 u1.at_ (by omega) (by decide) (by decide)
  by_cases w0 : w = 0
  · subst w0
    obtain ⟨v3, h3, e3, v3a, v3b, u3⟩ := hn n (N + 2) 30 h2 u2.at_ (by omega) (by decide) (by decide)
    obtain ⟨v4, h4, e4, v4a, v4b, u4⟩ := hn n (N + 3) 300 h3 u3.at_ (by omega) (by decide) (by decide)
    have e5 := hw (1 + v3) (1 + v4) 9 h4 (by omega) (by unfold Bt; omega) (by decide)
    obtain ⟨h9, t1, t2⟩ := tidy_up (d := fr (Rat.divInt (1 + v3) (1 + v4))) (fr_flat _) ua (show N ≤ N + 6 by omega) ((((u1.trans u2).trans u3).trans u4).mono (by omega))
    refine ⟨Rat.divInt (1 + v3) (1 + v4), h9, divInt_pos (by omega) (by omega), (sz_divInt (B := 9) (a := 1 + v3) (b := 1 + v4) (by omega) (by unfold Bt; omega) (by unfold Bt; omega)).mono (by decide), ?_, t2⟩
    simp [run, F_law_gap, B_law_gap, exs, ex, ev, evs, asn, asns, asBl, R.calm, List.set, bop, cmpD, eqD, lineOk, sizeLine, e1, e2, e3, e4, e5, t1]
  · have fin : ∀ (q : Rat), Sz 3000 q → ∃ g, 0 < g.num ∧ Sz 3000 g ∧ (if 0 < q.num then fr q else .tup [.int 1, .int 1000]) = fr g := fun q sq => by
      by_cases hq : 0 < q.num
      · exact ⟨q, hq, sq, by rw [if_pos hq]⟩
      · exact ⟨Rat.divInt 1 1000, by decide, (sz_divInt (B := 10) (by decide) (bts (by decide)) (bts (by decide))).mono (by decide), by rw [if_neg hq]; rfl⟩
    by_cases w3 : w < 3
    · have e3 := hw (1000000 + 2 * w - 3) 1000000 20 h2 (by decide) (bts (by decide)) (by decide)
      have s3 : Sz 20 (Rat.divInt (1000000 + 2 * w - 3) 1000000) := sz_divInt (by decide) (by unfold Bt; omega) (bts (by decide))
      have e4 : Δ l [fr x, fr (Rat.divInt (1000000 + 2 * w - 3) 1000000)] h2 = .ok (fr (x * Rat.divInt (1000000 + 2 * w - 3) 1000000)) h2 := hm x _ 2977 20 h2 sx s3 (by decide)
      have m1 : mulOk 2 w = true := mulOk_of (B := 2) (C := 3) (bts (by decide)) (by unfold Bt; omega) (by decide)
      obtain ⟨g, g1, g2, g3⟩ := fin _ ((sx.mul s3).mono (by decide))
      obtain ⟨h9, t1, t2⟩ := tidy_up (d := fr g) (fr_flat _) ua (show N ≤ N + 6 by omega) ((u1.trans u2).mono (by omega))
      refine ⟨g, h9, g1, g2, ?_, t2⟩
      generalize x * Rat.divInt (1000000 + 2 * w - 3) 1000000 = q at e4 g3
      by_cases hq : 0 < q.num
      · rw [if_pos hq] at g3
        rw [← g3] at t1 ⊢
        simp [run, F_law_gap, B_law_gap, exs, ex, ev, evs, asn, asns, asBl, R.calm, List.set, bop, cmpD, eqD, lineOk, sizeLine, e1, e2, e3, e4, w0, w3, m1]
        simp [fr, ixD, hq]
        exact t1
      · rw [if_neg hq] at g3
        rw [← g3] at t1 ⊢
        simp [run, F_law_gap, B_law_gap, exs, ex, ev, evs, asn, asns, asBl, R.calm, List.set, bop, cmpD, eqD, lineOk, sizeLine, e1, e2, e3, e4, w0, w3, m1]
        simp [fr, ixD, hq]
        exact t1
    · obtain ⟨g, g1, g2, g3⟩ := fin x (sx.mono (by decide))
      obtain ⟨h9, t1, t2⟩ := tidy_up (d := fr g) (fr_flat _) ua (show N ≤ N + 6 by omega) ((u1.trans u2).mono (by omega))
      refine ⟨g, h9, g1, g2, ?_, t2⟩
      by_cases hq : 0 < x.num
      · rw [if_pos hq] at g3
        rw [← g3] at t1 ⊢
        simp [run, F_law_gap, B_law_gap, exs, ex, ev, evs, asn, asns, asBl, R.calm, List.set, bop, cmpD, eqD, lineOk, sizeLine, e1, e2, w0, w3]
        simp [fr, ixD, hq]
        exact t1
      · rw [if_neg hq] at g3
        rw [← g3] at t1 ⊢
        simp [run, F_law_gap, B_law_gap, exs, ex, ev, evs, asn, asns, asBl, R.calm, List.set, bop, cmpD, eqD, lineOk, sizeLine, e1, e2, w0, w3]
        simp [fr, ixD, hq]
        exact t1
theorem pow_step2 {B k : Nat} (hB : (B + 31) * 2 ^ (k + 1) ≤ 6016) : (2 * B + 31 + 31) * 2 ^ k ≤ 6016 ∧ B ≤ 2977 := by
  rw [Nat.pow_succ] at hB
  have p1 : 1 ≤ 2 ^ k := Nat.one_le_two_pow
  constructor
  · have : (2 * B + 31 + 31) * 2 ^ k = (B + 31) * (2 ^ k * 2) := by rw [show 2 * B + 31 + 31 = (B + 31) * 2 by omega, Nat.mul_assoc, Nat.mul_comm 2]
    omega
  · have : (B + 31) * 2 ≤ (B + 31) * (2 ^ k * 2) := Nat.mul_le_mul_left _ (by omega)
    omega
theorem due_loop {tg : D → En → Hh → R En} {bd : En → Hh → R F} {c r g : Rat} (w : Wd c r) (h : Hh) (St : Rat → Option D → En) (htg : ∀ d e z, tg d (St e z) h = .ok (St e (some d)) h)
    (hb : ∀ (e : Rat) (B : Nat) (s : Nat), Sz B e → B ≤ 2977 → bd (St e (some (.int s))) h = .ok (if e ≤ g then .rt (.int s) else if 1 ≤ c * e then .rt .non else .nx (St (nxt c r e) (some (.int s)))) h) :
    ∀ (k s B : Nat) (e : Rat) (z : Option D), Sz B e → (B + 31) * 2 ^ k ≤ 6016 → ∃ f, forL [] tg bd (upFrom s k) (St e z) h = .ok f h ∧ (f = .rt (optD (due c r g s k e)) ∨ ((∃ e z, f = .nx (St e z)) ∧ due c r g s k e = none))
  | 0, s, B, e, z, he, hB => ⟨.nx (St e z), by simp [forL, upFrom, gsOk_nil], .inr ⟨⟨e, z, rfl⟩, rfl⟩⟩
  | k + 1, s, B, e, z, he, hB => by
    obtain ⟨hB2, hB3⟩ := pow_step2 hB
    have e0 : upFrom s (k + 1) = .int s :: upFrom ((s + 1 : Nat) : Int) k := by
      unfold upFrom
      rw [List.range_succ_eq_map, List.map_cons, List.map_map]
      simp [Function.comp_def]
      intro a _
      omega
    rw [e0]
    unfold forL
    rw [if_pos (gsOk_nil _), htg, R.calm_ok, R.bind_ok, hb e B s he hB3, R.bind_ok]
    by_cases h1 : e ≤ g
    · exact ⟨.rt (.int s), by simp [h1], .inl (by simp [due, h1, optD])⟩
    · by_cases h2 : 1 ≤ c * e
      · exact ⟨.rt .non, by simp [h1, h2], .inl (by simp [due, h1, h2, optD])⟩
      · obtain ⟨f, e1, e2⟩ := due_loop w h St htg hb k (s + 1) (2 * B + 31) (nxt c r e) (some (.int s)) (sz_nxt w.sc w.sr he (lost_ne h2)) hB2
        refine ⟨f, ?_, ?_⟩
        · simp only [h1, h2, if_false]
          exact e1
        · simp only [due, h1, h2, if_false]
          exact e2
theorem s_errors_for {i j k l m o : Nat} (hs : S_start (Δ i)) (hg : S_pos (Δ j)) (h6 : gl k = .int 6) (hlw : S_lower (Δ l)) (hl : S_lost (Δ m)) (hn : S_next (Δ o)) : S_errorsFor (run Δ gl (F_errors_for i j k l m o)) := by
  intro c r e0 g h w he he0 hgp hgs
  obtain ⟨f, e1, e2⟩ := due_loop (tg := fun d ρ h => R.ok (List.set ρ 5 (some d)) h) (bd := fun ρ h => exs Δ gl (L_errors_for_0 l m o) ρ h) (g := g)
    w h (fun e z => [some (fr c), some (fr r), some (fr e0), some (fr g), some (fr e), z]) (fun d e z => by simp [List.set])
    (fun e B s he hB => by
      have l1 := hl c e 4 B h w.sc he (by omega)
      have a1 := hlw g e 3000 B h hgs he (by omega)
      by_cases h1 : e ≤ g
      · have h1' : ¬ g < e := Rat.not_lt.mpr h1
        simp [L_errors_for_0, exs, ex, ev, evs, asBl, a1, h1, h1']
      · have h1' : g < e := Rat.not_le.mp h1
        by_cases h2 : 1 ≤ c * e
        · simp [L_errors_for_0, exs, ex, ev, evs, asBl, a1, l1, h1, h1', h2]
        · have n1 := hn c r e B h w.sc w.sr he hB (lost_ne h2)
          simp [L_errors_for_0, exs, ex, ev, evs, asn, asBl, R.calm, List.set, a1, l1, n1, h1, h1', h2])
    7 0 16 e0 none he (by decide)
  have e4 : small62 7 = true := by decide
  have c1 := hs c r e0 h w.sc w.sr w.cp w.rp w.cr he0
  have c2 := hg g h hgp
  simp only [show ((0 : Nat) : Int) = 0 from rfl] at e1
  simp [run, F_errors_for, B_errors_for, exs, ex, ev, evs, evi, asn, rngD, R.calm, List.set, c1, c2, h6, bop, e4, e1]
  rcases e2 with rfl | ⟨⟨e, z, rfl⟩, e3⟩
  · simp
    exact tidy_self (by cases due c r g 0 7 e0 <;> rfl)
  · rw [e3]
    simp [optD]
    exact tidy_self rfl
end
end HS

/-! k37: the urn's making. -/
namespace HS
open PySem L2
theorem cut_ints (ns : List Int) (lo hi : Option Int) : ∃ ms : List Int, cutD (ns.map D.int) lo hi = ms.map D.int ∧ ms.length ≤ ns.length := by
  unfold cutD
  refine ⟨(ns.drop _).take _, by rw [List.map_take, List.map_drop], ?_⟩
  simp
  omega
theorem stir_loop {tg : D → En → Hh → R En} {bd : En → Hh → R F} {gs : Gs} (h : Hh) (hgs : gsOk gs h) (St : Int → Option D → En) (htg : ∀ d e z, tg d (St e z) h = .ok (St e (some d)) h)
    (hb : ∀ (s i : Int), 0 ≤ s → s < 2147483648 → ∃ s', 0 ≤ s' ∧ s' < 2147483648 ∧ bd (St s (some (.int i))) h = .ok (.nx (St s' (some (.int i)))) h) :
    ∀ (items : List Int) (s : Int) (z : Option D), 0 ≤ s → s < 2147483648 → ∃ s' z', 0 ≤ s' ∧ s' < 2147483648 ∧ forL gs tg bd (items.map D.int) (St s z) h = .ok (.nx (St s' z')) h
  | [], s, z, h0, h1 => ⟨s, z, h0, h1, by simp [forL, hgs]⟩
  | i :: items, s, z, h0, h1 => by
    obtain ⟨s1, a, b, e⟩ := hb s i h0 h1
    obtain ⟨s2, z2, a2, b2, e2⟩ := stir_loop h hgs St htg hb items s1 (some (.int i)) a b
    refine ⟨s2, z2, a2, b2, ?_⟩
    rw [List.map_cons]
    unfold forL
    rw [if_pos hgs, htg, R.calm_ok, R.bind_ok, e, R.bind_ok]
    exact e2
theorem atI_some {xs : List D} {i : Int} (h0 : 0 ≤ i) (h1 : i < xs.length) : ∃ k : Nat, k < xs.length ∧ atI xs i = xs[k]? := by
  obtain ⟨k, rfl⟩ := Int.eq_ofNat_of_zero_le h0
  refine ⟨k, by omega, ?_⟩
  have : ixN xs.length (k : Int) = some k := by
    unfold ixN
    simp
    omega
  unfold atI
  rw [this]
  rfl
theorem flats_ints : ∀ l : List Int, D.flats (l.map D.int) = true
  | [] => rfl
  | q :: l => by simp [flats_ints l]
section
variable {Δ : Nat → Fn} {gl : Nat → D}
theorem at0 {b l : Hh} : (b ++ l)[b.length]? = l[0]? := by rw [List.getElem?_append_right (Nat.le_refl _)]; simp
theorem at1 {b l : Hh} : (b ++ l)[b.length + 1]? = l[1]? := by rw [List.getElem?_append_right (by omega)]; simp
theorem at2 {b l : Hh} : (b ++ l)[b.length + 1 + 1]? = l[2]? := by
  rw [List.getElem?_append_right (by omega)]
  congr 1
  omega
set_option maxHeartbeats 2000000 in
theorem urn_rest {cC : Int} (hC0 : 0 ≤ cC) (hC1 : cC < 1000000) (ns : List Int) (lap own : Int) (b : Hh) (hl : ns.length ≤ 63) (h0 : 0 ≤ lap) (h1 : lap < 1000) :
    ∃ xs h', Ur 0 xs ∧ (exs Δ gl (.cons (.asg (.nm 3) (.bin .add (.int cC) (.bin .mul (.int 2903) (.var 1)))) 
  (.cons (.fr (.nm 4) (.pln (.bin .add (.slc (.var 0) .no (.so (.int 11))) (.lst (.cons (.var 2) .nil)))) (L_law_urn_0)) 
  (.cons (.ret (.lst (.cons (.ife (.or (.cmp .Lt (.var 2) (.int 0)) (.cmp .GtE (.var 2) (.bin .pow (.int 10) (.int 18)))) (.blt .abs (.cons (.var 2) .nil)) (.int 0)) (.cons (.var 3) (.cons (.int 0) .nil))))) .nil)))
      [some (.fz (ns.map D.int)), some (.int lap), some (.int own), none, none] b) = .ok (.rt (.ref (b ++ h').length)) (b ++ h' ++ [.lst xs]) := by
  have m1 : mulOk 2903 lap = true := mulOk_of (B := 12) (C := 10) (bts (by decide)) (by unfold Bt; omega) (by decide)
  obtain ⟨ms, ec, lc⟩ := cut_ints ns none (some 11)
  have l1 : ms.length + 1 ≤ 16777216 := by omega
  obtain ⟨s, z, s0, s1, e1⟩ := stir_loop (gs := [(b.length + 1 + 1, (ms ++ [own]).map D.int)]) (tg := fun d ρ h => R.ok (List.set ρ 4 (some d)) h) (bd := fun ρ h => exs Δ gl L_law_urn_0 ρ h) (b ++ [.lst (ms.map D.int), .lst [.int own], .lst ((ms ++ [own]).map D.int)])
    (fun p hp => by
      rw [List.mem_singleton.mp hp]
      simp only [listAt, at2]
      rfl)
    (fun s z => [some (.fz (ns.map D.int)), some (.int lap), some (.int own), some (.int s), z]) (fun d e z => by simp [List.set])
    (fun s i h0 h1 => by
      have m2 : mulOk s 43591 = true := mulOk_of (bt31 h0 h1) (bts (B := 16) (by decide)) (by decide)
      refine ⟨Int.fmod (s * 43591 + Int.fmod i 2147483423 + 43) 2147483423, Int.fmod_nonneg_of_pos _ (by decide), by
        have := Int.fmod_lt_of_pos (s * 43591 + Int.fmod i 2147483423 + 43) (show (0 : Int) < 2147483423 by decide)
        omega, ?_⟩
      simp [L_law_urn_0, exs, ex, ev, evs, asn, bltD, bop, R.calm, List.set, m2]) (ms ++ [own]) (cC + 2903 * lap) none (by omega) (by omega)
  have a : 0 ≤ (if own < 0 ∨ 1000000000000000000 ≤ own then (if own < 0 then -own else own) else 0) := by
    split
    · split <;> omega
    · omega
  refine ⟨[.int (if own < 0 ∨ 1000000000000000000 ≤ own then (if own < 0 then -own else own) else 0), .int s, .int 0], [.lst (ms.map D.int), .lst [.int own], .lst ((ms ++ [own]).map D.int)], ⟨_, _, _, rfl, a, s0, s1, by decide, by decide⟩, ?_⟩
  simp only [List.map_append, List.map_cons, List.map_nil] at e1
  have c0 : ∀ x y : C, (b ++ [x, y])[b.length]? = some x := fun x y => at0
  have c1 : ∀ x y : C, (b ++ [x, y])[b.length + 1]? = some y := fun x y => at1
  have c2 : ∀ x y w : C, (b ++ [x, y, w])[b.length + 1 + 1]? = some w := fun x y w => at2
  have c2' : ∀ (x y w : C) (pf : b.length + 1 + 1 < (b ++ [x, y, w]).length), (b ++ [x, y, w])[b.length + 1 + 1] = w := fun x y w pf => by
    have q := at2 (b := b) (l := [x, y, w])
    rw [List.getElem?_eq_getElem pf] at q
    exact Option.some.inj q
  by_cases w1 : own < 0
  · simp [exs, ex, ev, evs, evo, evi, asn, bop, cmpD, bltD, getI, slD, ec, alloc, lineOk, sizeLine, l1, m1, R.calm, List.set, itemsD, listAt, c0, c1, c2, c2', e1, w1]
  · by_cases w2 : 1000000000000000000 ≤ own
    · simp [exs, ex, ev, evs, evo, evi, asn, bop, cmpD, bltD, getI, slD, ec, alloc, lineOk, sizeLine, l1, m1, R.calm, List.set, itemsD, listAt, c0, c1, c2, c2', e1, w1, w2]
    · simp [exs, ex, ev, evs, evo, evi, asn, bop, cmpD, bltD, getI, slD, ec, alloc, lineOk, sizeLine, l1, m1, R.calm, List.set, itemsD, listAt, c0, c1, c2, c2', e1, w1, w2]
theorem tidy_new {b t : Hh} {xs : List D} (f : D.flats xs = true) : tidy b (.ref (b ++ t).length) (b ++ t ++ [.lst xs]) = .ok (.ref b.length) (b ++ [.lst xs]) := by
  unfold tidy
  rw [if_neg (by simp)]
  have e : (b ++ t ++ [C.lst xs])[(b ++ t).length]? = some (.lst xs) := by simp
  dsimp only
  rw [e]
  dsimp only
  rw [if_pos ⟨f, by rw [List.append_assoc]; exact List.prefix_append _ _, by simp⟩]
theorem ur_flats {N : Nat} {xs : List D} (u : Ur N xs) : D.flats xs = true := by
  obtain ⟨a, b, c, rfl, _⟩ := u
  rfl
set_option maxHeartbeats 2000000 in
theorem s_law_urn {cA cB cC : Int} (hA0 : 0 ≤ cA) (hA1 : cA < 8192) (hC0 : 0 ≤ cC) (hC1 : cC < 1000000) : S_urn (run Δ gl (F_law_urn cA cB cC)) := by
  intro ns lap h hl h0 h1
  have ml : ((ns.map D.int).length : Int) = ns.length := by simp
  by_cases hlap : lap < ns.length
  · obtain ⟨k, hk, ek⟩ := atI_some (xs := ns.map D.int) h0 (by rw [ml]; exact hlap)
    have hk' : k < ns.length := by simpa using hk
    have ek : atI (ns.map D.int) lap = some (.int ns[k]) := by
      rw [ek, List.getElem?_map, List.getElem?_eq_getElem hk']
      rfl
    obtain ⟨xs, h', u, e⟩ := urn_rest (Δ := Δ) (gl := gl) hC0 hC1 ns lap ns[k] h hl h0 h1
    refine ⟨xs, u, ?_⟩
    have t := tidy_new (b := h) (t := h') (ur_flats u)
    simp only [run, F_law_urn, B_law_urn]
    unfold exs
    simp only [List.length_cons, List.length_nil, if_true, List.map_cons, List.map_nil, List.replicate, List.cons_append, List.nil_append]
    simp only [ex, ev, evs, asn, bltD, cmpD, ixD, List.getElem?_cons_zero, List.getElem?_cons_succ, R.bind_ok, R.toF_ok, R.calm_ok, ml, hlap, ek, decide_true, List.set]
    rw [e]
    exact t
  · obtain ⟨ms, ec, lc⟩ := cut_ints ns none (some 5)
    have m1 : mulOk cA lap = true := mulOk_of (B := 13) (C := 10) (by unfold Bt; omega) (by unfold Bt; omega) (by decide)
    obtain ⟨xs, h', u, e⟩ := urn_rest (Δ := Δ) (gl := gl) hC0 hC1 ns lap (cA * lap + cB + Int.fmod ms.sum 999769) (h ++ [.lst (ms.map D.int)]) hl h0 h1
    refine ⟨xs, u, ?_⟩
    have t := tidy_new (b := h) (t := [.lst (ms.map D.int)] ++ h') (ur_flats u)
    have q : (h ++ [C.lst (ms.map D.int)])[h.length]? = some (.lst (ms.map D.int)) := by simp
    simp only [run, F_law_urn, B_law_urn]
    unfold exs
    simp only [List.length_cons, List.length_nil, if_true, List.map_cons, List.map_nil, List.replicate, List.cons_append, List.nil_append]
    simp only [ex, ev, evs, evo, asn, bltD, cmpD, ixD, bop, getI, slD, ec, alloc, listAt, q, intsOf_ints, m1, List.getElem?_cons_zero, List.getElem?_cons_succ, R.bind_ok, R.toF_ok, R.calm_ok, ml, hlap, decide_false, List.set, if_true, ne_eq, not_false_eq_true, show ¬ ((999769 : Int) = 0) by decide]
    rw [e]
    rw [← List.append_assoc] at t
    exact t
end
end HS

/-! k37: the law. -/
namespace HS
open PySem L2
theorem deeps_ints (rd : Nat → Option PyData) : ∀ ms : List Int, D.deepsW rd (ms.map D.int) = some (ms.map PyData.int)
  | [] => rfl
  | m :: ms => by simp [D.deepsW, D.deepW, deeps_ints rd ms]
theorem canLay_ints : ∀ ms : List Int, PyData.canLayAll0 (ms.map PyData.int) = true
  | [] => rfl
  | m :: ms => by simp [PyData.canLayAll0, PyData.canLay0, canLay_ints ms]
theorem depth_ints : ∀ ms : List Int, PyData.depthAll (ms.map PyData.int) = 0
  | [] => rfl
  | m :: ms => by simp [PyData.depthAll, PyData.depth, depth_ints ms]
theorem shaped_ints (ms : List Int) : SeqAt.shaped (.list (ms.map PyData.int)) = true := by
  simp [SeqAt.shaped, PyData.canLay0, canLay_ints, PyData.depth, depth_ints]
theorem deep_lst {h : Hh} {k : Nat} {ms : List Int} (e : h[k]? = some (.lst (ms.map D.int))) : (D.ref k).deep h = some (.list (ms.map PyData.int)) := by
  show deepR h 8 k = _
  unfold deepR
  rw [e]
  simp [deeps_ints]
theorem eqD_nil {h : Hh} {k j : Nat} {ms : List Int} (e : h[k]? = some (.lst (ms.map D.int))) (e2 : h[j]? = some (.lst [])) : eqD h (.ref k) (.ref j) = some (decide (ms = [])) := by
  have a := deep_lst e
  have b := deep_lst (ms := []) e2
  unfold eqD
  simp only [a, b]
  rw [if_pos ⟨shaped_ints ms, shaped_ints []⟩]
  cases ms with
  | nil => rfl
  | cons m ms => rfl
def rp (d : D) : Option Str := match d with
  | .non => some "None"
  | .int i => some (toString i : String)
  | _ => none
theorem repr_optD {o : Option Nat} (h : Hh) (ho : ∀ k, o = some k → k < 10) : ∃ s : Str, bltD .repr [optD o] h = .ok (.str s) h := by
  cases o with
  | none =>
    have hl : PyData.none.shown.length ≤ sizeLine := by decide
    exact ⟨PyData.none.shown, by simp [bltD, optD, D.deep, D.deepW, PyData.hasDict, PyData.showable, PyData.depth, hl]⟩
  | some k =>
    have hk := ho k rfl
    have : k = 0 ∨ k = 1 ∨ k = 2 ∨ k = 3 ∨ k = 4 ∨ k = 5 ∨ k = 6 ∨ k = 7 ∨ k = 8 ∨ k = 9 := by omega
    have key : ∀ i : Int, 0 ≤ i → i < 10 → (PyData.int i).shown.length ≤ sizeLine → ∃ s : Str, bltD .repr [.int i] h = .ok (.str s) h := fun i h0 h1 hl => by
      refine ⟨(PyData.int i).shown, ?_⟩
      have : i.natAbs.log2 < 1920 := by
        have : i.natAbs.log2 ≤ 4 := (show Bt 4 i by unfold Bt; omega).log
        omega
      simp [bltD, D.deep, D.deepW, PyData.hasDict, PyData.showable, PyData.depth, this, hl]
    rcases this with rfl | rfl | rfl | rfl | rfl | rfl | rfl | rfl | rfl | rfl <;> exact key _ (by decide) (by decide) (by decide)
/-- the numbers of the good ones -/
def good (g : Rat) : Nat → List Rat → List Int
  | _, [] => []
  | s, e :: es => if e ≤ g then (s : Int) :: good g (s + 1) es else good g (s + 1) es
theorem good_head (g : Rat) : ∀ (s : Nat) (es : List Rat), match good g s es with
    | [] => fstLe g s es = none
    | i :: _ => ∃ k : Nat, fstLe g s es = some k ∧ i = k ∧ k < s + es.length
  | s, [] => rfl
  | s, e :: es => by
    unfold good fstLe
    by_cases h : e ≤ g
    · simp only [h, if_true]
      exact ⟨s, rfl, rfl, by simp⟩
    · simp only [h, if_false]
      have := good_head g (s + 1) es
      generalize good g (s + 1) es = l at this ⊢
      cases l with
      | nil => exact this
      | cons i l =>
        obtain ⟨k, a, b, c⟩ := this
        exact ⟨k, a, b, by simp; omega⟩
theorem good_len (g : Rat) : ∀ (s : Nat) (es : List Rat), (good g s es).length ≤ es.length
  | s, [] => by simp [good]
  | s, e :: es => by
    unfold good
    have := good_len g (s + 1) es
    split <;> simp <;> omega
theorem upFrom_cons (s k : Nat) : upFrom (s : Int) (k + 1) = .int s :: upFrom ((s + 1 : Nat) : Int) k := by
  unfold upFrom
  rw [List.range_succ_eq_map, List.map_cons, List.map_map]
  simp [Function.comp_def]
  intro a _
  omega
theorem lc_good {el : D → Hh → R (Option D)} {g : Rat} (h : Hh) : ∀ (es : List Rat) (s : Nat) (acc : List Int), (∀ i e, es[i]? = some e → el (.int ((s + i : Nat) : Int)) h = .ok (if e ≤ g then some (.int ((s + i : Nat) : Int)) else none) h) → acc.length + es.length < 1000 →
    lcL [] el (upFrom (s : Int) es.length) (acc.map D.int) h = alloc (.lst ((acc ++ good g s es).map D.int)) h
  | [], s, acc, hel, hl => by
    have : acc.length ≤ sizeLine := Nat.le_trans (show acc.length ≤ 1000 by simp at hl; omega) (by decide)
    simp [upFrom, lcL, gsOk_nil, good, this]
  | e :: es, s, acc, hel, hl => by
    have hs : acc.length < sizeLine := Nat.lt_of_lt_of_le (show acc.length < 1001 by simp at hl; omega) (by decide)
    rw [List.length_cons, upFrom_cons]
    unfold lcL
    rw [if_pos ⟨gsOk_nil _, by simpa using hs⟩]
    have h0 := hel 0 e rfl
    simp only [Nat.add_zero] at h0
    rw [h0, R.bind_ok]
    have tl : ∀ i x, es[i]? = some x → el (.int ((s + 1 + i : Nat) : Int)) h = .ok (if x ≤ g then some (.int ((s + 1 + i : Nat) : Int)) else none) h := fun i x hx => by
      have := hel (i + 1) x (by simpa using hx)
      rw [show s + (i + 1) = s + 1 + i by omega] at this
      exact this
    by_cases hg : e ≤ g
    · simp only [hg, if_true, good]
      have := lc_good h es (s + 1) (acc ++ [(s : Int)]) tl (by simp at hl ⊢; omega)
      simp at this ⊢
      exact this
    · simp only [hg, if_false, good]
      exact lc_good h es (s + 1) acc tl (by simp at hl; omega)
end HS

/-! k37: the law's turns. -/
namespace HS
open PySem L2
theorem UAt.app {n N : Nat} {h t : Hh} (u : UAt n N h) : UAt n N (h ++ t) := by
  have l := u.lt
  obtain ⟨xs, e, x⟩ := u
  exact ⟨xs, by rw [List.getElem?_append_left l]; exact e, x⟩
theorem at_app {h t : Hh} {m : Nat} {c : C} (e : h[m]? = some c) : (h ++ t)[m]? = some c := by
  rw [List.getElem?_append_left (List.getElem?_eq_some_iff.mp e).1]; exact e
theorem cut5 (xs : List D) : cutD xs none (some 5) = xs.take 5 := by
  unfold cutD
  rw [show HT.sIx xs.length xs.length (some 5) = min 5 xs.length from HT.sIx_nat xs.length xs.length 5, HT.sIx_none]
  simp only [List.drop_zero, Nat.sub_zero]
  rw [← List.take_eq_take_min]
def S_right (f : Fn) : Prop := ∀ (n : Nat) h, UAt n 0 h → ∃ h', f [.ref n] h = .ok (.bl true) h'
section
variable {Δ : Nat → Fn} {gl : Nat → D}
theorem atI_nat {xs : List D} {i : Nat} (hi : i < xs.length) : atI xs ((i : Nat) : Int) = xs[i]? := by
  have : ixN xs.length (i : Int) = some i := by
    unfold ixN
    simp
    omega
  unfold atI
  rw [this]
  rfl
theorem sub_nn (g x : Rat) : (0 ≤ (g - x).num) = (x ≤ g) := by
  rw [Rat.num_nonneg]
  exact propext ⟨fun h => by grind, fun h => by grind⟩
theorem lc_good0 {el : D → Hh → R (Option D)} {g : Rat} (h : Hh) (es : List Rat) (hel : ∀ (i : Nat) e, es[i]? = some e → el (.int (i : Int)) h = .ok (if e ≤ g then some (.int (i : Int)) else none) h) (hl : es.length < 1000) :
    lcL [] el (upFrom 0 es.length) [] h = alloc (.lst ((good g 0 es).map D.int)) h := by
  have q := lc_good (el := el) (g := g) h es 0 [] (fun i e he => by rw [Nat.zero_add]; exact hel i e he) (by simpa using hl)
  rw [List.nil_append] at q
  exact q
theorem right_el {j m : Nat} {g : Rat} {E : List Rat} {h2 : Hh} (v0 v1 v2 v3 z5 z7 z8 z9 : Option D) (hm2 : h2[m]? = some (.lst (E.map fr))) (sub : ∀ x ∈ E, Δ j [fr g, fr x] h2 = .ok (fr (g - x)) h2) (i : Nat) (x : Rat) (hx : E[i]? = some x) :
    evt Δ gl (.so (.cmp .GtE (.idx (.call j (.cons (.var 6) (.cons (.idx (.var 4) (.var 8)) .nil))) (.int 0)) (.int 0))) [v0, v1, v2, v3, some (.ref m), z5, some (fr g), z7, some (.int (i : Int)), z9] h2 = .ok (decide (x ≤ g)) h2 := by
  have hi : i < E.length := (List.getElem?_eq_some_iff.mp hx).1
  have ai : atI (E.map fr) ((i : Nat) : Int) = some (fr x) := by
    rw [atI_nat (by simpa using hi), List.getElem?_map, hx]
    rfl
  have sx := sub x (List.mem_of_getElem? hx)
  have sg := sub_nn g x
  simp only [evt, ev, evs, List.getElem?_cons_zero, List.getElem?_cons_succ, R.bind_ok, ixD, listAt, hm2, ai, sx]
  unfold fr
  simp only [atI_0, R.bind_ok, cmpD, asBl, sg]
theorem ev_lc {elt : E} {t : T} {it : It} {tt : Op} {own : List Nat} {ρ : En} {h h1 : Hh} {p : List D} {gs : Gs} (e : evi Δ gl it ρ h = .ok (p, gs) h1) :
    ev Δ gl (.lc elt t it tt own) ρ h = lcL gs (fun d h => ((asn Δ gl t d (wipeD ρ own) h).bind fun ρ1 h => (evt Δ gl tt ρ1 h).bind fun b h => if b = true then (ev Δ gl elt ρ1 h).bind fun y h => .ok (some y) h else .ok none h).calm) p [] h1 := by
  rw [ev, e]
  rfl
theorem rng1 {j : Int} (e : small62 j = true) (h : Hh) : rngD [.int j] h = .ok (upFrom 0 j.toNat, []) h := by
  unfold rngD
  exact if_pos e
theorem evi_rng1 {es : Es} {ρ : En} {h h1 : Hh} {k : Nat} (e : evs Δ gl es ρ h = .ok [.int (k : Int)] h1) (s : small62 (k : Int) = true) : evi Δ gl (.rng es) ρ h = .ok (upFrom 0 k, []) h1 := by
  rw [evi, e, R.bind_ok, rng1 s, Int.toNat_natCast]
theorem right_lc {j m : Nat} {g : Rat} {E : List Rat} {h2 : Hh} (v0 v1 v2 v3 z5 z7 z8 z9 : Option D) (hm2 : h2[m]? = some (.lst (E.map fr))) (lenE : E.length ≤ 7) (sub : ∀ x ∈ E, Δ j [fr g, fr x] h2 = .ok (fr (g - x)) h2) :
    ev Δ gl (.lc (.var 8) (.nm 8) (.rng (.cons (.blt .len (.cons (.var 4) .nil)) .nil)) (.so (.cmp .GtE (.idx (.call j (.cons (.var 6) (.cons (.idx (.var 4) (.var 8)) .nil))) (.int 0)) (.int 0))) [8]) [v0, v1, v2, v3, some (.ref m), z5, some (fr g), z7, z8, z9] h2 = alloc (.lst ((good g 0 E).map D.int)) h2 := by
  have e62 : small62 (E.length : Int) = true := by
    unfold small62
    rw [decide_eq_true_iff]
    omega
  have ea : evs Δ gl (.cons (.blt .len (.cons (.var 4) .nil)) .nil) [v0, v1, v2, v3, some (.ref m), z5, some (fr g), z7, z8, z9] h2 = .ok [.int (E.length : Nat)] h2 := by
    simp [evs, ev, bltD, listAt, hm2]
  have elc := evi_rng1 (Δ := Δ) (gl := gl) ea e62
  rw [ev_lc elc]
  refine lc_good0 h2 E (fun i x hx => ?_) (by omega)
  have el := right_el (Δ := Δ) (gl := gl) v0 v1 v2 v3 z5 z7 z8 z9 hm2 sub i x hx
  simp only [asn, wipeD, List.set, R.bind_ok, el]
  by_cases hxg : x ≤ g
  · simp only [hxg, decide_true, if_true, ev, List.getElem?_cons_zero, List.getElem?_cons_succ, R.bind_ok, R.calm_ok]
  · simp only [hxg, decide_false, if_false, Bool.false_eq_true, R.calm_ok]
end
end HS

/-! k37: the law. -/
namespace HS
open PySem L2
section
variable {Δ : Nat → Fn} {gl : Nat → D}
theorem exs_nx {s : S} {ss : Ss} {ρ ρ1 : En} {h h1 : Hh} (e : ex Δ gl s ρ h = .ok (.nx ρ1) h1) : exs Δ gl (.cons s ss) ρ h = exs Δ gl ss ρ1 h1 := by
  rw [exs, e]; rfl
theorem ex_asg {i : Nat} {e : E} {ρ : En} {h h1 : Hh} {d : D} (q : ev Δ gl e ρ h = .ok d h1) : ex Δ gl (.asg (.nm i) e) ρ h = .ok (.nx (ρ.set i (some d))) h1 := by
  rw [ex, q]
  simp [asn, R.calm]
theorem ex_no {c : E} {a : Ss} {ρ : En} {h h1 : Hh} (q : ev Δ gl c ρ h = .ok (.bl false) h1) : ex Δ gl (.ife c a .nil) ρ h = .ok (.nx ρ) h1 := by
  rw [ex, q]
  simp [asBl, exs]
theorem ev_same {a b : E} {ρ : En} {h : Hh} {s : Str} (q : ev Δ gl a ρ h = .ok (.str s) h) (r : ev Δ gl b ρ h = .ok (.str s) h) : ev Δ gl (.cmp .NotEq a b) ρ h = .ok (.bl false) h := by
  rw [ev, q, R.bind_ok, r, R.bind_ok]
  simp [cmpD, eqD]
theorem ev_repr {a : E} {ρ : En} {h h1 : Hh} {d : D} {r : R D} (q : ev Δ gl a ρ h = .ok d h1) (e : bltD .repr [d] h1 = r) : ev Δ gl (.blt .repr (.cons a .nil)) ρ h = r := by
  rw [ev]
  simp only [evs, q, R.bind_ok, e]
theorem right_turn {i j k : Nat} (hg : S_gap (Δ i)) (hs : S_op (· - ·) (Δ j)) (he : S_errorsFor (Δ k)) {n N m : Nat} {c r e : Rat} {h : Hh} (w : Wd c r) (se : Sz 16 e) (pe : 0 ≤ e.num) (ua : UAt n N h) (hN : N ≤ 800000) (hmn : m ≠ n) (hm : h[m]? = some (.lst ((errs c r 6 e).map fr))) (z5 z6 z7 z8 z9 : Option D) :
    ∃ y6 y7 y8 y9 h', exs Δ gl (L_law_right_0 i j k) [some (.ref n), some (fr c), some (fr r), some (fr e), some (.ref m), z5, z6, z7, z8, z9] h = .ok (.nx [some (.ref n), some (fr c), some (fr r), some (fr e), some (.ref m), z5, y6, y7, y8, y9]) h' ∧ UAt n (N + 6) h' ∧ h'[m]? = some (.lst ((errs c r 6 e).map fr)) := by
  have dE := fun g => due_errs c r g 6 0 e
  have szE := errs_sz w 6 16 e se (by decide)
  have neE := errs_ne c r 6 e
  have lenE := errs_len c r 6 e
  revert hm dE szE neE lenE
  generalize errs c r 6 e = E
  intro hm dE szE neE lenE
  have hml : m < h.length := (List.getElem?_eq_some_iff.mp hm).1
  have hnl : n < h.length := ua.lt
  have ne5 : E.take 5 ≠ [] := by
    cases E with
    | nil => exact absurd rfl neE
    | cons _ _ => simp
  obtain ⟨g, h2, g0, gs, e1, u2⟩ := hg n N h.length (E.take 5) (h ++ [.lst ((E.take 5).map fr)]) ua.app (by omega) (by omega) (by simp) ne5 (by simp; omega) (fun x hx => szE x (List.mem_of_mem_take hx))
  have hm2 : h2[m]? = some (.lst (E.map fr)) := by
    rw [u2.oth m hmn (by simp; omega)]
    exact at_app hm
  have sub : ∀ x ∈ E, Δ j [fr g, fr x] h2 = .ok (fr (g - x)) h2 := fun x hx => hs g x 3000 2977 h2 gs (szE x hx) (by decide)
  have s1 : ex Δ gl (.asg (.nm 6) (.call i (.cons (.var 0) (.cons (.slc (.var 4) .no (.so (.int 5))) .nil)))) [some (.ref n), some (fr c), some (fr r), some (fr e), some (.ref m), z5, z6, z7, z8, z9] h = .ok (.nx [some (.ref n), some (fr c), some (fr r), some (fr e), some (.ref m), z5, some (fr g), z7, z8, z9]) h2 := by
    refine ex_asg ?_
    have cq : cutD (E.map fr) none (some 5) = (E.take 5).map fr := by rw [cut5, List.map_take]
    simp only [ev, evs, evo, getI, slD, listAt, hm, cq, alloc, List.getElem?_cons_zero, List.getElem?_cons_succ, R.bind_ok, e1]
  have l7 := right_lc (Δ := Δ) (gl := gl) (some (.ref n)) (some (fr c)) (some (fr r)) (some (fr e)) z5 z7 z8 z9 hm2 (by omega) sub
  have s2 := ex_asg (i := 7) l7
  have hf := fun h => he c r e g h w se pe g0 gs
  rw [dE g] at hf
  have gh := good_head g 0 E
  have h10 : ∀ k, fstLe g 0 E = some k → k < 10 := fun k hk => by
    generalize good g 0 E = l at gh
    cases l with
    | nil => rw [gh] at hk; cases hk
    | cons i l =>
      obtain ⟨k', a, b, c'⟩ := gh
      rw [hk] at a
      cases a
      omega
  have q1 : (h2 ++ [C.lst ((good g 0 E).map D.int)] ++ [C.lst []])[h2.length]? = some (.lst ((good g 0 E).map D.int)) := by simp
  have q2 : (h2 ++ [C.lst ((good g 0 E).map D.int)] ++ [C.lst []])[(h2 ++ [C.lst ((good g 0 E).map D.int)]).length]? = some (.lst []) := by simp
  have eq := eqD_nil q1 q2
  generalize hh4 : h2 ++ [C.lst ((good g 0 E).map D.int)] ++ [C.lst []] = h4 at q1 q2 eq
  obtain ⟨s, es⟩ := repr_optD (o := fstLe g 0 E) h4 h10
  have s3 : ex Δ gl (.asg (.nm 9) (.ife (.cmp .NotEq (.var 7) (.lst .nil)) (.idx (.var 7) (.int 0)) .non)) [some (.ref n), some (fr c), some (fr r), some (fr e), some (.ref m), z5, some (fr g), some (.ref h2.length), z8, z9] (h2 ++ [C.lst ((good g 0 E).map D.int)]) = .ok (.nx [some (.ref n), some (fr c), some (fr r), some (fr e), some (.ref m), z5, some (fr g), some (.ref h2.length), z8, some (optD (fstLe g 0 E))]) h4 := by
    refine ex_asg ?_
    have l0 : lineOk ([] : List D).length = true := by decide
    simp only [ev, evs, alloc, cmpD, List.getElem?_cons_zero, List.getElem?_cons_succ, R.bind_ok, l0, if_true, hh4, eq]
    generalize good g 0 E = l at gh q1
    cases l with
    | nil =>
      simp only [decide_true, Bool.not_true]
      rw [gh]
      rfl
    | cons x l =>
      obtain ⟨k', a, b, c'⟩ := gh
      simp only [reduceCtorEq, decide_false, Bool.not_false, ixD, listAt, q1, List.map_cons, atI_0]
      rw [a, b]
      rfl
  have ps : ∀ a, ev Δ gl a [some (.ref n), some (fr c), some (fr r), some (fr e), some (.ref m), z5, some (fr g), some (.ref h2.length), z8, some (optD (fstLe g 0 E))] h4 = .ok (optD (fstLe g 0 E)) h4 → ex Δ gl (.ife (.cmp .NotEq (.blt .repr (.cons a .nil)) (.blt .repr (.cons (.var 9) .nil))) (.cons (.ret (.bl false)) .nil) .nil) [some (.ref n), some (fr c), some (fr r), some (fr e), some (.ref m), z5, some (fr g), some (.ref h2.length), z8, some (optD (fstLe g 0 E))] h4 = .ok (.nx [some (.ref n), some (fr c), some (fr r), some (fr e), some (.ref m), z5, some (fr g), some (.ref h2.length), z8, some (optD (fstLe g 0 E))]) h4 := fun a ha =>
    ex_no (ev_same (ev_repr ha es) (ev_repr (by simp only [ev, List.getElem?_cons_zero, List.getElem?_cons_succ]) es))
  have s4 := ps (.call k (.cons (.var 1) (.cons (.var 2) (.cons (.var 3) (.cons (.var 6) .nil))))) (by
    simp only [ev, evs, List.getElem?_cons_zero, List.getElem?_cons_succ, R.bind_ok, hf])
  have s5 := ps (.callk k .nil [3, 2, 1, 0] (.cons (.var 6) (.cons (.var 3) (.cons (.var 2) (.cons (.var 1) .nil))))) (by
    simp only [ev, evs, List.getElem?_cons_zero, List.getElem?_cons_succ, R.bind_ok, List.nil_append, List.map_cons, List.map_nil, List.getD_cons_zero, List.getD_cons_succ, hf])
  refine ⟨some (fr g), some (.ref h2.length), z8, some (optD (fstLe g 0 E)), h4, ?_, ?_, ?_⟩
  · exact (exs_nx s1).trans ((exs_nx s2).trans ((exs_nx s3).trans ((exs_nx s4).trans ((exs_nx s5).trans (by rw [exs])))))
  · rw [← hh4]
    exact u2.at_.app.app
  · rw [← hh4]
    exact at_app (at_app hm2)
theorem right_loop {i j k : Nat} (hg : S_gap (Δ i)) (hs : S_op (· - ·) (Δ j)) (he : S_errorsFor (Δ k)) {n m : Nat} {c r e : Rat} (w : Wd c r) (se : Sz 16 e) (pe : 0 ≤ e.num) (hmn : m ≠ n) : ∀ (items : List D) (N : Nat) (h : Hh) (z5 z6 z7 z8 z9 : Option D), UAt n N h → N + 6 * items.length ≤ 800000 → h[m]? = some (.lst ((errs c r 6 e).map fr)) →
    ∃ ρ' h', forL [] (fun d ρ h => R.ok (List.set ρ 5 (some d)) h) (fun ρ h => exs Δ gl (L_law_right_0 i j k) ρ h) items [some (.ref n), some (fr c), some (fr r), some (fr e), some (.ref m), z5, z6, z7, z8, z9] h = .ok (.nx ρ') h'
  | [], N, h, z5, z6, z7, z8, z9, ua, hN, hm => ⟨_, h, by simp only [forL]; rw [if_pos (gsOk_nil h)]⟩
  | d :: items, N, h, z5, z6, z7, z8, z9, ua, hN, hm => by
    obtain ⟨y6, y7, y8, y9, h', e1, u1, m1⟩ := right_turn (Δ := Δ) (gl := gl) hg hs he w se pe ua (by simp at hN; omega) hmn hm (some d) z6 z7 z8 z9
    obtain ⟨ρ', h'', e2⟩ := right_loop hg hs he w se pe hmn items (N + 6) h' (some d) y6 y7 y8 y9 u1 (by simp at hN ⊢; omega) m1
    refine ⟨ρ', h'', ?_⟩
    rw [forL, if_pos (gsOk_nil h), R.calm_ok, R.bind_ok]
    have st : List.set [some (D.ref n), some (fr c), some (fr r), some (fr e), some (.ref m), z5, z6, z7, z8, z9] 5 (some d) = [some (D.ref n), some (fr c), some (fr r), some (fr e), some (.ref m), some d, z6, z7, z8, z9] := rfl
    rw [st, e1, R.bind_ok]
    exact e2
theorem s_law_right {i j k l m o : Nat} (hw : S_world (Δ i)) (hf : S_first (Δ j)) (hes : S_errsOf (Δ k)) (hg : S_gap (Δ l)) (hs : S_op (· - ·) (Δ m)) (he : S_errorsFor (Δ o)) : S_right (run Δ gl (F_law_right i j k l m o)) := by
  intro n h ua
  obtain ⟨c, r, h1, w, e1, u1⟩ := hw n 0 h ua (by decide)
  obtain ⟨e, h2, ⟨se, _⟩, pe, e2, u2⟩ := hf n 6 c h1 u1.at_ (by decide) w.sc w.cp
  have e3 := hes c r e h2 w se
  have nl := u2.at_.lt
  obtain ⟨ρ', h', e4⟩ := right_loop (Δ := Δ) (gl := gl) hg hs he w se pe (m := h2.length) (n := n) (by omega) (upFrom 0 3) 12 (h2 ++ [.lst ((errs c r 6 e).map fr)]) none none none none none u2.at_.app (by decide) (by simp)
  have e5 : small62 3 = true := by decide
  have t : ∃ h9, tidy h (.bl true) h' = .ok (.bl true) h9 := by
    rcases tidy_flat (h := h) (h' := h') (d := .bl true) rfl with q | q
    · exact ⟨_, q⟩
    · exact ⟨_, q⟩
  obtain ⟨h9, t⟩ := t
  refine ⟨h9, ?_⟩
  simp [run, F_law_right, B_law_right, exs, ex, ev, evs, evi, asn, asns, rngD, e5, R.calm, List.set, e1, e2, e3, e4, t]
def S_law (f : Fn) : Prop := ∀ (ns : List Int), ns.length ≤ 63 → ∃ h', f [.fz (ns.map D.int)] [] = .ok (.bl true) h'
theorem s_law {i j : Nat} (hr : S_right (Δ i)) (hu : S_urn (Δ j)) : S_law (run Δ gl (F_law i j)) := by
  intro ns hl
  obtain ⟨x1, u1, e1⟩ := hu ns 0 [] hl (by decide) (by decide)
  obtain ⟨h1, r1⟩ := hr 0 [.lst x1] ⟨x1, rfl, u1⟩
  obtain ⟨x2, u2, e2⟩ := hu ns 1 h1 hl (by decide) (by decide)
  obtain ⟨h2, r2⟩ := hr h1.length (h1 ++ [.lst x2]) ⟨x2, by simp, u2⟩
  have e5 : small62 2 = true := by decide
  have up : upFrom 0 2 = [.int 0, .int 1] := rfl
  have s0 : (0 : Nat) < sizeLine := by decide
  have s1 : (1 : Nat) < sizeLine := by decide
  have s2 : (2 : Nat) ≤ sizeLine := by decide
  have t : ∃ h9, tidy [] (.bl true) (h2 ++ [.lst [.bl true, .bl true]]) = .ok (.bl true) h9 := by
    rcases tidy_flat (h := []) (h' := h2 ++ [.lst [.bl true, .bl true]]) (d := .bl true) rfl with q | q
    · exact ⟨_, q⟩
    · exact ⟨_, q⟩
  obtain ⟨h9, t⟩ := t
  simp only [List.length_nil, List.nil_append] at e1
  refine ⟨h9, ?_⟩
  simp [run, F_law, B_law, exs, ex, ev, evs, evi, evt, asn, rngD, e5, up, wipeD, lcL, gsOk_nil, s0, s1, s2, R.calm, List.set, e1, r1, e2, r2, alloc, bltD, listAt, blsOf, t]
end
end HS

/-! What repr tells of data: how long it is. -/
namespace HS
open PySem L2
/-- the written data is short and can be shown -/
structure Shw (d : PyData) (w k : Nat) : Prop where
  sh : d.showable = true
  ln : d.shown.length ≤ w
  dp : d.depth ≤ k
structure Shws (ds : List PyData) (w k : Nat) : Prop where
  sh : PyData.showableAll ds = true
  ln : piled (PyData.shownAll ds) ≤ w
  dp : PyData.depthAll ds ≤ k
theorem Shw.mono {d : PyData} {w k w' k' : Nat} (h : Shw d w k) (a : w ≤ w') (b : k ≤ k') : Shw d w' k' := ⟨h.sh, Nat.le_trans h.ln a, Nat.le_trans h.dp b⟩
theorem Shws.mono {d : List PyData} {w k w' k' : Nat} (h : Shws d w k) (a : w ≤ w') (b : k ≤ k') : Shws d w' k' := ⟨h.sh, Nat.le_trans h.ln a, Nat.le_trans h.dp b⟩
theorem Shws.nil {w k : Nat} : Shws [] w k := ⟨rfl, by simp [PyData.shownAll, piled], by simp [PyData.depthAll]⟩
theorem Shws.cons {d : PyData} {ds : List PyData} {w1 w2 w k : Nat} (h : Shw d w1 k) (g : Shws ds w2 k) (e : w1 + 2 + w2 ≤ w) : Shws (d :: ds) w k := by
  refine ⟨by simp [PyData.showableAll, h.sh, g.sh], ?_, ?_⟩
  · rw [PyData.shownAll, piled_cons]
    have := h.ln
    have := g.ln
    omega
  · have := h.dp
    have := g.dp
    rw [PyData.depthAll]
    omega
theorem tupleText_le (ts : List Str) : (tupleText ts).length ≤ piled ts + 3 := by
  unfold tupleText
  rw [strLen_append, strLen_append]
  have e1 : ((("(" : String) : Str)).length = 1 := rfl
  have e3 : (((if ts.length == 1 then ",)" else ")" : String) : Str)).length ≤ 2 := by split <;> decide
  rw [e1]
  cases ts with
  | nil => show 1 + (Str.join ", " []).length + _ ≤ _; have : (Str.join ", " []).length = 0 := rfl; omega
  | cons t ts =>
    have := join_length_add (t :: ts) (by simp)
    omega
theorem listText_le (ts : List Str) : (listText ts).length ≤ piled ts + 3 := by
  unfold listText
  rw [strLen_append]
  have e3 : ((("]" : String) : Str)).length = 1 := rfl
  rw [e3]
  cases ts with
  | nil => show (("[" : String) : Str).length + 1 ≤ _; have : ((("[" : String) : Str)).length = 1 := rfl; omega
  | cons t ts =>
    rw [textFrom, textFrom_length_pos _ _ _ (Nat.succ_pos 0), strLen_append, strLen_append, piled_cons]
    have e1 : ((("[" : String) : Str)).length = 1 := rfl
    have e2 : (((if 0 > 0 then ", " else "" : String) : Str)).length = 0 := rfl
    rw [e1, e2]
    omega
theorem Shw.tup {ds : List PyData} {w k : Nat} (h : Shws ds w k) : Shw (.tuple ds) (w + 3) (k + 1) := by
  refine ⟨by simp [PyData.showable, h.sh], ?_, ?_⟩
  · rw [PyData.shown]
    have := tupleText_le (PyData.shownAll ds)
    have := h.ln
    omega
  · have := h.dp
    rw [PyData.depth]
    omega
theorem Shw.lst {ds : List PyData} {w k : Nat} (h : Shws ds w k) : Shw (.list ds) (w + 3) (k + 1) := by
  refine ⟨by simp [PyData.showable, h.sh], ?_, ?_⟩
  · rw [PyData.shown]
    have := listText_le (PyData.shownAll ds)
    have := h.ln
    omega
  · have := h.dp
    rw [PyData.depth]
    omega
theorem Shw.int {i : Int} {B k : Nat} (h : Bt B i) (hB : B ≤ 1919) : Shw (.int i) (B + 2) k := by
  have hl := h.log
  refine ⟨by simp [PyData.showable]; omega, ?_, by simp [PyData.depth]⟩
  have := int_text_length_le (a := i) (k := B + 1) (by omega) (by omega)
  rw [PyData.shown]
  have e : ((toString i : String) : Str).length = (toString i).length := ofString_length _
  omega
theorem Shw.non {k : Nat} : Shw .none 5 k := ⟨rfl, by decide, by simp [PyData.depth]⟩
theorem Shw.bl {b : Bool} {k : Nat} : Shw (.bool b) 6 k := ⟨rfl, by cases b <;> decide, by simp [PyData.depth]⟩

/-- d, read through rd, is short -/
def Rq (rd : Nat → Option PyData) (x : D) (w k : Nat) : Prop := ∃ d, x.deepW rd = some d ∧ Shw d w k
def Rqs (rd : Nat → Option PyData) (xs : List D) (w k : Nat) : Prop := ∃ ds, D.deepsW rd xs = some ds ∧ Shws ds w k
section
variable {rd : Nat → Option PyData} {w k w1 w2 B : Nat}
theorem Rq.mono {x : D} {w' k' : Nat} (h : Rq rd x w k) (a : w ≤ w') (b : k ≤ k') : Rq rd x w' k' := let ⟨d, e, s⟩ := h; ⟨d, e, s.mono a b⟩
theorem Rq.int {i : Int} (h : Bt B i) (hB : B ≤ 1919) : Rq rd (.int i) (B + 2) k := ⟨_, rfl, .int h hB⟩
theorem Rq.non : Rq rd .non 5 k := ⟨_, rfl, .non⟩
theorem Rq.bl {b : Bool} : Rq rd (.bl b) 6 k := ⟨_, rfl, .bl⟩
theorem Rqs.nil : Rqs rd [] w k := ⟨_, rfl, .nil⟩
theorem Rqs.cons {x : D} {xs : List D} (h : Rq rd x w1 k) (g : Rqs rd xs w2 k) (e : w1 + 2 + w2 ≤ w) : Rqs rd (x :: xs) w k := by
  obtain ⟨d, e1, s1⟩ := h
  obtain ⟨ds, e2, s2⟩ := g
  exact ⟨d :: ds, by simp [D.deepsW, e1, e2], Shws.cons s1 s2 e⟩
theorem Rqs.all : ∀ {xs : List D} {w : Nat}, (∀ x ∈ xs, Rq rd x w1 k) → xs.length * (w1 + 2) ≤ w → Rqs rd xs w k
  | [], _, _, _ => .nil
  | x :: xs, w, h, e => by
    refine Rqs.cons (w2 := xs.length * (w1 + 2)) (h x (by simp)) (Rqs.all (w := xs.length * (w1 + 2)) (fun y hy => h y (List.mem_cons_of_mem _ hy)) (Nat.le_refl _)) ?_
    rw [List.length_cons, Nat.add_mul] at e
    omega
theorem Rq.tup {xs : List D} (h : Rqs rd xs w k) : Rq rd (.tup xs) (w + 3) (k + 1) := by
  obtain ⟨ds, e, s⟩ := h
  exact ⟨.tuple ds, by simp [D.deepW, e], Shw.tup s⟩
theorem Rq.lst {h : Hh} {m n : Nat} {xs : List D} (e0 : h[n]? = some (.lst xs)) (hx : Rqs (deepR h m) xs w k) : Rq (deepR h (m + 1)) (.ref n) (w + 3) (k + 1) := by
  obtain ⟨ds, e, s⟩ := hx
  exact ⟨.list ds, by simp [D.deepW, deepR, e0, e], Shw.lst s⟩
theorem Rq.fr {q : Rat} (h : Sz B q) (hB : B ≤ 1919) : Rq rd (HS.fr q) (2 * B + 11) (k + 1) := by
  unfold HS.fr
  have a : Rqs rd [.int (q.den : Int)] (B + 4) k := Rqs.cons (w2 := 0) (Rq.int h.2 hB) .nil (by omega)
  have b : Rqs rd [.int q.num, .int (q.den : Int)] (2 * B + 8) k := Rqs.cons (Rq.int h.1 hB) a (by omega)
  exact (Rq.tup b).mono (by omega) (Nat.le_refl _)
end
/-- what repr tells -/
def shownD (h : Hh) (x : D) : Str := match x.deep h with | some d => d.shown | none => ""
theorem repr_ok {h : Hh} {x : D} {w k : Nat} (r : Rq (deepR h 8) x w k) (hw : w ≤ 16777216) (hk : k ≤ 60) : bltD .repr [x] h = .ok (.str (shownD h x)) h := by
  obtain ⟨d, e, s⟩ := r
  have e : x.deep h = some d := e
  have l : d.shown.length ≤ sizeLine := Nat.le_trans s.ln hw
  have p := s.dp
  simp only [bltD, shownD, e]
  rw [if_pos ⟨s.sh, l, by omega⟩]
/-- two lists with the same items are shown alike -/
theorem shown_lst {h : Hh} {m n : Nat} {xs : List D} (e1 : h[n]? = some (.lst xs)) (e2 : h[m]? = some (.lst xs)) : shownD h (.ref n) = shownD h (.ref m) := by
  simp [shownD, D.deep, D.deepW, deepR, e1, e2]
theorem deeps_fr (rd : Nat → Option PyData) (q : Rat) : (fr q).deepW rd = some (.tuple [.int q.num, .int q.den]) := by simp [fr, D.deepW, D.deepsW]
mutual
/-- what has no cell is shown alike everywhere -/
theorem deep_flat (rd rd' : Nat → Option PyData) : ∀ x : D, x.flat = true → x.deepW rd = x.deepW rd'
  | .non, _ => by simp [D.deepW]
  | .bl _, _ => by simp [D.deepW]
  | .int _, _ => by simp [D.deepW]
  | .str _, _ => by simp [D.deepW]
  | .ty _, _ => by simp [D.deepW]
  | .cls _, _ => by simp [D.deepW]
  | .tup xs, f => by simp only [D.deepW]; rw [deep_flats rd rd' xs (by simpa [D.flat] using f)]
  | .fz xs, f => by simp only [D.deepW]; rw [deep_flats rd rd' xs (by simpa [D.flat] using f)]
  | .ref n, f => by simp [D.flat] at f
theorem deep_flats (rd rd' : Nat → Option PyData) : ∀ xs : List D, D.flats xs = true → D.deepsW rd xs = D.deepsW rd' xs
  | [], _ => by simp [D.deepsW]
  | x :: xs, f => by
    simp only [D.flats, Bool.and_eq_true] at f
    simp only [D.deepsW]
    rw [deep_flat rd rd' x f.1, deep_flats rd rd' xs f.2]
end
theorem shown_flat {h h' : Hh} {x : D} (f : x.flat = true) : shownD h x = shownD h' x := by
  unfold shownD D.deep
  rw [deep_flat (deepR h 8) (deepR h' 8) x f]
end HS

/-! k33: the worst equation. -/
namespace HS
open PySem L2
def B_is_between (f_is_whole : Nat) : Ss :=
  (.cons (.ret (.and (.call f_is_whole (.cons (.var 0) .nil)) (.cmp2 .LtE .LtE (.var 1) (.var 0) (.var 2)))) .nil)
def F_is_between (f_is_whole : Nat) : Df := ⟨3, 3, B_is_between f_is_whole⟩
def B_check_number (f_is_between : Nat) : Ss :=
  (.cons (.ife (.not (.call f_is_between (.cons (.var 0) (.cons (.var 1) (.cons (.var 2) .nil))))) (
    (.cons .never .nil)) (.nil)) .nil)
def F_check_number (f_is_between : Nat) : Df := ⟨3, 3, B_check_number f_is_between⟩
def L_worst_errors_0 (f_is_lost_at f_next_error : Nat) : Ss :=
    (.cons (.ife (.call f_is_lost_at (.cons (.var 0) (.cons (.idx (.var 4) (.neg (.int 1))) .nil))) (
      (.cons (.rse 5) .nil)) (.nil)) 
    (.cons (.exp (.app (.var 4) (.call f_next_error (.cons (.var 0) (.cons (.var 1) (.cons (.idx (.var 4) (.neg (.int 1))) .nil)))))) .nil))
def B_worst_errors (f_check_start f_check_number g_MOST_STEPS f_is_lost_at f_next_error : Nat) : Ss :=
  (.cons (.exp (.call f_check_start (.cons (.var 0) (.cons (.var 1) (.cons (.var 2) .nil))))) 
  (.cons (.exp (.call f_check_number (.cons (.var 3) (.cons (.int 0) (.cons (.glb g_MOST_STEPS) .nil))))) 
  (.cons (.asg (.nm 4) (.lst (.cons (.var 2) .nil))) 
  (.cons (.fr (.nm 5) (.rng (.cons (.var 3) .nil)) (L_worst_errors_0 f_is_lost_at f_next_error)) 
  (.cons (.ret (.blt .tuple (.cons (.var 4) .nil))) .nil)))))
def F_worst_errors (f_check_start f_check_number g_MOST_STEPS f_is_lost_at f_next_error : Nat) : Df := ⟨4, 6, B_worst_errors f_check_start f_check_number g_MOST_STEPS f_is_lost_at f_next_error⟩
def B_law_size : Ss :=
  (.cons (.ret (.tup (.cons (.blt .abs (.cons (.idx (.var 0) (.int 0)) .nil)) (.cons (.idx (.var 0) (.int 1)) .nil)))) .nil)
def F_law_size : Df := ⟨1, 1, B_law_size⟩
def B_law_stepped (f__law_size f__law_sub f__law_div f__law_mul : Nat) : Ss :=
  (.cons (.asg (.nm 2) (.call f__law_size (.cons (.var 1) .nil))) 
  (.cons (.asg (.nm 3) (.call f__law_sub (.cons (.var 1) (.cons (.call f__law_div (.cons (.call f__law_mul (.cons (.call f__law_mul (.cons (.var 0) (.cons (.var 1) .nil))) (.cons (.var 2) .nil))) (.cons (.tup (.cons (.int 2) (.cons (.int 1) .nil))) .nil))) .nil)))) 
  (.cons (.ret (.call f__law_sub (.cons (.var 1) (.cons (.call f__law_div (.cons (.var 3) (.cons (.call f__law_sub (.cons (.tup (.cons (.int 1) (.cons (.int 1) .nil))) (.cons (.call f__law_mul (.cons (.var 0) (.cons (.var 2) .nil))) .nil))) .nil))) .nil)))) .nil)))
def F_law_stepped (f__law_size f__law_sub f__law_div f__law_mul : Nat) : Df := ⟨2, 4, B_law_stepped f__law_size f__law_sub f__law_div f__law_mul⟩
/-! ### sizes -/
def ab (q : Rat) : Rat := if q < 0 then -q else q
theorem ab_nn (q : Rat) : 0 ≤ ab q := by unfold ab; split <;> grind
theorem ab_le {q x : Rat} (h : q ≤ x) (g : -q ≤ x) : ab q ≤ x := by unfold ab; split <;> grind
theorem ab_neg (q : Rat) : ab (-q) = ab q := by unfold ab; grind
theorem ab_of {q : Rat} (h : 0 ≤ q) : ab q = q := by unfold ab; rw [if_neg (Rat.not_lt.mpr h)]
theorem num_lt (q : Rat) : q.num < 0 ↔ q < 0 := by
  rw [Rat.lt_iff]; simp
theorem fr_ab (q : Rat) : D.tup [.int (if q.num < 0 then -q.num else q.num), .int q.den] = fr (ab q) := by
  unfold ab fr
  by_cases h : q < 0
  · rw [if_pos h, if_pos ((num_lt q).mpr h)]; rfl
  · rw [if_neg h, if_neg (fun z => h ((num_lt q).mp z))]
theorem Sz.neg {B : Nat} {q : Rat} (h : Sz B q) : Sz B (-q) := ⟨by simpa using h.1.neg, h.2⟩
theorem Sz.ab {B : Nat} {q : Rat} (h : Sz B q) : Sz B (ab q) := by unfold HS.ab; split; exact h.neg; exact h
def S_size (f : Fn) : Prop := ∀ (q : Rat) h, f [fr q] h = .ok (fr (ab q)) h
/-- Newton's step for t - c t |t| / 2 -/
def stp (c t : Rat) : Rat := t - (t - c * t * ab t / 2) / (1 - c * ab t)
theorem stp_eq {c t : Rat} (h : c * ab t ≠ 1) : stp c t = if t < 0 then prt c (ab t) else -(prt c (ab t)) := by
  have h1 := one_sub_ne h
  unfold stp prt
  unfold ab at *
  by_cases ht : t < 0
  · simp only [ht, if_true] at *
    grind
  · simp only [ht, if_false] at *
    grind
theorem sz_stp {c t : Rat} {B : Nat} (hc : Sz 4 c) (ht : Sz B t) (h : c * ab t ≠ 1) : Sz (2 * B + 6) (stp c t) := by
  rw [stp_eq h]
  split
  · exact sz_prt hc ht.ab h
  · exact (sz_prt hc ht.ab h).neg
def S_stepped (f : Fn) : Prop := ∀ (c t : Rat) (B : Nat) h, Sz 4 c → Sz B t → B ≤ 1500 → c * ab t ≠ 1 → f [fr c, fr t] h = .ok (fr (stp c t)) h
def S_btw (f : Fn) : Prop := ∀ (i lo hi : Int) h, f [.int i, .int lo, .int hi] h = .ok (.bl (decide (lo ≤ i) && decide (i ≤ hi))) h
def S_num (f : Fn) : Prop := ∀ (i lo hi : Int) h, lo ≤ i → i ≤ hi → f [.int i, .int lo, .int hi] h = .ok .non h
def S_worst (f : Fn) : Prop := ∀ (c r e : Rat) (k : Nat) h, Wd c r → Sz 16 e → 0 ≤ e.num → k ≤ 6 → (errs c r k e).length = k + 1 → f [fr c, fr r, fr e, .int k] h = .ok (.tup ((errs c r k e).map fr)) h
section
variable {Δ : Nat → Fn} {gl : Nat → D}
theorem s_law_size : S_size (run Δ gl F_law_size) := by
  intro q h
  have e := fr_ab q
  simp [run, F_law_size, B_law_size, exs, ex, ev, evs, bltD, ixD, lineOk, sizeLine]
  rw [← e]
  unfold fr
  simp
  exact tidy_self rfl
theorem s_law_stepped {i j k l : Nat} (hz : S_size (Δ i)) (hs : S_op (· - ·) (Δ j)) (hd : S_over (Δ k)) (hm : S_op (· * ·) (Δ l)) : S_stepped (run Δ gl (F_law_stepped i j k l)) := by
  intro c t B h hc ht hB h1
  have za := ht.ab
  have z1 := hc.mul ht
  have z2 := z1.mul za
  have z3 := z2.div sz2 (by decide)
  have z4 := ht.sub z3
  have z5 := hc.mul za
  have z6 := sz1.sub z5
  have a0 := hz t
  have a1 := fun h => hm c t 4 B h hc ht (by omega)
  have a2 := fun h => hm (c * t) (ab t) _ B h z1 za (by omega)
  have a3 := fun h => hd (c * t * ab t) 2 _ 2 h z2 sz2 (by omega) (by decide)
  have a4 := fun h => hs t (c * t * ab t / 2) B _ h ht z3 (by omega)
  have a5 := fun h => hm c (ab t) 4 B h hc za (by omega)
  have a6 := fun h => hs 1 (c * ab t) 1 _ h sz1 z5 (by omega)
  have a7 := fun h => hd (t - c * t * ab t / 2) (1 - c * ab t) _ _ h z4 z6 (by omega) (one_sub_ne h1)
  have z7 := z4.div z6 (one_sub_ne h1)
  have a8 := fun h => hs t ((t - c * t * ab t / 2) / (1 - c * ab t)) B _ h ht z7 (by omega)
  simp [run, F_law_stepped, B_law_stepped, exs, ex, ev, evs, asn, R.calm, List.set, lineOk, sizeLine, fr_two, fr_one, a0, a1, a2, a3, a4, a5, a6, a7, a8]
  exact tidy_self (fr_flat _)
theorem s_is_between {i : Nat} (hw : S_whole (Δ i)) : S_btw (run Δ gl (F_is_between i)) := by
  intro i lo hi h
  by_cases h1 : lo ≤ i
  · simp [run, F_is_between, B_is_between, exs, ex, ev, evs, hw i h, cmpD, h1]
    exact tidy_self rfl
  · simp [run, F_is_between, B_is_between, exs, ex, ev, evs, hw i h, cmpD, h1]
    exact tidy_self rfl
theorem s_check_number {i : Nat} (hw : S_btw (Δ i)) : S_num (run Δ gl (F_check_number i)) := by
  intro i lo hi h h1 h2
  simp [run, F_check_number, B_check_number, exs, ex, ev, evs, hw i lo hi h, h1, h2, asBl]
  exact tidy_self rfl
theorem ex_exp {e : E} {ρ : En} {h h1 : Hh} {d : D} (q : ev Δ gl e ρ h = .ok d h1) : ex Δ gl (.exp e) ρ h = .ok (.nx ρ) h1 := by
  rw [ex, q]
  simp
theorem ex_for {t : T} {it : It} {b : Ss} {ρ : En} {h h1 : Hh} {p : List D} {gs : Gs} {r : R F} (e : evi Δ gl it ρ h = .ok (p, gs) h1) (q : forL gs (fun d ρ h => asn Δ gl t d ρ h) (fun ρ h => exs Δ gl b ρ h) p ρ h1 = r) : ex Δ gl (.fr t it b) ρ h = r := by
  rw [ex, e]
  exact q
theorem exs_rt {e : E} {ss : Ss} {ρ : En} {h h1 : Hh} {d : D} (q : ev Δ gl e ρ h = .ok d h1) : exs Δ gl (.cons (.ret e) ss) ρ h = .ok (.rt d) h1 := by
  rw [exs, ex, q]
  rfl
theorem wst_loop {tg : D → En → Hh → R En} {bd : En → Hh → R F} {c r : Rat} (w : Wd c r) (h : Hh) (St : Option D → En) (htg : ∀ d z h, tg d (St z) h = .ok (St (some d)) h)
    (hb2 : ∀ (acc : List Rat) (e : Rat) (B : Nat) (z : Option D), Sz B e → B ≤ 2977 → ¬ 1 ≤ c * e → acc.length < 1000 → bd (St z) (h ++ [.lst ((acc ++ [e]).map fr)]) = .ok (.nx (St z)) (h ++ [.lst (((acc ++ [e]) ++ [nxt c r e]).map fr)])) :
    ∀ (items : List D) (acc : List Rat) (B : Nat) (e : Rat) (z : Option D), Sz B e → (B + 31) * 2 ^ items.length ≤ 3008 → acc.length + items.length < 1000 → (errs c r items.length e).length = items.length + 1 →
      ∃ z', forL [] tg bd items (St z) (h ++ [.lst ((acc ++ [e]).map fr)]) = .ok (.nx (St z')) (h ++ [.lst ((acc ++ errs c r items.length e).map fr)])
  | [], acc, B, e, z, he, hB, hlen, hE => ⟨z, by simp [forL, gsOk_nil, errs]⟩
  | d :: items, acc, B, e, z, he, hB, hlen, hE => by
    obtain ⟨hB2, hB3⟩ := pow_step hB
    by_cases hlost : 1 ≤ c * e
    · simp [errs, hlost] at hE
    · simp only [List.length_cons, errs, hlost, if_false, Nat.add_right_cancel_iff] at hE
      obtain ⟨z', e1⟩ := wst_loop w h St htg hb2 items (acc ++ [e]) (2 * B + 31) (nxt c r e) (some d) (sz_nxt w.sc w.sr he (lost_ne hlost)) hB2 (by simp at hlen ⊢; omega) hE
      refine ⟨z', ?_⟩
      unfold forL
      rw [if_pos (gsOk_nil _), htg]
      simp only [R.calm_ok, R.bind_ok, hb2 acc e B (some d) he hB3 hlost (by simp at hlen; omega), List.length_cons, errs, hlost, if_false, e1]
      simp
theorem small_nat {k : Nat} (h : k < 1000000) : small62 (k : Int) = true := by
  unfold small62
  rw [decide_eq_true_iff]
  omega
theorem flat_frs (l : List Rat) : (D.tup (l.map fr)).flat = true := flats_fr l
theorem s_worst_errors {i j k l m : Nat} (hs : S_start (Δ i)) (hg : S_num (Δ j)) (h6 : gl k = .int 6) (hl : S_lost (Δ l)) (hn : S_next (Δ m)) : S_worst (run Δ gl (F_worst_errors i j k l m)) := by
  intro c r e0 n h w he he0 hk hE
  have lu : (upFrom 0 n).length = n := by simp [upFrom]
  have key0 : (16 + 31) * 2 ^ n ≤ 3008 := by
    have : 2 ^ n ≤ 2 ^ 6 := Nat.pow_le_pow_right (by decide) hk
    omega
  obtain ⟨z, e1⟩ := wst_loop (tg := fun d ρ h => asn Δ gl (.nm 5) d ρ h) (bd := fun ρ h => exs Δ gl (L_worst_errors_0 l m) ρ h)
    w h (fun z => [some (fr c), some (fr r), some (fr e0), some (.int n), some (.ref h.length), z]) (fun d z h => by simp [asn, List.set])
    (fun acc e B z he hB hlost hlen => by
      have l1 := fun h => hl c e 4 B h w.sc he (by omega)
      have n1 := fun h => hn c r e B h w.sc w.sr he hB (lost_ne hlost)
      have a1 : atI (acc.map fr ++ [fr e]) (-1) = some (fr e) := atI_last
      have sl : acc.length + 1 < sizeLine := Nat.lt_of_lt_of_le (show acc.length + 1 < 1001 by omega) (by decide)
      simp [L_worst_errors_0, exs, ex, ev, evs, asBl, ixD, listAt, get_end, a1, l1, hlost, n1, lstOk, app, sl])
    (upFrom 0 n) [] 16 e0 none he (by rw [lu]; exact key0) (by rw [lu]; simp; omega) (by rw [lu]; exact hE)
  rw [lu] at e1
  have c1 := hs c r e0 h w.sc w.sr w.cp w.rp w.cr he0
  have c2 := hg n 0 6 h (by omega) (by omega)
  have e4 : small62 (n : Int) = true := small_nat (by omega)
  simp only [List.nil_append, List.map_cons, List.map_nil] at e1
  have key : exs Δ gl (B_worst_errors i j k l m) [some (fr c), some (fr r), some (fr e0), some (.int n), none, none] h = .ok (.rt (.tup ((errs c r n e0).map fr))) (h ++ [.lst ((errs c r n e0).map fr)]) := by
    unfold B_worst_errors
    refine (exs_nx (ex_exp (d := .non) (h1 := h) ?_)).trans ?_
    · simp [ev, evs, c1]
    refine (exs_nx (ex_exp (d := .non) (h1 := h) ?_)).trans ?_
    · simp [ev, evs, h6, c2]
    refine (exs_nx (ex_asg (d := .ref h.length) (h1 := h ++ [.lst [fr e0]]) ?_)).trans ?_
    · simp [ev, evs, lineOk, sizeLine, alloc]
    simp only [List.set]
    refine (exs_nx (ex_for (evi_rng1 (k := n) (by simp [evs, ev]) e4) e1)).trans ?_
    refine exs_rt ?_
    simp [ev, evs, bltD, listAt]
  simp only [run, F_worst_errors, List.length_cons, List.length_nil, if_true, List.map_cons, List.map_nil, List.replicate, List.cons_append, List.nil_append]
  rw [key]
  exact tidy_pre (flat_frs _)
end
end HS

/-! k33: the law's turns. -/
namespace HS
open PySem L2
/-! ### the mathematics -/
theorem one_sub_pos {c e : Rat} (h : c * e < 1) : 0 < 1 - c * e := by grind
theorem prt_mul {c e : Rat} (h : c * e < 1) : prt c e * (2 * (1 - c * e)) = c * e * e := by
  have h1 : c * e ≠ 1 := by grind
  have := two_ne h1
  unfold prt
  grind
theorem prt_nn {c e : Rat} (hc : 0 < c) (he : 0 ≤ e) (h : c * e < 1) : 0 ≤ prt c e := by
  have m := prt_mul h
  have p : 0 < 2 * (1 - c * e) := by grind
  have q : 0 ≤ c * e * e := Rat.mul_nonneg (Rat.mul_nonneg (Rat.le_of_lt hc) he) he
  refine Rat.le_of_mul_le_mul_right (c := 2 * (1 - c * e)) ?_ p
  rw [m, Rat.zero_mul]
  exact q
theorem prt_mono {c x e : Rat} (hc : 0 < c) (hx : 0 ≤ x) (hxe : x ≤ e) (h : c * e < 1) : prt c x ≤ prt c e := by
  have he : 0 ≤ e := Rat.le_trans hx hxe
  have cx : c * x ≤ c * e := Rat.mul_le_mul_of_nonneg_left hxe (Rat.le_of_lt hc)
  have hx1 : c * x < 1 := by grind
  have m := prt_mul h
  have m2 := prt_mul hx1
  have n := prt_nn hc he h
  have p : 0 < 2 * (1 - c * x) := by grind
  refine Rat.le_of_mul_le_mul_right (c := 2 * (1 - c * x)) ?_ p
  rw [m2]
  have a1 : c * x * x ≤ c * e * e := by
    have b1 : c * x * x ≤ c * x * e := Rat.mul_le_mul_of_nonneg_left hxe (Rat.mul_nonneg (Rat.le_of_lt hc) hx)
    have b2 : c * x * e ≤ c * e * e := Rat.mul_le_mul_of_nonneg_right cx he
    exact Rat.le_trans b1 b2
  have a2 : prt c e * (2 * (1 - c * e)) ≤ prt c e * (2 * (1 - c * x)) := Rat.mul_le_mul_of_nonneg_left (by grind) n
  grind
theorem stp_less {c r e x q : Rat} (hc : 0 < c) (hx : ab x ≤ e) (h : c * e < 1) (hq : ab q ≤ r) : ab (stp c x + q) ≤ nxt c r e := by
  have nx := ab_nn x
  have cx : c * ab x ≤ c * e := Rat.mul_le_mul_of_nonneg_left hx (Rat.le_of_lt hc)
  have n1 : c * ab x ≠ 1 := by grind
  have m := prt_mono hc nx hx h
  have z := prt_nn hc nx (by grind)
  have s := stp_eq n1
  unfold nxt
  rw [s]
  generalize prt c (ab x) = p at *
  generalize prt c e = p2 at *
  unfold ab at hq ⊢
  grind
/-- the way away from 0 -/
theorem stp_way {c r e t : Rat} (hc : 0 < c) (ht : ab t = e) (h : c * e < 1) (hr : 0 ≤ r) (w : Rat) (hw : (0 < stp c t → w = 1) ∧ (stp c t < 0 → w = -1) ∧ (w = 1 ∨ w = -1)) : ab (stp c t + w * r) = nxt c r e := by
  have nx := ab_nn t
  have n1 : c * ab t ≠ 1 := by grind
  have z := prt_nn hc nx (by grind)
  have s := stp_eq n1
  rw [ht] at s z
  unfold nxt
  obtain ⟨h1, h2, h3⟩ := hw
  generalize stp c t = b at *
  generalize prt c e = p at *
  unfold ab
  rcases h3 with rfl | rfl
  · grind
  · grind
theorem stp_side {c t : Rat} (hc : 0 < c) (h : c * ab t < 1) : (stp c t ≤ 0 ∧ 0 ≤ t) ∨ (0 ≤ stp c t ∧ t ≤ 0) := by
  have nx := ab_nn t
  have n1 : c * ab t ≠ 1 := by grind
  have z := prt_nn hc nx h
  have s := stp_eq n1
  generalize prt c (ab t) = p at *
  grind
def L_law33_0 (f__law_is_lost f__law_stepped f__law_add f__law_size f__law_frac f__law_nip f__law_mul : Nat) : Ss :=
    (.cons (.ife (.call f__law_is_lost (.cons (.var 1) (.cons (.idx (.var 6) (.neg (.int 1))) .nil))) (
      (.cons .brk .nil)) (.nil)) 
    (.cons (.asg (.nm 10) (.call f__law_stepped (.cons (.var 1) (.cons (.var 5) .nil)))) 
    (.cons (.ife (.cmp .Gt (.bin .mul (.idx (.var 10) (.int 0)) (.idx (.var 5) (.int 0))) (.int 0)) (
      (.cons (.ret (.bl false)) .nil)) (.nil)) 
    (.cons (.asg (.nm 11) (.ife (.or (.cmp .Gt (.idx (.var 10) (.int 0)) (.int 0)) (.and (.cmp .Eq (.idx (.var 10) (.int 0)) (.int 0)) (.cmp .Gt (.var 4) (.int 0)))) (.int 1) (.neg (.int 1)))) 
    (.cons (.asg (.nm 5) (.call f__law_add (.cons (.var 10) (.cons (.tup (.cons (.bin .mul (.var 11) (.idx (.var 2) (.int 0))) (.cons (.idx (.var 2) (.int 1)) .nil))) .nil)))) 
    (.cons (.exp (.app (.var 6) (.call f__law_size (.cons (.var 5) .nil)))) 
    (.cons (.asg (.nm 4) (.bin .sub (.int 0) (.var 4))) 
    (.cons (.asg (.nm 12) (.call f__law_frac (.cons (.bin .sub (.call f__law_nip (.cons (.var 0) (.cons (.int 21) .nil))) (.int 10)) (.cons (.int 10) .nil)))) 
    (.cons (.asg (.nm 7) (.call f__law_add (.cons (.call f__law_stepped (.cons (.var 1) (.cons (.var 7) .nil))) (.cons (.call f__law_mul (.cons (.var 12) (.cons (.var 2) .nil))) .nil)))) 
    (.cons (.exp (.app (.var 8) (.call f__law_size (.cons (.var 7) .nil)))) .nil))))))))))
def B_law33 (f__law_world f__law_first f__law_any_of f__law_is_lost f__law_div f__law_stepped f__law_add f__law_size f__law_frac f__law_nip f__law_mul f_worst_errors f__law_sub : Nat) : Ss :=
  (.cons (.asg (.tup (.cons (.nm 1) (.cons (.nm 2) .nil))) (.call f__law_world (.cons (.var 0) .nil))) 
  (.cons (.asg (.tup (.cons (.nm 3) (.cons (.nm 4) .nil))) (.tup (.cons (.call f__law_first (.cons (.var 0) (.cons (.var 1) .nil))) (.cons (.call f__law_any_of (.cons (.var 0) (.cons (.tup (.cons (.int 1) (.cons (.neg (.int 1)) .nil))) .nil))) .nil)))) 
  (.cons (.asg (.nm 3) (.ife (.call f__law_is_lost (.cons (.var 1) (.cons (.var 3) .nil))) (.call f__law_div (.cons (.tup (.cons (.int 1) (.cons (.int 2) .nil))) (.cons (.var 1) .nil))) (.var 3))) 
  (.cons (.asg (.tup (.cons (.nm 5) (.cons (.nm 6) .nil))) (.tup (.cons (.tup (.cons (.bin .mul (.var 4) (.idx (.var 3) (.int 0))) (.cons (.idx (.var 3) (.int 1)) .nil))) (.cons (.lst (.cons (.var 3) .nil)) .nil)))) 
  (.cons (.asg (.tup (.cons (.nm 7) (.cons (.nm 8) .nil))) (.tup (.cons (.var 5) (.cons (.lst (.cons (.var 3) .nil)) .nil)))) 
  (.cons (.fr (.nm 9) (.rng (.cons (.int 4) .nil)) (L_law33_0 f__law_is_lost f__law_stepped f__law_add f__law_size f__law_frac f__law_nip f__law_mul)) 
  (.cons (.asg (.nm 13) (.bin .sub (.blt .len (.cons (.var 6) .nil)) (.int 1))) 
  (.cons (.asg (.nm 14) (.call f_worst_errors (.cons (.var 1) (.cons (.var 2) (.cons (.var 3) (.cons (.var 13) .nil)))))) 
  (.cons (.ife (.cmp .NotEq (.blt .repr (.cons (.var 14) .nil)) (.blt .repr (.cons (.blt .tuple (.cons (.var 6) .nil)) .nil))) (
    (.cons (.ret (.bl false)) .nil)) (.nil)) 
  (.cons (.ife (.cmp .NotEq (.blt .repr (.cons (.callk f_worst_errors .nil [3, 2, 1, 0] (.cons (.var 13) (.cons (.var 3) (.cons (.var 2) (.cons (.var 1) .nil))))) .nil)) (.blt .repr (.cons (.var 14) .nil))) (
    (.cons (.ret (.bl false)) .nil)) (.nil)) 
  (.cons (.ret (.cmp .Eq (.lc (.var 15) (.nm 15) (.rng (.cons (.bin .add (.var 13) (.int 1)) .nil)) (.so (.cmp .Lt (.idx (.call f__law_sub (.cons (.idx (.var 14) (.var 15)) (.cons (.idx (.var 8) (.var 15)) .nil))) (.int 0)) (.int 0))) [15]) (.lst .nil))) .nil)))))))))))
def F_law33 (f__law_world f__law_first f__law_any_of f__law_is_lost f__law_div f__law_stepped f__law_add f__law_size f__law_frac f__law_nip f__law_mul f_worst_errors f__law_sub : Nat) : Df := ⟨1, 16, B_law33 f__law_world f__law_first f__law_any_of f__law_is_lost f__law_div f__law_stepped f__law_add f__law_size f__law_frac f__law_nip f__law_mul f_worst_errors f__law_sub⟩
theorem num_pos' {q : Rat} : 0 < q.num ↔ 0 < q := by
  rw [Rat.lt_iff]; simp
theorem sgn_mul {a b : Rat} (h : (a ≤ 0 ∧ 0 ≤ b) ∨ (0 ≤ a ∧ b ≤ 0)) : ¬ 0 < a.num * b.num := by
  have n0 : ∀ q : Rat, 0 ≤ q → 0 ≤ q.num := fun q h => Rat.num_nonneg.mpr h
  have n1 : ∀ q : Rat, q ≤ 0 → q.num ≤ 0 := fun q h => by
    have := Rat.not_lt.mpr h
    have z : ¬ 0 < q.num := fun z => this (num_pos'.mp z)
    omega
  rcases h with ⟨h1, h2⟩ | ⟨h1, h2⟩
  · have := Int.mul_nonpos_of_nonpos_of_nonneg (n1 a h1) (n0 b h2)
    omega
  · have := Int.mul_nonpos_of_nonneg_of_nonpos (n0 a h1) (n1 b h2)
    omega
theorem fr_way (r : Rat) {w : Int} (hw : w = 1 ∨ w = -1) : D.tup [.int (w * r.num), .int r.den] = fr (w * r) := by
  rcases hw with rfl | rfl
  · simp [fr]
  · simp [fr, Rat.neg_mul]
section
variable {Δ : Nat → Fn} {gl : Nat → D}
theorem ev_app {l a : E} {ρ : En} {h : Hh} {m : Nat} {xs : List D} {y : D} (q : ev Δ gl l ρ h = .ok (.ref m) h) (e : h[m]? = some (.lst xs)) (r : ev Δ gl a ρ h = .ok y h) (sl : xs.length < sizeLine) : ev Δ gl (.app l a) ρ h = .ok .non (h.set m (.lst (xs ++ [y]))) := by
  rw [ev, q]
  simp only [R.bind_ok, lstOk, e, r, app]
  rw [if_pos sl]
set_option maxHeartbeats 2000000 in
theorem turn33 {i j k l m o p : Nat} (hl : S_lost (Δ i)) (hst : S_stepped (Δ j)) (ha : S_op (· + ·) (Δ k)) (hz : S_size (Δ l)) (hw : S_with (Δ m)) (hn : S_nip (Δ o)) (hm : S_op (· * ·) (Δ p))
    {n N m1 m2 B : Nat} {c r e t x : Rat} {side : Int} {acc zs : List Rat} {h : Hh} (w : Wd c r) (ua : UAt n N h) (hN : N ≤ 900000) (h1n : m1 ≠ n) (h2n : m2 ≠ n) (h12 : m1 ≠ m2)
    (e1 : h[m1]? = some (.lst ((acc ++ [e]).map fr))) (e2 : h[m2]? = some (.lst (zs.map fr))) (l1 : acc.length < 1000) (l2 : zs.length < 1000) (sz : Sz B t) (sx : Sz B x) (hB : B ≤ 1500) (ht : ab t = e) (hx : ab x ≤ e) (nl : ¬ 1 ≤ c * e) (v3 v9 v10 v11 v12 v13 v14 v15 : Option D) :
    ∃ t' x' y10 y11 y12 h', exs Δ gl (L_law33_0 i j k l m o p) [some (.ref n), some (fr c), some (fr r), v3, some (.int side), some (fr t), some (.ref m1), some (fr x), some (.ref m2), v9, v10, v11, v12, v13, v14, v15] h
        = .ok (.nx [some (.ref n), some (fr c), some (fr r), v3, some (.int (0 - side)), some (fr t'), some (.ref m1), some (fr x'), some (.ref m2), v9, y10, y11, y12, v13, v14, v15]) h' ∧
      UAt n (N + 1) h' ∧ h'[m1]? = some (.lst ((acc ++ [e] ++ [nxt c r e]).map fr)) ∧ h'[m2]? = some (.lst ((zs ++ [ab x']).map fr)) ∧ Sz (2 * B + 36) t' ∧ Sz (2 * B + 36) x' ∧ ab t' = nxt c r e ∧ ab x' ≤ nxt c r e := by
  have cp : 0 < c := num_pos'.mp w.cp
  have rp : 0 ≤ r := Rat.num_nonneg.mp w.rp
  have ce : c * e < 1 := Rat.not_le.mp nl
  have se : Sz B e := by rw [← ht]; exact sz.ab
  have c1 : c * ab t ≠ 1 := by rw [ht]; exact lost_ne nl
  have cx : c * ab x ≠ 1 := by
    have : c * ab x ≤ c * e := Rat.mul_le_mul_of_nonneg_left hx (Rat.le_of_lt cp)
    grind
  have f1 := fun h => hl c e 4 B h w.sc se (by omega)
  have f2 := fun h => hst c t B h w.sc sz hB c1
  have f3 := fun h => hst c x B h w.sc sx hB cx
  have sb := sz_stp w.sc sz c1
  have sbx := sz_stp w.sc sx cx
  have sd := stp_side cp (t := t) (by rw [ht]; exact ce)
  have ng := sgn_mul sd
  have mo := mulOk_of sb.1 sz.1 (by omega)
  obtain ⟨wy, hwy⟩ : ∃ wy : Int, wy = if 0 < (stp c t).num ∨ ((stp c t).num = 0 ∧ 0 < side) then 1 else -1 := ⟨_, rfl⟩
  have wy2 : wy = 1 ∨ wy = -1 := by rw [hwy]; split <;> simp
  have key := stp_way cp ht ce rp (wy : Rat) (by
    refine ⟨fun z => ?_, fun z => ?_, ?_⟩
    · have := num_pos'.mpr z
      rw [hwy, if_pos (.inl this)]; rfl
    · have : (stp c t).num < 0 := (num_lt _).mpr z
      rw [hwy, if_neg (by omega)]; rfl
    · rcases wy2 with h | h <;> rw [h]
      · left; rfl
      · right; rfl)
  have swr : Sz 24 ((wy : Rat) * r) := by
    rcases wy2 with h | h <;> rw [h]
    · simpa using w.sr
    · have : ((-1 : Int) : Rat) * r = -r := by grind
      rw [this]
      exact w.sr.neg
  have fw := fr_way r wy2
  have f4 := fun h => ha (stp c t) ((wy : Rat) * r) _ 24 h sb swr (by omega)
  have st' := sb.add swr
  have f5 := fun h => hz (stp c t + (wy : Rat) * r) h
  rw [key] at f5
  have mr : mulOk wy r.num = true := mulOk_of (B := 1) (C := 24) (by rcases wy2 with h | h <;> rw [h] <;> exact bts (by decide)) w.sr.1 (by decide)
  -- the urn
  have lm1 : m1 < h.length := (List.getElem?_eq_some_iff.mp e1).1
  have lm2 : m2 < h.length := (List.getElem?_eq_some_iff.mp e2).1
  have ua2 : UAt n N (h.set m1 (.lst ((acc ++ [e] ++ [nxt c r e]).map fr))) := by
    obtain ⟨xs, q, u⟩ := ua
    exact ⟨xs, by rw [List.getElem?_set_ne h1n]; exact q, u⟩
  obtain ⟨v, h3, g1, g2, g3, u3⟩ := hn n N 21 _ ua2 (by omega) (by decide) (by decide)
  have g4 := fun h => hw (v - 10) 10 4 h (by decide) (bts (by decide)) (by decide)
  have sq : Sz 4 (Rat.divInt (v - 10) 10) := sz_divInt (by decide) (by unfold Bt; omega) (bts (by decide))
  have qb : ab (Rat.divInt (v - 10) 10 * r) ≤ r := by
    have p1 : Rat.divInt (v - 10) 10 ≤ 1 := by
      rw [Rat.divInt_eq_div, ← Rat.not_lt]
      intro z
      have := (Rat.lt_div_iff (show (0:Rat) < ((10 : Int) : Rat) by decide)).mp z
      have : ((10 : Int) : Rat) < ((v - 10 : Int) : Rat) := by simpa using this
      have := Rat.intCast_lt_intCast.mp this
      omega
    have p2 : -1 ≤ Rat.divInt (v - 10) 10 := by
      rw [Rat.divInt_eq_div, ← Rat.not_lt]
      intro z
      have := (Rat.div_lt_iff (show (0:Rat) < ((10 : Int) : Rat) by decide)).mp z
      have : ((v - 10 : Int) : Rat) < ((-10 : Int) : Rat) := by simp at this ⊢; grind
      have := Rat.intCast_lt_intCast.mp this
      omega
    have a1 : Rat.divInt (v - 10) 10 * r ≤ 1 * r := Rat.mul_le_mul_of_nonneg_right p1 rp
    have a2 : -1 * r ≤ Rat.divInt (v - 10) 10 * r := Rat.mul_le_mul_of_nonneg_right p2 rp
    exact ab_le (by grind) (by grind)
  generalize Rat.divInt (v - 10) 10 = q at g4 sq qb
  have f6 := fun h => hm q r 4 24 h sq w.sr (by decide)
  have sqr := sq.mul w.sr
  have f7 := fun h => ha (stp c x) (q * r) _ _ h sbx sqr (by omega)
  have sx' := sbx.add sqr
  have f8 := fun h => hz (stp c x + q * r) h
  have lx := stp_less cp hx ce qb
  have e1' : h3[m1]? = some (.lst ((acc ++ [e] ++ [nxt c r e]).map fr)) := by
    rw [u3.oth m1 h1n (by simpa using lm1), List.getElem?_set_self lm1]
  have e2' : h3[m2]? = some (.lst (zs.map fr)) := by
    rw [u3.oth m2 h2n (by simpa using lm2), List.getElem?_set_ne h12]
    exact e2
  have lm2' : m2 < h3.length := (List.getElem?_eq_some_iff.mp e2').1
  refine ⟨stp c t + wy * r, stp c x + q * r, some (fr (stp c t)), some (.int wy), some (fr q), h3.set m2 (.lst ((zs ++ [ab (stp c x + q * r)]).map fr)), ?_, ?_, ?_, ?_, st'.mono (by omega), sx'.mono (by omega), key, lx⟩
  · have a1 : atI (acc.map fr ++ [fr e]) (-1) = some (fr e) := atI_last
    have sl : acc.length + 1 < 16777216 := by omega
    have sl2 : zs.length < 16777216 := by omega
    have s1 : ex Δ gl (.ife (.call i (.cons (.var 1) (.cons (.idx (.var 6) (.neg (.int 1))) .nil))) (.cons .brk .nil) .nil) [some (.ref n), some (fr c), some (fr r), v3, some (.int side), some (fr t), some (.ref m1), some (fr x), some (.ref m2), v9, v10, v11, v12, v13, v14, v15] h = .ok (.nx [some (.ref n), some (fr c), some (fr r), v3, some (.int side), some (fr t), some (.ref m1), some (fr x), some (.ref m2), v9, v10, v11, v12, v13, v14, v15]) h := by
      refine ex_no ?_
      simp [ev, evs, ixD, listAt, e1, a1, f1, nl]
    refine (exs_nx s1).trans ?_
    refine (exs_nx (ex_asg (d := fr (stp c t)) (h1 := h) ?_)).trans ?_
    · simp [ev, evs, f2]
    simp only [List.set]
    refine (exs_nx (ex_no (h1 := h) ?_)).trans ?_
    · simp [ev, evs, fr, ixD, bop, mo, cmpD, ng]
    refine (exs_nx (ex_asg (d := .int wy) (h1 := h) ?_)).trans ?_
    · rw [hwy]
      by_cases k1 : 0 < (stp c t).num
      · simp [ev, evs, fr, ixD, cmpD, k1]
      · by_cases k2 : (stp c t).num = 0
        · by_cases k3 : 0 < side
          · simp [ev, evs, fr, ixD, cmpD, eqD, k2, k3]
          · simp [ev, evs, fr, ixD, cmpD, eqD, k2, k3]
        · simp [ev, evs, fr, ixD, cmpD, eqD, k1, k2]
    simp only [List.set]
    refine (exs_nx (ex_asg (d := fr (stp c t + wy * r)) (h1 := h) ?_)).trans ?_
    · simp only [ev, evs, List.getElem?_cons_zero, List.getElem?_cons_succ, R.bind_ok]
      have z : (ixD (fr r) (.int 0) h) = .ok (.int r.num) h := by simp [fr, ixD]
      have z2 : (ixD (fr r) (.int 1) h) = .ok (.int r.den) h := by simp [fr, ixD]
      simp only [z, z2, R.bind_ok, bop, mr, if_true]
      have lk : lineOk [D.int (wy * r.num), D.int (r.den : Int)].length = true := by simp [lineOk, sizeLine]
      simp only [lk, if_true, R.bind_ok, fw, f4]
    simp only [List.set]
    refine (exs_nx (ex_exp (d := .non) (h1 := h.set m1 (.lst ((acc ++ [e] ++ [nxt c r e]).map fr))) ?_)).trans ?_
    · have q := ev_app (Δ := Δ) (gl := gl) (l := .var 6) (a := .call l (.cons (.var 5) .nil)) (ρ := [some (.ref n), some (fr c), some (fr r), v3, some (.int side), some (fr (stp c t + wy * r)), some (.ref m1), some (fr x), some (.ref m2), v9, some (fr (stp c t)), some (.int wy), v12, v13, v14, v15]) (h := h) (y := fr (nxt c r e)) (by simp [ev]) e1 (by simp [ev, evs, f5]) (by simp [sizeLine]; omega)
      rw [q, List.map_append (l₁ := acc ++ [e])]
      rfl
    refine (exs_nx (ex_asg (d := .int (0 - side)) (h1 := h.set m1 (.lst ((acc ++ [e] ++ [nxt c r e]).map fr))) ?_)).trans ?_
    · simp [ev, bop]
    simp only [List.set]
    refine (exs_nx (ex_asg (d := fr q) (h1 := h3) ?_)).trans ?_
    · simp only [ev, evs, List.getElem?_cons_zero, List.getElem?_cons_succ, R.bind_ok, g1, bop, g4]
    simp only [List.set]
    refine (exs_nx (ex_asg (d := fr (stp c x + q * r)) (h1 := h3) ?_)).trans ?_
    · simp only [ev, evs, List.getElem?_cons_zero, List.getElem?_cons_succ, R.bind_ok, f3, f6, f7]
    simp only [List.set]
    refine (exs_nx (ex_exp (d := .non) (h1 := h3.set m2 (.lst ((zs ++ [ab (stp c x + q * r)]).map fr))) ?_)).trans ?_
    · have q := ev_app (Δ := Δ) (gl := gl) (l := .var 8) (a := .call l (.cons (.var 7) .nil)) (ρ := [some (.ref n), some (fr c), some (fr r), v3, some (.int (0 - side)), some (fr (stp c t + wy * r)), some (.ref m1), some (fr (stp c x + q * r)), some (.ref m2), v9, some (fr (stp c t)), some (.int wy), some (fr q), v13, v14, v15]) (h := h3) (y := fr (ab (stp c x + q * r))) (by simp [ev]) e2' (by simp [ev, evs, f8]) (by simp [sizeLine]; omega)
      rw [q, List.map_append]
      rfl
    rw [exs]
  · obtain ⟨xs, q, u⟩ := u3.at_
    exact ⟨xs, by rw [List.getElem?_set_ne h2n]; exact q, u⟩
  · rw [List.getElem?_set_ne (Ne.symm h12)]
    exact e1'
  · rw [List.getElem?_set_self lm2']
end
end HS

/-! How large the worst errors grow: a sharper bound. -/
namespace HS
open PySem L2
theorem mne {a b : Rat} (ha : a ≠ 0) (hb : b ≠ 0) : a * b ≠ 0 := by
  intro z
  rcases Rat.mul_eq_zero.mp z with z | z
  · exact ha z
  · exact hb z
theorem rep_q (N D M : Rat) (hD : D ≠ 0) (hM : M ≠ 0) (e : M = N + D) : (N / M) * (N / M) / (2 * (1 - N / M)) = N * N / (2 * M * D) := by
  have h1 : 2 * (1 - N / M) = 2 * D / M := by grind
  have h2 : 2 * D / M ≠ 0 := by rw [Rat.div_def]; exact mne (mne (by decide) hD) (by grind)
  have h3 : 2 * M * D ≠ 0 := mne (mne (by decide) hM) hD
  rw [h1]
  grind
theorem rep_eq (N D M s t K : Rat) (hD : D ≠ 0) (hs : s ≠ 0) (hM : M ≠ 0) (e : M = N + D) (hK : M = s * K) :
    (N / M) * (N / M) / (2 * (1 - N / M)) + t / s = (N * N + t * (2 * K * D)) / (2 * M * D) := by
  have h3 : 2 * M * D ≠ 0 := mne (mne (by decide) hM) hD
  have h4 : t / s = t * (2 * K * D) / (2 * M * D) := by grind
  rw [rep_q N D M hD hM e, h4]
  grind
theorem rep_eq0 (N D M s t : Rat) (hD : D ≠ 0) (hs : s ≠ 0) (hM : M ≠ 0) (e : M = N + D) :
    (N / M) * (N / M) / (2 * (1 - N / M)) + t / s = (N * N * s + t * (2 * M * D)) / (2 * M * D * s) := by
  have h3 : 2 * M * D ≠ 0 := mne (mne (by decide) hM) hD
  have h5 : 2 * M * D * s ≠ 0 := mne h3 hs
  rw [rep_q N D M hD hM e]
  generalize 2 * M * D = X at *
  grind
theorem bnd {N D t s K B : Nat} (hM : N + D < 2 ^ B) (ht : t ≤ s) (hK : N + D = s * K) : N * N + t * (2 * K * D) < 2 ^ (2 * B + 1) ∧ 2 * (N + D) * D < 2 ^ (2 * B + 1) := by
  have e : (2 : Nat) ^ (2 * B + 1) = 2 * (2 ^ B * 2 ^ B) := by rw [Nat.pow_succ, Nat.two_mul, Nat.pow_add]; omega
  have h1 : (N + D) * (N + D) < 2 ^ B * 2 ^ B := Nat.mul_self_lt_mul_self hM
  have h2 : t * K ≤ N + D := by rw [hK]; exact Nat.mul_le_mul_right _ ht
  have h3 : t * (2 * K * D) = 2 * (t * K * D) := by grind
  have h4 : t * K * D ≤ (N + D) * D := Nat.mul_le_mul_right _ h2
  have h5 : (N + D) * (N + D) = N * N + 2 * (N * D) + D * D := by grind
  have h6 : (N + D) * D = N * D + D * D := by grind
  have h7 : 2 * (N + D) * D = 2 * ((N + D) * D) := by grind
  rw [e, h3, h7]
  constructor
  · omega
  · omega
theorem bnd0 {N D t s B C : Nat} (hM : N + D < 2 ^ B) (ht : t ≤ s) (hs : s < 2 ^ C) : N * N * s + t * (2 * (N + D) * D) < 2 ^ (2 * B + 1 + C) ∧ 2 * (N + D) * D * s < 2 ^ (2 * B + 1 + C) := by
  have hs0 : 0 < 2 ^ C := Nat.pos_of_ne_zero (by simp)
  have e : (2 : Nat) ^ (2 * B + 1 + C) = 2 * (2 ^ B * 2 ^ B) * 2 ^ C := by rw [Nat.pow_add, Nat.pow_succ, Nat.two_mul, Nat.pow_add]; grind
  have h1 : (N + D) * (N + D) < 2 ^ B * 2 ^ B := Nat.mul_self_lt_mul_self hM
  have h5 : (N + D) * (N + D) = N * N + 2 * (N * D) + D * D := by grind
  have h6 : (N + D) * D = N * D + D * D := by grind
  have h7 : 2 * (N + D) * D = 2 * ((N + D) * D) := by grind
  have a1 : t * (2 * (N + D) * D) ≤ s * (2 * (N + D) * D) := Nat.mul_le_mul_right _ ht
  have k1 : (N * N + 2 * (N + D) * D) * s ≤ (N * N + 2 * (N + D) * D) * 2 ^ C := Nat.mul_le_mul_left _ (Nat.le_of_lt hs)
  have k2 : (N * N + 2 * (N + D) * D) * 2 ^ C < (2 * (2 ^ B * 2 ^ B)) * 2 ^ C := Nat.mul_lt_mul_of_pos_right (by rw [h7]; omega) hs0
  have k3 : (N * N + 2 * (N + D) * D) * s = N * N * s + s * (2 * (N + D) * D) := by grind
  have k4 : 2 * (N + D) * D * s = s * (2 * (N + D) * D) := by grind
  rw [e, k4]
  constructor <;> omega
def ic (n : Nat) : Rat := ((n : Int) : Rat)
theorem ic_mul (a b : Nat) : ic (a * b) = ic a * ic b := by unfold ic; rw [Int.natCast_mul, Rat.intCast_mul]
theorem ic_add (a b : Nat) : ic (a + b) = ic a + ic b := by unfold ic; rw [Int.natCast_add, Rat.intCast_add]
theorem ic_ne {a : Nat} (h : 0 < a) : ic a ≠ 0 := fun z => by
  have := Rat.intCast_eq_zero_iff.mp z
  omega
theorem ic_lt {a b : Nat} (hb : 0 < b) (h : ic a / ic b < 1) : a < b := by
  have p : (0 : Rat) < ic b := Rat.intCast_pos.mpr (by omega)
  rw [Rat.div_lt_iff p, Rat.one_mul] at h
  have := Rat.intCast_lt_intCast.mp h
  omega
theorem ic2 : ic 2 = 2 := rfl
/-- a fraction whose denominator is a multiple of s, both below two to the B -/
def Rp (s B : Nat) (y : Rat) : Prop := ∃ N M K : Nat, 0 < M ∧ M = s * K ∧ N < 2 ^ B ∧ M < 2 ^ B ∧ y = ic N / ic M
theorem Rp.mono {s B C : Nat} {y : Rat} (h : Rp s B y) (l : B ≤ C) : Rp s C y := by
  obtain ⟨N, M, K, a, b, c, d, e⟩ := h
  have := Nat.pow_le_pow_right (show 0 < 2 by decide) l
  exact ⟨N, M, K, a, b, by omega, by omega, e⟩
theorem Rp.step {s t B : Nat} {y : Rat} (h : Rp s B y) (hs : 0 < s) (ht : t ≤ s) (hy : y < 1) : Rp s (2 * B + 1) (y * y / (2 * (1 - y)) + ic t / ic s) := by
  obtain ⟨N, M, K, hM, hK, hN, hMB, rfl⟩ := h
  have hNM := ic_lt hM hy
  obtain ⟨D, hD⟩ : ∃ D, M = N + D := ⟨M - N, by omega⟩
  have hD0 : 0 < D := by omega
  have b := bnd (N := N) (D := D) (t := t) (s := s) (K := K) (B := B) (by omega) ht (by omega)
  refine ⟨N * N + t * (2 * K * D), 2 * M * D, 2 * K * D, Nat.mul_pos (Nat.mul_pos (by decide) hM) hD0, by rw [hK]; grind, b.1, by rw [hD]; exact b.2, ?_⟩
  have e := rep_eq (ic N) (ic D) (ic M) (ic s) (ic t) (ic K) (ic_ne hD0) (ic_ne hs) (ic_ne hM) (by rw [hD, ic_add]) (by rw [hK, ic_mul])
  rw [e]
  simp only [ic_add, ic_mul, ic2]
theorem Rp.start {s t N M B C : Nat} (hM : 0 < M) (hMB : M < 2 ^ B) (hs : 0 < s) (hsC : s < 2 ^ C) (ht : t ≤ s) (hy : ic N / ic M < 1) : Rp s (2 * B + 1 + C) (ic N / ic M * (ic N / ic M) / (2 * (1 - ic N / ic M)) + ic t / ic s) := by
  have hNM := ic_lt hM hy
  obtain ⟨D, hD⟩ : ∃ D, M = N + D := ⟨M - N, by omega⟩
  have hD0 : 0 < D := by omega
  have b := bnd0 (N := N) (D := D) (t := t) (s := s) (B := B) (C := C) (by omega) ht hsC
  refine ⟨N * N * s + t * (2 * M * D), 2 * M * D * s, 2 * M * D, Nat.mul_pos (Nat.mul_pos (Nat.mul_pos (by decide) hM) hD0) hs, Nat.mul_comm _ _, by rw [hD]; exact b.1, by rw [hD]; exact b.2, ?_⟩
  have e := rep_eq0 (ic N) (ic D) (ic M) (ic s) (ic t) (ic_ne hD0) (ic_ne hs) (ic_ne hM) (by rw [hD, ic_add])
  rw [e]
  simp only [ic_add, ic_mul, ic2]
theorem nxt_y (c r e : Rat) : c * nxt c r e = (c * e) * (c * e) / (2 * (1 - c * e)) + c * r := by
  unfold nxt prt
  generalize hX : 2 * (1 - c * e) = X
  rw [Rat.div_def, Rat.div_def]
  grind
theorem errs_rp {c r : Rat} {s t C : Nat} (hs : 0 < s) (ht : t ≤ s) (hr : c * r = ic t / ic s) : ∀ (k B : Nat) (e : Rat), Rp s B (c * e) → (B + 1) * 2 ^ k ≤ C + 1 → ∀ x ∈ errs c r k e, Rp s C (c * x)
  | 0, B, e, he, hB, x, hx => by
    simp only [errs, List.mem_singleton] at hx
    subst hx
    exact he.mono (by omega)
  | k + 1, B, e, he, hB, x, hx => by
    have e2 : (2 * B + 1 + 1) * 2 ^ k = (B + 1) * 2 ^ (k + 1) := by rw [Nat.pow_succ]; grind
    have e3 : B + 1 ≤ (B + 1) * 2 ^ (k + 1) := Nat.le_mul_of_pos_right _ (Nat.pos_of_ne_zero (by simp))
    unfold errs at hx
    split at hx
    · rw [List.mem_singleton] at hx
      subst hx
      exact he.mono (by omega)
    · rename_i nl
      rcases List.mem_cons.mp hx with rfl | hx
      · exact he.mono (by omega)
      · refine errs_rp hs ht hr k (2 * B + 1) _ ?_ (by omega) x hx
        rw [nxt_y, hr]
        exact he.step hs ht (by grind)
theorem frac_ic {q : Rat} {B : Nat} (h : Sz B q) (p : 0 ≤ q) : ∃ N M : Nat, 0 < M ∧ N < 2 ^ B ∧ M < 2 ^ B ∧ q = ic N / ic M := by
  have n0 := Rat.num_nonneg.mpr p
  have a := h.1
  have b := h.2
  unfold Bt at a b
  refine ⟨q.num.toNat, q.den, Nat.pos_of_ne_zero q.den_nz, by omega, by omega, ?_⟩
  have e : ic q.num.toNat = (q.num : Rat) := by unfold ic; rw [Int.toNat_of_nonneg n0]
  rw [e]
  exact cast_num q
/-- the worst errors of at most six steps are short enough to be told -/
theorem errs_short {c r e : Rat} (w : Wd c r) (se : Sz 16 e) (sy : Sz 12 (c * e)) (pe : 0 ≤ e.num) (k : Nat) (hk : k ≤ 6) : ∀ x ∈ errs c r k e, Sz 1475 x := by
  have cp : 0 < c := by rw [Rat.lt_iff]; simpa using w.cp
  have pe := Rat.num_nonneg.mp pe
  have py : 0 ≤ c * e := Rat.mul_nonneg (Rat.le_of_lt cp) pe
  have pr : 0 ≤ c * r := Rat.mul_nonneg (Rat.le_of_lt cp) (Rat.num_nonneg.mp w.rp)
  obtain ⟨N, M, hM, _, hMB, ey⟩ := frac_ic sy py
  obtain ⟨t, s, hs, _, hsB, er⟩ := frac_ic w.pr pr
  have ht : t ≤ s := Nat.le_of_lt (ic_lt hs (by rw [← er]; exact w.cr))
  intro x hx
  match k, hk, hx with
  | 0, _, hx =>
    simp only [errs, List.mem_singleton] at hx
    subst hx
    exact se.mono (by decide)
  | k + 1, hk, hx =>
    unfold errs at hx
    split at hx
    · rw [List.mem_singleton] at hx
      subst hx
      exact se.mono (by decide)
    · rename_i nl
      rcases List.mem_cons.mp hx with rfl | hx
      · exact se.mono (by decide)
      · have y1 : c * e < 1 := by grind
        have st : Rp s 45 (c * nxt c r e) := by
          rw [nxt_y, er, ey]
          exact Rp.start (B := 12) (C := 20) hM hMB hs hsB ht (by rw [← ey]; exact y1)
        have pw : 2 ^ k ≤ 2 ^ 5 := Nat.pow_le_pow_right (by decide) (by omega)
        obtain ⟨N2, M2, K2, a1, a2, a3, a4, a5⟩ := errs_rp (C := 1471) hs ht er k 45 _ st (by omega) x hx
        have sx : Sz 1471 (c * x) := by
          rw [a5]
          have := sz_divInt (a := (N2 : Int)) (b := (M2 : Int)) (B := 1471) (by omega) (by unfold Bt; omega) (by unfold Bt; omega)
          rw [Rat.divInt_eq_div] at this
          exact this
        have ex : x = (c * x) / c := by
          have := w.c0
          grind
        rw [ex]
        exact sx.div w.sc w.c0
theorem errs_szK {c r : Rat} (w : Wd c r) {C : Nat} : ∀ (k B : Nat) (e : Rat), Sz B e → (B + 31) * 2 ^ k ≤ C + 31 → ∀ x ∈ errs c r k e, Sz C x
  | 0, B, e, he, hB, x, hx => by
    simp [errs] at hx
    subst hx
    exact he.mono (by omega)
  | k + 1, B, e, he, hB, x, hx => by
    rw [errs] at hx
    rw [Nat.pow_succ] at hB
    have hB2 : (2 * B + 31 + 31) * 2 ^ k ≤ C + 31 := by
      have : (2 * B + 31 + 31) * 2 ^ k = (B + 31) * (2 ^ k * 2) := by rw [show 2 * B + 31 + 31 = (B + 31) * 2 by omega, Nat.mul_assoc, Nat.mul_comm 2]
      omega
    have p1 : 1 ≤ 2 ^ k := Nat.one_le_two_pow
    have hB3 : B ≤ C := by
      have : (B + 31) * 1 ≤ (B + 31) * (2 ^ k * 2) := Nat.mul_le_mul_left _ (by omega)
      omega
    split at hx
    · simp at hx; subst hx; exact he.mono hB3
    · rename_i hl
      rcases List.mem_cons.mp hx with rfl | hx
      · exact he.mono hB3
      · exact errs_szK w k (2 * B + 31) _ (sz_nxt w.sc w.sr he (lost_ne hl)) hB2 x hx
end HS

/-! k33: the law. -/
namespace HS
open PySem L2
theorem errs_cut (c r : Rat) : ∀ (k : Nat) (e : Rat), errs c r ((errs c r k e).length - 1) e = errs c r k e
  | 0, e => by simp [errs]
  | k + 1, e => by
    by_cases h : 1 ≤ c * e
    · simp [errs, h]
    · have ih := errs_cut c r k (nxt c r e)
      have ne := errs_ne c r k (nxt c r e)
      have : 0 < (errs c r k (nxt c r e)).length := List.length_pos_iff.mpr ne
      obtain ⟨m, hm⟩ : ∃ m, (errs c r k (nxt c r e)).length = m + 1 := ⟨_, (Nat.succ_pred_eq_of_pos this).symm⟩
      rw [hm] at ih
      simp only [errs, h, if_false, List.length_cons, hm, Nat.add_sub_cancel] at ih ⊢
      rw [ih]
/-- zs is nowhere above es -/
structure Dom (zs es : List Rat) : Prop where
  len : zs.length = es.length
  le : ∀ (i : Nat) (z e : Rat), zs[i]? = some z → es[i]? = some e → z ≤ e
  sz : ∀ z ∈ zs, Sz 3100 z
theorem Dom.snoc {zs es : List Rat} {z e : Rat} (d : Dom zs es) (h : z ≤ e) (s : Sz 3100 z) : Dom (zs ++ [z]) (es ++ [e]) := by
  refine ⟨by simp [d.1], fun i a b ha hb => ?_, fun y hy => by
    rcases List.mem_append.mp hy with hy | hy
    · exact d.sz y hy
    · rw [List.mem_singleton.mp hy]; exact s⟩
  rcases Nat.lt_trichotomy i zs.length with hi | hi | hi
  · rw [List.getElem?_append_left hi] at ha
    rw [List.getElem?_append_left (by rw [← d.1]; exact hi)] at hb
    exact d.2 i a b ha hb
  · subst hi
    rw [List.getElem?_append_right (Nat.le_refl _)] at ha
    rw [List.getElem?_append_right (by rw [d.1]; exact Nat.le_refl _)] at hb
    rw [d.1] at hb
    simp at ha hb
    subst ha hb
    exact h
  · rw [List.getElem?_eq_none (by simp; omega)] at ha
    cases ha
section
variable {Δ : Nat → Fn} {gl : Nat → D}
theorem loop33 {i j k l m o p : Nat} (hl : S_lost (Δ i)) (hst : S_stepped (Δ j)) (ha : S_op (· + ·) (Δ k)) (hz : S_size (Δ l)) (hw : S_with (Δ m)) (hn : S_nip (Δ o)) (hm : S_op (· * ·) (Δ p))
    {n m1 m2 : Nat} {c r : Rat} (w : Wd c r) (h1n : m1 ≠ n) (h2n : m2 ≠ n) (h12 : m1 ≠ m2) (v3 v13 v14 v15 : Option D) :
    ∀ (items : List D) (N B : Nat) (e t x : Rat) (side : Int) (acc zs : List Rat) (h : Hh) (v9 v10 v11 v12 : Option D), UAt n N h → N + items.length ≤ 900000 →
    h[m1]? = some (.lst ((acc ++ [e]).map fr)) → h[m2]? = some (.lst (zs.map fr)) → Dom zs (acc ++ [e]) → acc.length + items.length < 900 → Sz B t → Sz B x → (B + 36) * 2 ^ items.length ≤ 1536 → ab t = e → ab x ≤ e →
    ∃ side' t' x' y9 y10 y11 y12 zs' h', forL [] (fun d ρ h => asn Δ gl (.nm 9) d ρ h) (fun ρ h => exs Δ gl (L_law33_0 i j k l m o p) ρ h) items [some (.ref n), some (fr c), some (fr r), v3, some (.int side), some (fr t), some (.ref m1), some (fr x), some (.ref m2), v9, v10, v11, v12, v13, v14, v15] h
        = .ok (.nx [some (.ref n), some (fr c), some (fr r), v3, some (.int side'), some (fr t'), some (.ref m1), some (fr x'), some (.ref m2), y9, y10, y11, y12, v13, v14, v15]) h' ∧
      h'[m1]? = some (.lst ((acc ++ errs c r items.length e).map fr)) ∧ h'[m2]? = some (.lst (zs'.map fr)) ∧ Dom zs' (acc ++ errs c r items.length e)
  | [], N, B, e, t, x, side, acc, zs, h, v9, v10, v11, v12, ua, hN, e1, e2, dm, hlen, st, sx, hB, ht, hx => by
    refine ⟨side, t, x, v9, v10, v11, v12, zs, h, ?_, e1, e2, dm⟩
    simp [forL, gsOk_nil]
  | d :: items, N, B, e, t, x, side, acc, zs, h, v9, v10, v11, v12, ua, hN, e1, e2, dm, hlen, st, sx, hB, ht, hx => by
    simp only [List.length_cons] at hN hlen hB
    rw [Nat.pow_succ] at hB
    have p1 : 1 ≤ 2 ^ items.length := Nat.one_le_two_pow
    have hB3 : B ≤ 1500 := by
      have : (B + 36) * 1 ≤ (B + 36) * (2 ^ items.length * 2) := Nat.mul_le_mul_left _ (by omega)
      omega
    have hB2 : (2 * B + 36 + 36) * 2 ^ items.length ≤ 1536 := by
      have : (2 * B + 36 + 36) * 2 ^ items.length = (B + 36) * (2 ^ items.length * 2) := by rw [show 2 * B + 36 + 36 = (B + 36) * 2 by omega, Nat.mul_assoc, Nat.mul_comm 2]
      omega
    have se : Sz B e := by rw [← ht]; exact st.ab
    by_cases nl : 1 ≤ c * e
    · have f1 := hl c e 4 B h w.sc se (by omega)
      have a1 : atI (acc.map fr ++ [fr e]) (-1) = some (fr e) := atI_last
      refine ⟨side, t, x, some d, v10, v11, v12, zs, h, ?_, ?_, e2, ?_⟩
      · rw [forL, if_pos (gsOk_nil h)]
        simp [asn, List.set, L_law33_0, exs, ex, ev, evs, asBl, ixD, listAt, e1, a1, f1, nl]
      · simpa [errs, nl] using e1
      · simpa [errs, nl] using dm
    · have l1 : acc.length < 1000 := by omega
      have l2 : zs.length < 1000 := by rw [dm.1]; simp; omega
      obtain ⟨t', x', y10, y11, y12, h', g1, g2, g3, g4, g5, g6, g7, g8⟩ := turn33 (Δ := Δ) (gl := gl) hl hst ha hz hw hn hm w ua (by omega) h1n h2n h12 e1 e2 l1 l2 st sx hB3 ht hx nl v3 (some d) v10 v11 v12 v13 v14 v15 (side := side)
      obtain ⟨side'', t'', x'', z9, z10, z11, z12, zs'', h'', k1, k2, k3, k4⟩ := loop33 hl hst ha hz hw hn hm w h1n h2n h12 v3 v13 v14 v15 items (N + 1) (2 * B + 36) (nxt c r e) t' x' (0 - side) (acc ++ [e]) (zs ++ [ab x']) h' (some d) y10 y11 y12 g2 (by omega) g3 g4 (dm.snoc g8 (g6.ab.mono (by omega))) (by simp; omega) g5 g6 hB2 g7 g8
      refine ⟨side'', t'', x'', z9, z10, z11, z12, zs'', h'', ?_, ?_, k3, ?_⟩
      · rw [forL, if_pos (gsOk_nil h)]
        simp only [asn, R.calm_ok, R.bind_ok, List.set]
        rw [g1, R.bind_ok]
        exact k1
      · simpa [errs, nl] using k2
      · simpa [errs, nl] using k4
/-- a comprehension that finds nothing -/
theorem lc_none {gs : Gs} {el : D → Hh → R (Option D)} {h : Hh} (hg : gsOk gs h) : ∀ (ds acc : List D), (∀ d ∈ ds, el d h = .ok none h) → acc.length < sizeLine → lcL gs el ds acc h = alloc (.lst acc) h
  | [], acc, _, hl => by
    unfold lcL
    rw [if_pos ⟨hg, Nat.le_of_lt hl⟩]
  | d :: ds, acc, hd, hl => by
    unfold lcL
    rw [if_pos ⟨hg, hl⟩, hd d (by simp), R.bind_ok]
    exact lc_none hg ds acc (fun x hx => hd x (List.mem_cons_of_mem _ hx)) hl
theorem mem_up {n : Nat} {d : D} (h : d ∈ upFrom 0 n) : ∃ i : Nat, i < n ∧ d = .int (i : Int) := by
  unfold upFrom at h
  obtain ⟨i, hi, rfl⟩ := List.mem_map.mp h
  exact ⟨i, List.mem_range.mp hi, by simp⟩
theorem s_law_right33 {i j k l m o p q a b c0 w1 s1 : Nat} (hw : S_world (Δ i)) (hf : S_first (Δ j)) (hany : S_any (Δ k)) (hl : S_lost (Δ l)) (hd : S_div2 (Δ m)) (hst : S_stepped (Δ o)) (ha : S_op (· + ·) (Δ p)) (hz : S_size (Δ q)) (hwith : S_with (Δ a)) (hn : S_nip (Δ b)) (hm : S_op (· * ·) (Δ c0)) (hwst : S_worst (Δ w1)) (hs : S_op (· - ·) (Δ s1)) :
    S_right (run Δ gl (F_law33 i j k l m o p q a b c0 w1 s1)) := by
  intro n h ua
  obtain ⟨c, r, h1, w, e1, u1⟩ := hw n 0 h ua (by decide)
  obtain ⟨e0, h2, ⟨se0, _⟩, pe0, e2, u2⟩ := hf n 6 c h1 u1.at_ (by decide) w.sc w.cp
  obtain ⟨sd, sm, h3, e3, u3⟩ := hany n 12 [.int 1, .int (-1)] h2 u2.at_ (by decide) (by simp) (by decide) (by simp)
  obtain ⟨side, rfl, hside⟩ : ∃ s : Int, sd = .int s ∧ (s = 1 ∨ s = -1) := by
    simp only [List.mem_cons, List.not_mem_nil, or_false] at sm
    rcases sm with rfl | rfl
    · exact ⟨1, rfl, .inl rfl⟩
    · exact ⟨-1, rfl, .inr rfl⟩
  -- the first error
  have cpos : 0 < c := num_pos'.mp w.cp
  obtain ⟨e, se, pe, he⟩ : ∃ e, Sz 16 e ∧ 0 ≤ e.num ∧ ev Δ gl (.ife (.call l (.cons (.var 1) (.cons (.var 3) .nil))) (.call m (.cons (.tup (.cons (.int 1) (.cons (.int 2) .nil))) (.cons (.var 1) .nil))) (.var 3)) [some (.ref n), some (fr c), some (fr r), some (fr e0), some (.int side), none, none, none, none, none, none, none, none, none, none, none] h3 = .ok (fr e) h3 := by
    have f1 := hl c e0 4 16 h3 w.sc se0 (by decide)
    by_cases nl : 1 ≤ c * e0
    · have g := hd 1 2 c 2 4 h3 (by decide) (bts (by decide)) (bts (by decide)) w.sc (by decide) w.c0
      refine ⟨Rat.divInt 1 2 / c, ((sz_divInt (B := 2) (by decide) (bts (by decide)) (bts (by decide))).div w.sc w.c0).mono (by decide), ?_, ?_⟩
      · rw [Rat.num_nonneg, Rat.div_def]
        exact Rat.mul_nonneg (by decide) (Rat.le_of_lt (Rat.inv_pos.mpr cpos))
      · simp [ev, evs, f1, nl, lineOk, sizeLine, g]
    · exact ⟨e0, se0, pe0, by simp [ev, evs, f1, nl]⟩
  have en : 0 ≤ e := Rat.num_nonneg.mp pe
  have st : Sz 16 ((side : Rat) * e) ∧ ab ((side : Rat) * e) = e := by
    rcases hside with rfl | rfl
    · exact ⟨by simpa using se, by simpa using ab_of en⟩
    · have : ((-1 : Int) : Rat) * e = -e := by grind
      rw [this]
      exact ⟨se.neg, by rw [ab_neg]; exact ab_of en⟩
  have ms : mulOk side e.num = true := mulOk_of (B := 1) (C := 16) (by rcases hside with h | h <;> rw [h] <;> exact bts (by decide)) se.1 (by decide)
  have fw := fr_way e hside
  have nl3 := u3.at_.lt
  -- the loop
  obtain ⟨side', t', x', y9, y10, y11, y12, zs, h4, k1, k2, k3, dm⟩ := loop33 (Δ := Δ) (gl := gl) hl hst ha hz hwith hn hm w (n := n) (m1 := h3.length) (m2 := h3.length + 1) (by omega) (by omega) (by omega) (some (fr e)) none none none
    (upFrom 0 4) 13 16 e (side * e) (side * e) side [] [e] (h3 ++ [.lst [fr e], .lst [fr e]]) none none none none u3.at_.app (by decide) (by simp) (by simp) ⟨rfl, fun i z e' h1 h2 => by simp only [List.nil_append] at h2; rw [h1] at h2; cases h2; exact Rat.le_refl, fun z hz => by rw [List.mem_singleton.mp hz]; exact se.mono (by decide)⟩ (by decide) st.1 st.1 (by decide) st.2 (by rw [st.2]; exact Rat.le_refl)
  simp only [List.nil_append, show (upFrom 0 4).length = 4 from rfl] at k2 dm
  have cut := errs_cut c r 4 e
  have szE := errs_szK w (C := 721) 4 16 e se (by decide)
  have lenE := errs_len c r 4 e
  have neE := errs_ne c r 4 e
  have hcnt : ∃ cnt, (errs c r 4 e).length = cnt + 1 := by
    have : 0 < (errs c r 4 e).length := List.length_pos_iff.mpr neE
    exact ⟨_, (Nat.succ_pred_eq_of_pos this).symm⟩
  obtain ⟨cnt, hcnt⟩ := hcnt
  rw [hcnt, Nat.add_sub_cancel] at cut
  have wst := fun h => hwst c r e cnt h w se pe (by omega) (by rw [cut]; exact hcnt)
  rw [cut] at wst
  generalize errs c r 4 e = E at *
  have cI : ((E.length : Nat) : Int) - 1 = (cnt : Int) := by omega
  have rq : ∀ h, bltD .repr [.tup (E.map fr)] h = .ok (.str (shownD h (.tup (E.map fr)))) h := fun h => by
    refine repr_ok (w := 5 * 1455 + 3) (k := 2) (Rq.tup (Rqs.all (w1 := 1453) (fun x hx => ?_) ?_)) (by decide) (by decide)
    · obtain ⟨y, hy, rfl⟩ := List.mem_map.mp hx
      exact (Rq.fr (szE y hy) (by decide)).mono (by decide) (Nat.le_refl 1)
    · simp
      omega
  have key : exs Δ gl (B_law33 i j k l m o p q a b c0 w1 s1) [some (.ref n), none, none, none, none, none, none, none, none, none, none, none, none, none, none, none] h = .ok (.rt (.bl true)) (h4 ++ [.lst [], .lst []]) := by
    unfold B_law33
    refine (exs_nx (ρ1 := [some (.ref n), some (fr c), some (fr r), none, none, none, none, none, none, none, none, none, none, none, none, none]) (h1 := h1) ?_).trans ?_
    · simp [ex, ev, evs, asn, asns, R.calm, List.set, e1]
    refine (exs_nx (ρ1 := [some (.ref n), some (fr c), some (fr r), some (fr e0), some (.int side), none, none, none, none, none, none, none, none, none, none, none]) (h1 := h3) ?_).trans ?_
    · simp [ex, ev, evs, asn, asns, R.calm, List.set, e2, e3, lineOk, sizeLine]
    refine (exs_nx (ex_asg he)).trans ?_
    simp only [List.set]
    refine (exs_nx (ρ1 := [some (.ref n), some (fr c), some (fr r), some (fr e), some (.int side), some (fr (side * e)), some (.ref h3.length), none, none, none, none, none, none, none, none, none]) (h1 := h3 ++ [.lst [fr e]]) ?_).trans ?_
    · have z : ∀ h, (ixD (fr e) (.int 0) h) = .ok (.int e.num) h := fun h => by simp [fr, ixD]
      have z2 : ∀ h, (ixD (fr e) (.int 1) h) = .ok (.int e.den) h := fun h => by simp [fr, ixD]
      simp [ex, ev, evs, asn, asns, R.calm, List.set, z, z2, bop, ms, lineOk, sizeLine, alloc, fw]
    refine (exs_nx (ρ1 := [some (.ref n), some (fr c), some (fr r), some (fr e), some (.int side), some (fr (side * e)), some (.ref h3.length), some (fr (side * e)), some (.ref (h3.length + 1)), none, none, none, none, none, none, none]) (h1 := h3 ++ [.lst [fr e], .lst [fr e]]) ?_).trans ?_
    · simp [ex, ev, evs, asn, asns, R.calm, List.set, lineOk, sizeLine, alloc]
    refine (exs_nx (ex_for (p := upFrom 0 4) (gs := []) (h1 := h3 ++ [.lst [fr e], .lst [fr e]]) (evi_rng1 (k := 4) (by simp [evs, ev]) (by decide)) k1)).trans ?_
    refine (exs_nx (ex_asg (d := .int cnt) (h1 := h4) ?_)).trans ?_
    · simp [ev, evs, bltD, listAt, k2, bop, cI]
    simp only [List.set]
    refine (exs_nx (ex_asg (d := .tup (E.map fr)) (h1 := h4) ?_)).trans ?_
    · simp [ev, evs, wst]
    simp only [List.set]
    refine (exs_nx (ex_no (h1 := h4) (ev_same (ev_repr (d := .tup (E.map fr)) (h1 := h4) ?_ (rq h4)) (ev_repr (d := .tup (E.map fr)) (h1 := h4) ?_ (rq h4))))).trans ?_
    · simp [ev]
    · simp [ev, evs, bltD, listAt, k2]
    refine (exs_nx (ex_no (h1 := h4) (ev_same (ev_repr (d := .tup (E.map fr)) (h1 := h4) ?_ (rq h4)) (ev_repr (d := .tup (E.map fr)) (h1 := h4) ?_ (rq h4))))).trans ?_
    · simp [ev, evs, wst]
    · simp [ev]
    refine exs_rt ?_
    rw [ev, ev_lc (p := upFrom 0 E.length) (gs := []) (h1 := h4) (evi_rng1 (k := E.length) (by simp [evs, ev, bop]; omega) (small_nat (by omega)))]
    rw [lc_none (gsOk_nil h4) _ _ (fun d hd' => ?_) (by decide)]
    · have q1 : (h4 ++ [C.lst []] ++ [C.lst []])[h4.length]? = some (.lst (([] : List Int).map D.int)) := by simp
      have q2 : (h4 ++ [C.lst []] ++ [C.lst []])[(h4 ++ [C.lst []]).length]? = some (.lst []) := by simp
      have eq := eqD_nil q1 q2
      simp only [alloc, R.bind_ok, ev, evs, show lineOk ([] : List D).length = true from by decide, if_true, cmpD, eq]
      simp
    · obtain ⟨ix, hi, rfl⟩ := mem_up hd'
      have hz' : ix < zs.length := by rw [dm.1]; exact hi
      have g1 : E[ix]? = some E[ix] := List.getElem?_eq_getElem hi
      have g2 : zs[ix]? = some zs[ix] := List.getElem?_eq_getElem hz'
      have le := dm.2 ix _ _ g2 g1
      have a1 : atI (E.map fr) ((ix : Nat) : Int) = some (fr E[ix]) := by rw [atI_nat (by simpa using hi), List.getElem?_map, g1]; rfl
      have a2 : atI (zs.map fr) ((ix : Nat) : Int) = some (fr zs[ix]) := by rw [atI_nat (by simpa using hz'), List.getElem?_map, g2]; rfl
      have sz' := dm.sz _ (List.getElem_mem hz')
      have sE := szE _ (List.getElem_mem hi)
      have sub := hs E[ix] zs[ix] 721 3100 h4 sE sz' (by decide)
      have nn : ¬ (E[ix] - zs[ix]).num < 0 := by
        rw [num_lt]
        grind
      simp only [asn, wipeD, List.set, R.bind_ok, evt, ev, evs, List.getElem?_cons_zero, List.getElem?_cons_succ, ixD, listAt, k3, a1, a2, sub]
      simp [fr, cmpD, asBl, nn]
  have t : ∃ h9, tidy h (.bl true) (h4 ++ [.lst [], .lst []]) = .ok (.bl true) h9 := by
    rcases tidy_flat (h := h) (h' := h4 ++ [.lst [], .lst []]) (d := .bl true) rfl with q | q
    · exact ⟨_, q⟩
    · exact ⟨_, q⟩
  obtain ⟨h9, t⟩ := t
  refine ⟨h9, ?_⟩
  simp only [run, F_law33, List.length_cons, List.length_nil, if_true, List.map_cons, List.map_nil, List.replicate, List.cons_append, List.nil_append]
  rw [key]
  exact t
end
end HS

/-! k32: the home radius, the worst errors. -/
namespace HS
open PySem L2
def B_home_by (f_ratio_over g_TWO f_ratio_product g_THREE : Nat) : Ss :=
  (.cons (.ret (.call f_ratio_over (.cons (.glb g_TWO) (.cons (.call f_ratio_product (.cons (.glb g_THREE) (.cons (.var 0) .nil))) .nil)))) .nil)
def F_home_by (f_ratio_over g_TWO f_ratio_product g_THREE : Nat) : Df := ⟨1, 1, B_home_by f_ratio_over g_TWO f_ratio_product g_THREE⟩
def B_home_radius (f_check_change f_home_by : Nat) : Ss :=
  (.cons (.exp (.call f_check_change (.cons (.var 0) .nil))) 
  (.cons (.ret (.call f_home_by (.cons (.var 0) .nil))) .nil))
def F_home_radius (f_check_change f_home_by : Nat) : Df := ⟨1, 1, B_home_radius f_check_change f_home_by⟩
def L_law_due_0 (f__law_is_lost f__law_led : Nat) : Ss :=
    (.cons (.ife (.call f__law_is_lost (.cons (.var 0) (.cons (.idx (.var 4) (.neg (.int 1))) .nil))) (
      (.cons (.ret (.str "lost")) .nil)) (.nil)) 
    (.cons (.exp (.app (.var 4) (.call f__law_led (.cons (.var 0) (.cons (.var 1) (.cons (.idx (.var 4) (.neg (.int 1))) .nil)))))) .nil))
def B_law_due (f__law_is_lost f__law_led : Nat) : Ss :=
  (.cons (.asg (.nm 4) (.lst (.cons (.var 2) .nil))) 
  (.cons (.fr (.nm 5) (.rng (.cons (.var 3) .nil)) (L_law_due_0 f__law_is_lost f__law_led)) 
  (.cons (.ret (.blt .repr (.cons (.blt .tuple (.cons (.var 4) .nil)) .nil))) .nil)))
def F_law_due (f__law_is_lost f__law_led : Nat) : Df := ⟨4, 6, B_law_due f__law_is_lost f__law_led⟩
def B_law32 (f__law_world f__law_div f_home_radius f__law_first f__law_nip f__law_due f_worst_errors f__law_mul f__law_frac f__law_sub : Nat) : Ss :=
  (.cons (.asg (.tup (.cons (.nm 1) (.cons (.nm 2) .nil))) (.call f__law_world (.cons (.var 0) .nil))) 
  (.cons (.asg (.nm 3) (.call f__law_div (.cons (.tup (.cons (.int 2) (.cons (.int 3) .nil))) (.cons (.var 1) .nil)))) 
  (.cons (.ife (.cmp .NotEq (.blt .repr (.cons (.lst (.cons (.call f_home_radius (.cons (.var 1) .nil)) (.cons (.callk f_home_radius .nil [0] (.cons (.var 1) .nil)) .nil))) .nil)) (.blt .repr (.cons (.lst (.cons (.var 3) (.cons (.var 3) .nil))) .nil))) (
    (.cons (.ret (.bl false)) .nil)) (.nil)) 
  (.cons (.asg (.tup (.cons (.nm 4) (.cons (.nm 5) .nil))) (.tup (.cons (.call f__law_first (.cons (.var 0) (.cons (.var 1) .nil))) (.cons (.call f__law_nip (.cons (.var 0) (.cons (.int 7) .nil))) .nil)))) 
  (.cons (.asg (.nm 6) (.call f__law_due (.cons (.var 1) (.cons (.var 2) (.cons (.var 4) (.cons (.var 5) .nil)))))) 
  (.cons (.ife (.cmp .NotEq (.told (.rep 0 5 "lost" "odd") (.call f_worst_errors (.cons (.var 1) (.cons (.var 2) (.cons (.var 4) (.cons (.var 5) .nil)))))) (.var 6)) (
    (.cons (.ret (.bl false)) .nil)) (.nil)) 
  (.cons (.ife (.cmp .NotEq (.told (.rep 0 5 "lost" "odd") (.callk f_worst_errors .nil [3, 2, 1, 0] (.cons (.var 5) (.cons (.var 4) (.cons (.var 2) (.cons (.var 1) .nil)))))) (.var 6)) (
    (.cons (.ret (.bl false)) .nil)) (.nil)) 
  (.cons (.ife (.cmp .NotEq (.blt .repr (.cons (.call f_worst_errors (.cons (.var 1) (.cons (.tup (.cons (.int 0) (.cons (.int 1) .nil))) (.cons (.var 3) (.cons (.int 3) .nil))))) .nil)) (.blt .repr (.cons (.bin .mul (.tup (.cons (.var 3) .nil)) (.int 4)) .nil))) (
    (.cons (.ret (.bl false)) .nil)) (.nil)) 
  (.cons (.asg (.nm 7) (.call f__law_mul (.cons (.var 3) (.cons (.call f__law_frac (.cons (.bin .add (.int 1) (.call f__law_nip (.cons (.var 0) (.cons (.int 50) .nil)))) (.cons (.int 52) .nil))) .nil)))) 
  (.cons (.asg (.nm 8) (.call f_worst_errors (.cons (.var 1) (.cons (.tup (.cons (.int 0) (.cons (.int 1) .nil))) (.cons (.var 7) (.cons (.int 3) .nil)))))) 
  (.cons (.asg (.nm 9) (.lc (.idx (.call f__law_sub (.cons (.idx (.var 8) (.var 10)) (.cons (.idx (.var 8) (.bin .add (.var 10) (.int 1))) .nil))) (.int 0)) (.nm 10) (.rng (.cons (.int 3) .nil)) .no [10])) 
  (.cons (.ife (.or (.cmp .LtE (.blt .min (.cons (.var 9) .nil)) (.int 0)) (.cmp .LtE (.idx (.idx (.var 8) (.neg (.int 1))) (.int 0)) (.int 0))) (
    (.cons (.ret (.bl false)) .nil)) (.nil)) 
  (.cons (.asg (.nm 11) (.call f__law_mul (.cons (.var 3) (.cons (.call f__law_frac (.cons (.int 21) (.cons (.int 20) .nil))) .nil)))) 
  (.cons (.asg (.nm 8) (.call f_worst_errors (.cons (.var 1) (.cons (.tup (.cons (.int 0) (.cons (.int 1) .nil))) (.cons (.var 11) (.cons (.int 1) .nil)))))) 
  (.cons (.ret (.cmp .Gt (.idx (.call f__law_sub (.cons (.idx (.var 8) (.int 1)) (.cons (.idx (.var 8) (.int 0)) .nil))) (.int 0)) (.int 0))) .nil)))))))))))))))
def F_law32 (f__law_world f__law_div f_home_radius f__law_first f__law_nip f__law_due f_worst_errors f__law_mul f__law_frac f__law_sub : Nat) : Df := ⟨1, 12, B_law32 f__law_world f__law_div f_home_radius f__law_first f__law_nip f__law_due f_worst_errors f__law_mul f__law_frac f__law_sub⟩
/-! ### numbers -/
theorem nxt0 (c e : Rat) : nxt c 0 e = prt c e := by unfold nxt; grind
theorem nxt_down {c e : Rat} (hc : 0 < c) (he : 0 < e) (h : c * e < 2 / 3) : 0 < nxt c 0 e ∧ nxt c 0 e < e := by
  have h1 : c * e < 1 := by grind
  have m := prt_mul h1
  have p : 0 < 2 * (1 - c * e) := by grind
  have q : 0 < c * e := Rat.mul_pos hc he
  rw [nxt0]
  constructor
  · refine Rat.lt_of_mul_lt_mul_right (c := 2 * (1 - c * e)) ?_ (Rat.le_of_lt p)
    rw [m, Rat.zero_mul]
    exact Rat.mul_pos q he
  · refine Rat.lt_of_mul_lt_mul_right (c := 2 * (1 - c * e)) ?_ (Rat.le_of_lt p)
    rw [m, Rat.mul_comm e]
    exact Rat.mul_lt_mul_of_pos_right (by grind) he
theorem nxt_up {c e : Rat} (hc : 0 < c) (he : 0 < e) (h : c * e = 7 / 10) : e < nxt c 0 e := by
  have h1 : c * e < 1 := by grind
  have m := prt_mul h1
  rw [nxt0]
  have m2 : 6 * prt c e = 7 * e := by grind
  clear m
  grind
theorem nxt_near {c e : Rat} (h : c * e = 2 / 3) : nxt c 0 e = e := by
  have h1 : c * e < 1 := by grind
  have m := prt_mul h1
  rw [nxt0]
  grind
theorem wd0 {c r : Rat} (w : Wd c r) : Wd c 0 := ⟨w.sc, ⟨bts (by decide), bts (by decide)⟩, w.cp, by decide, by rw [Rat.mul_zero]; decide, by rw [Rat.mul_zero]; exact ⟨bts (by decide), bts (by decide)⟩⟩
/-! ### the defs -/
def nearR (c : Rat) : Rat := Rat.divInt 2 3 / c
theorem two_thirds : Rat.divInt 2 3 = 2 / 3 := by rw [Rat.divInt_eq_div]; rfl
theorem near_mul {c : Rat} (h : c ≠ 0) : c * nearR c = 2 / 3 := by
  unfold nearR
  rw [two_thirds]
  grind
theorem near_pos {c : Rat} (h : 0 < c) : 0 < nearR c := by
  unfold nearR
  rw [Rat.div_def]
  exact Rat.mul_pos (by decide) (Rat.inv_pos.mpr h)
theorem near_sz {c : Rat} (h : Sz 4 c) (h0 : c ≠ 0) : Sz 6 (nearR c) := (sz_divInt (B := 2) (a := 2) (b := 3) (by decide) (bts (by decide)) (bts (by decide))).div h h0
def S_home (f : Fn) : Prop := ∀ (c : Rat) h, Sz 4 c → 0 < c.num → f [fr c] h = .ok (fr (nearR c)) h
def dueS (c r e : Rat) (k : Nat) : Str := if (errs c r k e).length = k + 1 then shownD [] (.tup ((errs c r k e).map fr)) else "lost"
def S_due (f : Fn) : Prop := ∀ (c r e : Rat) (k : Nat) h, Wd c r → Sz 16 e → Sz 12 (c * e) → 0 ≤ e.num → k ≤ 6 → f [fr c, fr r, fr e, .int k] h = .ok (.str (dueS c r e k)) h
def S_worstX (f : Fn) : Prop := ∀ (c r e : Rat) (k : Nat) h, Wd c r → Sz 16 e → 0 ≤ e.num → k ≤ 6 → (errs c r k e).length ≠ k + 1 → ∃ l, f [fr c, fr r, fr e, .int k] h = .ex ⟨5, []⟩ (h ++ [l])
section
variable {Δ : Nat → Fn} {gl : Nat → D}
theorem s_home_by {i j k l : Nat} (ho : S_over (Δ i)) (h2 : gl j = fr 2) (hm : S_op (· * ·) (Δ k)) (h3 : gl l = fr 3) : S_home (run Δ gl (F_home_by i j k l)) := by
  intro c h sc cp
  have c0 : c ≠ 0 := fun z => by rw [z] at cp; exact absurd cp (by decide)
  have s3 : Sz 2 (3 : Rat) := ⟨bts (by decide), bts (by decide)⟩
  have e1 := hm 3 c 2 4 h s3 sc (by decide)
  have n0 : (3 : Rat) * c ≠ 0 := mne (by decide) c0
  have e2 := ho 2 (3 * c) 2 6 h sz2 (s3.mul sc) (by decide) n0
  have e3 : (2 : Rat) / (3 * c) = nearR c := by
    unfold nearR
    rw [two_thirds]
    grind
  rw [e3] at e2
  simp [run, F_home_by, B_home_by, exs, ex, ev, evs, h2, h3, e1, e2]
  exact tidy_self (fr_flat _)
theorem s_home_radius {i j : Nat} (hc : S_pos (Δ i)) (hh : S_home (Δ j)) : S_home (run Δ gl (F_home_radius i j)) := by
  intro c h sc cp
  have e1 := hc c h cp
  have e2 := hh c h sc cp
  simp [run, F_home_radius, B_home_radius, exs, ex, ev, evs, e1, e2]
  exact tidy_self (fr_flat _)
/-- a loop that grows the errors and is left where the slope is lost -/
theorem out_loop {tg : D → En → Hh → R En} {bd : En → Hh → R F} {c r : Rat} {out : Option D → F} (w : Wd c r) (h : Hh) (St : Option D → En) (htg : ∀ d z h, tg d (St z) h = .ok (St (some d)) h)
    (ho : ∀ z, (∃ d, out z = .rt d) ∨ ∃ e ρ, out z = .xc e ρ)
    (hb1 : ∀ (acc : List Rat) (e : Rat) (B : Nat) (z : Option D), Sz B e → B ≤ 2977 → 1 ≤ c * e → bd (St z) (h ++ [.lst ((acc ++ [e]).map fr)]) = .ok (out z) (h ++ [.lst ((acc ++ [e]).map fr)]))
    (hb2 : ∀ (acc : List Rat) (e : Rat) (B : Nat) (z : Option D), Sz B e → B ≤ 2977 → ¬ 1 ≤ c * e → acc.length < 1000 → bd (St z) (h ++ [.lst ((acc ++ [e]).map fr)]) = .ok (.nx (St z)) (h ++ [.lst (((acc ++ [e]) ++ [nxt c r e]).map fr)])) :
    ∀ (items : List D) (acc : List Rat) (B : Nat) (e : Rat) (z : Option D), Sz B e → (B + 31) * 2 ^ items.length ≤ 3008 → acc.length + items.length < 1000 → (errs c r items.length e).length ≠ items.length + 1 →
      ∃ z' l, forL [] tg bd items (St z) (h ++ [.lst ((acc ++ [e]).map fr)]) = .ok (out z') (h ++ [l])
  | [], acc, B, e, z, he, hB, hlen, hE => absurd (by simp [errs]) hE
  | d :: items, acc, B, e, z, he, hB, hlen, hE => by
    obtain ⟨hB2, hB3⟩ := pow_step hB
    unfold forL
    rw [if_pos (gsOk_nil _), htg]
    by_cases hlost : 1 ≤ c * e
    · refine ⟨some d, .lst ((acc ++ [e]).map fr), ?_⟩
      simp only [R.calm_ok, R.bind_ok, hb1 acc e B (some d) he hB3 hlost]
      rcases ho (some d) with ⟨y, q⟩ | ⟨y, ρ, q⟩
      · rw [q]
      · rw [q]
    · simp only [List.length_cons, errs, hlost, if_false, ne_eq, Nat.add_right_cancel_iff] at hE
      obtain ⟨z', l, e1⟩ := out_loop w h St htg ho hb1 hb2 items (acc ++ [e]) (2 * B + 31) (nxt c r e) (some d) (sz_nxt w.sc w.sr he (lost_ne hlost)) hB2 (by simp at hlen ⊢; omega) hE
      refine ⟨z', l, ?_⟩
      simp only [R.calm_ok, R.bind_ok, hb2 acc e B (some d) he hB3 hlost (by simp at hlen; omega)]
      exact e1
theorem s_worst_lost {i j k l m : Nat} (hs : S_start (Δ i)) (hg : S_num (Δ j)) (h6 : gl k = .int 6) (hl : S_lost (Δ l)) (hn : S_next (Δ m)) : S_worstX (run Δ gl (F_worst_errors i j k l m)) := by
  intro c r e0 n h w he he0 hk hE
  have lu : (upFrom 0 n).length = n := by simp [upFrom]
  have key0 : (16 + 31) * 2 ^ n ≤ 3008 := by
    have : 2 ^ n ≤ 2 ^ 6 := Nat.pow_le_pow_right (by decide) hk
    omega
  obtain ⟨z, lx, e1⟩ := out_loop (tg := fun d ρ h => asn Δ gl (.nm 5) d ρ h) (bd := fun ρ h => exs Δ gl (L_worst_errors_0 l m) ρ h) (out := fun z => .xc ⟨5, []⟩ [some (fr c), some (fr r), some (fr e0), some (.int n), some (.ref h.length), z])
    w h (fun z => [some (fr c), some (fr r), some (fr e0), some (.int n), some (.ref h.length), z]) (fun d z h => by simp [asn, List.set]) (fun z => .inr ⟨_, _, rfl⟩)
    (fun acc e B z he hB hlost => by
      have l1 := fun h => hl c e 4 B h w.sc he (by omega)
      have a1 : atI (acc.map fr ++ [fr e]) (-1) = some (fr e) := atI_last
      simp [L_worst_errors_0, exs, ex, ev, evs, asBl, ixD, listAt, get_end, a1, l1, hlost])
    (fun acc e B z he hB hlost hlen => by
      have l1 := fun h => hl c e 4 B h w.sc he (by omega)
      have n1 := fun h => hn c r e B h w.sc w.sr he hB (lost_ne hlost)
      have a1 : atI (acc.map fr ++ [fr e]) (-1) = some (fr e) := atI_last
      have sl : acc.length + 1 < sizeLine := Nat.lt_of_lt_of_le (show acc.length + 1 < 1001 by omega) (by decide)
      simp [L_worst_errors_0, exs, ex, ev, evs, asBl, ixD, listAt, get_end, a1, l1, hlost, n1, lstOk, app, sl])
    (upFrom 0 n) [] 16 e0 none he (by rw [lu]; exact key0) (by rw [lu]; simp; omega) (by rw [lu]; exact hE)
  have c1 := hs c r e0 h w.sc w.sr w.cp w.rp w.cr he0
  have c2 := hg n 0 6 h (by omega) (by omega)
  have e4 : small62 (n : Int) = true := small_nat (by omega)
  simp only [List.nil_append, List.map_cons, List.map_nil] at e1
  have key : exs Δ gl (B_worst_errors i j k l m) [some (fr c), some (fr r), some (fr e0), some (.int n), none, none] h = .ok (.xc ⟨5, []⟩ [some (fr c), some (fr r), some (fr e0), some (.int n), some (.ref h.length), z]) (h ++ [lx]) := by
    unfold B_worst_errors
    refine (exs_nx (ex_exp (d := .non) (h1 := h) ?_)).trans ?_
    · simp [ev, evs, c1]
    refine (exs_nx (ex_exp (d := .non) (h1 := h) ?_)).trans ?_
    · simp [ev, evs, h6, c2]
    refine (exs_nx (ex_asg (d := .ref h.length) (h1 := h ++ [.lst [fr e0]]) ?_)).trans ?_
    · simp [ev, evs, lineOk, sizeLine, alloc]
    simp only [List.set]
    rw [exs, ex_for (evi_rng1 (k := n) (by simp [evs, ev]) e4) e1]
    rfl
  refine ⟨lx, ?_⟩
  simp only [run, F_worst_errors, List.length_cons, List.length_nil, if_true, List.map_cons, List.map_nil, List.replicate, List.cons_append, List.nil_append]
  rw [key]
theorem errs_rq {c r e : Rat} {k : Nat} {rd : Nat → Option PyData} (w : Wd c r) (se : Sz 16 e) (sy : Sz 12 (c * e)) (pe : 0 ≤ e.num) (hk : k ≤ 6) : Rq rd (.tup ((errs c r k e).map fr)) (7 * 2965 + 3) 2 := by
  have sh := errs_short w se sy pe k hk
  have ln := errs_len c r k e
  refine Rq.tup (Rqs.all (w1 := 2963) (fun x hx => ?_) ?_)
  · obtain ⟨y, hy, rfl⟩ := List.mem_map.mp hx
    exact (Rq.fr (sh y hy) (by decide)).mono (by decide) (Nat.le_refl 1)
  · simp
    omega
theorem errs_repr {c r e : Rat} {k : Nat} (h : Hh) (w : Wd c r) (se : Sz 16 e) (sy : Sz 12 (c * e)) (pe : 0 ≤ e.num) (hk : k ≤ 6) : bltD .repr [.tup ((errs c r k e).map fr)] h = .ok (.str (shownD [] (.tup ((errs c r k e).map fr)))) h := by
  rw [repr_ok (errs_rq w se sy pe hk) (by decide) (by decide), shown_flat (h := h) (h' := []) (flat_frs _)]
theorem s_law_due {i j : Nat} (hl : S_lost (Δ i)) (hn : S_next (Δ j)) : S_due (run Δ gl (F_law_due i j)) := by
  intro c r e0 n h w he sy he0 hk
  have lu : (upFrom 0 n).length = n := by simp [upFrom]
  have key0 : (16 + 31) * 2 ^ n ≤ 3008 := by
    have : 2 ^ n ≤ 2 ^ 6 := Nat.pow_le_pow_right (by decide) hk
    omega
  have e4 : small62 (n : Int) = true := small_nat (by omega)
  have htg : ∀ (d : D) (z : Option D) (h1 : Hh), (fun d ρ h => asn Δ gl (.nm 5) d ρ h) d ((fun z => [some (fr c), some (fr r), some (fr e0), some (.int n), some (.ref h.length), z]) z) h1 = .ok ((fun z => [some (fr c), some (fr r), some (fr e0), some (.int n), some (.ref h.length), z]) (some d)) h1 := fun d z h => by simp [asn, List.set]
  have hb2 : ∀ (acc : List Rat) (e : Rat) (B : Nat) (z : Option D), Sz B e → B ≤ 2977 → ¬ 1 ≤ c * e → acc.length < 1000 → (fun ρ h => exs Δ gl (L_law_due_0 i j) ρ h) ((fun z => [some (fr c), some (fr r), some (fr e0), some (.int n), some (.ref h.length), z]) z) (h ++ [.lst ((acc ++ [e]).map fr)]) = .ok (.nx ((fun z => [some (fr c), some (fr r), some (fr e0), some (.int n), some (.ref h.length), z]) z)) (h ++ [.lst (((acc ++ [e]) ++ [nxt c r e]).map fr)]) :=
    fun acc e B z he hB hlost hlen => by
      have l1 := fun h => hl c e 4 B h w.sc he (by omega)
      have n1 := fun h => hn c r e B h w.sc w.sr he hB (lost_ne hlost)
      have a1 : atI (acc.map fr ++ [fr e]) (-1) = some (fr e) := atI_last
      have sl : acc.length + 1 < sizeLine := Nat.lt_of_lt_of_le (show acc.length + 1 < 1001 by omega) (by decide)
      simp [L_law_due_0, exs, ex, ev, evs, asBl, ixD, listAt, get_end, a1, l1, hlost, n1, lstOk, app, sl]
  have q0 : ∀ (ss : Ss) (rr : R F), exs Δ gl (.cons (.fr (.nm 5) (.rng (.cons (.var 3) .nil)) (L_law_due_0 i j)) ss) [some (fr c), some (fr r), some (fr e0), some (.int n), some (.ref h.length), none] (h ++ [.lst [fr e0]]) = rr →
      exs Δ gl (.cons (.asg (.nm 4) (.lst (.cons (.var 2) .nil))) (.cons (.fr (.nm 5) (.rng (.cons (.var 3) .nil)) (L_law_due_0 i j)) ss)) [some (fr c), some (fr r), some (fr e0), some (.int n), none, none] h = rr := fun ss rr q => by
    refine (exs_nx (ex_asg (d := .ref h.length) (h1 := h ++ [.lst [fr e0]]) ?_)).trans ?_
    · simp [ev, evs, lineOk, sizeLine, alloc]
    · simpa only [List.set] using q
  by_cases hE : (errs c r n e0).length = n + 1
  · obtain ⟨z, e1⟩ := wst_loop (tg := fun d ρ h => asn Δ gl (.nm 5) d ρ h) (bd := fun ρ h => exs Δ gl (L_law_due_0 i j) ρ h)
      w h (fun z => [some (fr c), some (fr r), some (fr e0), some (.int n), some (.ref h.length), z]) htg hb2
      (upFrom 0 n) [] 16 e0 none he (by rw [lu]; exact key0) (by rw [lu]; simp; omega) (by rw [lu]; exact hE)
    rw [lu] at e1
    simp only [List.nil_append, List.map_cons, List.map_nil] at e1
    have key : exs Δ gl (B_law_due i j) [some (fr c), some (fr r), some (fr e0), some (.int n), none, none] h = .ok (.rt (.str (dueS c r e0 n))) (h ++ [.lst ((errs c r n e0).map fr)]) := by
      unfold B_law_due
      refine q0 _ _ ?_
      refine (exs_nx (ex_for (evi_rng1 (k := n) (by simp [evs, ev]) e4) e1)).trans ?_
      refine exs_rt ?_
      refine ev_repr (d := .tup ((errs c r n e0).map fr)) (h1 := h ++ [.lst ((errs c r n e0).map fr)]) ?_ ?_
      · simp [ev, evs, bltD, listAt]
      · rw [errs_repr _ w he sy he0 hk, dueS, if_pos hE]
    simp only [run, F_law_due, List.length_cons, List.length_nil, if_true, List.map_cons, List.map_nil, List.replicate, List.cons_append, List.nil_append]
    rw [key]
    exact tidy_pre rfl
  · obtain ⟨z, lx, e1⟩ := out_loop (tg := fun d ρ h => asn Δ gl (.nm 5) d ρ h) (bd := fun ρ h => exs Δ gl (L_law_due_0 i j) ρ h) (out := fun _ => .rt (.str "lost"))
      w h (fun z => [some (fr c), some (fr r), some (fr e0), some (.int n), some (.ref h.length), z]) htg (fun z => .inl ⟨_, rfl⟩)
      (fun acc e B z he hB hlost => by
        have l1 := fun h => hl c e 4 B h w.sc he (by omega)
        have a1 : atI (acc.map fr ++ [fr e]) (-1) = some (fr e) := atI_last
        simp [L_law_due_0, exs, ex, ev, evs, asBl, ixD, listAt, get_end, a1, l1, hlost]) hb2
      (upFrom 0 n) [] 16 e0 none he (by rw [lu]; exact key0) (by rw [lu]; simp; omega) (by rw [lu]; exact hE)
    simp only [List.nil_append, List.map_cons, List.map_nil] at e1
    have key : exs Δ gl (B_law_due i j) [some (fr c), some (fr r), some (fr e0), some (.int n), none, none] h = .ok (.rt (.str (dueS c r e0 n))) (h ++ [lx]) := by
      unfold B_law_due
      refine q0 _ _ ?_
      rw [exs, ex_for (evi_rng1 (k := n) (by simp [evs, ev]) e4) e1, dueS, if_neg hE]
      rfl
    simp only [run, F_law_due, List.length_cons, List.length_nil, if_true, List.map_cons, List.map_nil, List.replicate, List.cons_append, List.nil_append]
    rw [key]
    exact tidy_pre rfl
theorem told_ok {x : E} {ρ : En} {h : Hh} {c r e : Rat} {k : Nat} (w : Wd c r) (se : Sz 16 e) (sy : Sz 12 (c * e)) (pe : 0 ≤ e.num) (hk : k ≤ 6)
    (e1 : (errs c r k e).length = k + 1 → ev Δ gl x ρ h = .ok (.tup ((errs c r k e).map fr)) h) (e2 : (errs c r k e).length ≠ k + 1 → ∃ l, ev Δ gl x ρ h = .ex ⟨5, []⟩ (h ++ [l])) :
    ∃ t, ev Δ gl (.told (.rep 0 5 "lost" "odd") x) ρ h = .ok (.str (dueS c r e k)) (h ++ t) := by
  by_cases hE : (errs c r k e).length = k + 1
  · refine ⟨[], ?_⟩
    rw [ev, e1 hE, toldR, errs_repr _ w se sy pe hk, dueS, if_pos hE, List.append_nil]
  · obtain ⟨l, q⟩ := e2 hE
    refine ⟨[l], ?_⟩
    rw [ev, q, dueS, if_neg hE]
    rfl
theorem ev_same2 {a b : E} {ρ : En} {h h1 h2 : Hh} {s : Str} (q : ev Δ gl a ρ h = .ok (.str s) h1) (r : ev Δ gl b ρ h1 = .ok (.str s) h2) : ev Δ gl (.cmp .NotEq a b) ρ h = .ok (.bl false) h2 := by
  simp [ev, q, r, cmpD, eqD]
end
end HS

/-! Numbers of two parts; growths by Horner's way. -/
namespace HS
open PySem L2
structure Z2 where
  re : Rat
  im : Rat
def zadd (a b : Z2) : Z2 := ⟨a.re + b.re, a.im + b.im⟩
def zmul (a b : Z2) : Z2 := ⟨a.re * b.re - a.im * b.im, a.re * b.im + a.im * b.re⟩
def zsq (a : Z2) : Rat := a.re * a.re + a.im * a.im
def conj (a : Z2) : Z2 := ⟨a.re, -a.im⟩
def fz (a : Z2) : D := .tup [fr a.re, fr a.im]
def Zs (B : Nat) (a : Z2) : Prop := Sz B a.re ∧ Sz B a.im
theorem Zs.mono {B C : Nat} {a : Z2} (h : Zs B a) (l : B ≤ C) : Zs C a := ⟨h.1.mono l, h.2.mono l⟩
theorem fz_flat (a : Z2) : (fz a).flat = true := rfl
theorem flats_fz : ∀ l : List Z2, D.flats (l.map fz) = true
  | [] => rfl
  | a :: l => by
    show ((fz a).flat && D.flats (l.map fz)) = true
    rw [flats_fz l]; rfl
def S_zadd (f : Fn) : Prop := ∀ (a b : Z2) (B C : Nat) h, Zs B a → Zs C b → B + C ≤ 4000 → f [fz a, fz b] h = .ok (fz (zadd a b)) h
def S_zmul (f : Fn) : Prop := ∀ (a b : Z2) (B C : Nat) h, Zs B a → Zs C b → B + C ≤ 4000 → f [fz a, fz b] h = .ok (fz (zmul a b)) h
def S_zsq (f : Fn) : Prop := ∀ (a : Z2) (B : Nat) h, Zs B a → B ≤ 2000 → f [fz a] h = .ok (fr (zsq a)) h
def B_point_sum (f_ratio_sum : Nat) : Ss :=
  (.cons (.ret (.tup (.cons (.call f_ratio_sum (.cons (.idx (.var 0) (.int 0)) (.cons (.idx (.var 1) (.int 0)) .nil))) (.cons (.call f_ratio_sum (.cons (.idx (.var 0) (.int 1)) (.cons (.idx (.var 1) (.int 1)) .nil))) .nil)))) .nil)
def F_point_sum (f_ratio_sum : Nat) : Df := ⟨2, 2, B_point_sum f_ratio_sum⟩
def B_point_product (f_ratio_less f_ratio_product f_ratio_sum : Nat) : Ss :=
  (.cons (.asg (.nm 2) (.call f_ratio_less (.cons (.call f_ratio_product (.cons (.idx (.var 0) (.int 0)) (.cons (.idx (.var 1) (.int 0)) .nil))) (.cons (.call f_ratio_product (.cons (.idx (.var 0) (.int 1)) (.cons (.idx (.var 1) (.int 1)) .nil))) .nil)))) 
  (.cons (.ret (.tup (.cons (.var 2) (.cons (.call f_ratio_sum (.cons (.call f_ratio_product (.cons (.idx (.var 0) (.int 0)) (.cons (.idx (.var 1) (.int 1)) .nil))) (.cons (.call f_ratio_product (.cons (.idx (.var 0) (.int 1)) (.cons (.idx (.var 1) (.int 0)) .nil))) .nil))) .nil)))) .nil))
def F_point_product (f_ratio_less f_ratio_product f_ratio_sum : Nat) : Df := ⟨2, 3, B_point_product f_ratio_less f_ratio_product f_ratio_sum⟩
def B_square_of (f_ratio_sum f_ratio_product : Nat) : Ss :=
  (.cons (.ret (.call f_ratio_sum (.cons (.call f_ratio_product (.cons (.idx (.var 0) (.int 0)) (.cons (.idx (.var 0) (.int 0)) .nil))) (.cons (.call f_ratio_product (.cons (.idx (.var 0) (.int 1)) (.cons (.idx (.var 0) (.int 1)) .nil))) .nil)))) .nil)
def F_square_of (f_ratio_sum f_ratio_product : Nat) : Df := ⟨1, 1, B_square_of f_ratio_sum f_ratio_product⟩
theorem ix0 (a b : D) (h : Hh) : ixD (.tup [a, b]) (.int 0) h = .ok a h := by simp [ixD]
theorem ix1 (a b : D) (h : Hh) : ixD (.tup [a, b]) (.int 1) h = .ok b h := by simp [ixD]
section
variable {Δ : Nat → Fn} {gl : Nat → D}
theorem s_point_sum {i : Nat} (ha : S_op (· + ·) (Δ i)) : S_zadd (run Δ gl (F_point_sum i)) := by
  intro a b B C h sa sb hB
  have e1 := ha a.re b.re B C h sa.1 sb.1 (by omega)
  have e2 := ha a.im b.im B C h sa.2 sb.2 (by omega)
  simp [run, F_point_sum, B_point_sum, exs, ex, ev, evs, fz, ix0, ix1, e1, e2, lineOk, sizeLine]
  exact tidy_self rfl
theorem s_point_product {i j k : Nat} (hs : S_op (· - ·) (Δ i)) (hm : S_op (· * ·) (Δ j)) (ha : S_op (· + ·) (Δ k)) : S_zmul (run Δ gl (F_point_product i j k)) := by
  intro a b B C h sa sb hB
  have e1 := hm a.re b.re B C h sa.1 sb.1 (by omega)
  have e2 := hm a.im b.im B C h sa.2 sb.2 (by omega)
  have e3 := hs (a.re * b.re) (a.im * b.im) (B + C) (B + C) h (sa.1.mul sb.1) (sa.2.mul sb.2) (by omega)
  have e4 := hm a.re b.im B C h sa.1 sb.2 (by omega)
  have e5 := hm a.im b.re B C h sa.2 sb.1 (by omega)
  have e6 := ha (a.re * b.im) (a.im * b.re) (B + C) (B + C) h (sa.1.mul sb.2) (sa.2.mul sb.1) (by omega)
  simp [run, F_point_product, B_point_product, exs, ex, ev, evs, asn, R.calm, List.set, fz, ix0, ix1, e1, e2, e3, e4, e5, e6, lineOk, sizeLine]
  exact tidy_self rfl
theorem s_square_of {i j : Nat} (ha : S_op (· + ·) (Δ i)) (hm : S_op (· * ·) (Δ j)) : S_zsq (run Δ gl (F_square_of i j)) := by
  intro a B h sa hB
  have e1 := hm a.re a.re B B h sa.1 sa.1 (by omega)
  have e2 := hm a.im a.im B B h sa.2 sa.2 (by omega)
  have e3 := ha (a.re * a.re) (a.im * a.im) (B + B) (B + B) h (sa.1.mul sa.1) (sa.2.mul sa.2) (by omega)
  simp [run, F_square_of, B_square_of, exs, ex, ev, evs, fz, ix0, ix1, e1, e2, e3]
  exact tidy_self (fr_flat _)
end
/-! ### Horner -/
def stp2 (z a : Z2) (T : List Z2) : List Z2 := match T with
  | [] => [a]
  | r :: R => zadd a (zmul r z) :: r :: R
def sy (z : Z2) (L : List Z2) : List Z2 := L.foldr (stp2 z) []
def gr (z : Z2) : Nat → List Z2 → List Z2
  | 0, _ => []
  | n + 1, L => match sy z L with
    | [] => []
    | v :: Q => v :: gr z n Q
theorem sy_cons (z a : Z2) (Q : List Z2) : sy z (a :: Q) = stp2 z a (sy z Q) := rfl
theorem stp2_len (z a : Z2) (T : List Z2) : (stp2 z a T).length = T.length + 1 := by cases T <;> rfl
theorem sy_len (z : Z2) : ∀ L : List Z2, (sy z L).length = L.length
  | [] => rfl
  | a :: L => by rw [sy_cons, stp2_len, sy_len z L]; rfl
theorem sy_ne {z : Z2} {L : List Z2} (h : L ≠ []) : ∃ v Q, sy z L = v :: Q ∧ Q.length + 1 = L.length := by
  have l := sy_len z L
  cases e : sy z L with
  | nil =>
    rw [e] at l
    exact absurd (List.eq_nil_of_length_eq_zero l.symm) h
  | cons v Q =>
    rw [e] at l
    exact ⟨v, Q, rfl, by simpa using l⟩
theorem gr_len (z : Z2) : ∀ (n : Nat) (L : List Z2), L.length = n → (gr z n L).length = n
  | 0, _, _ => rfl
  | n + 1, L, h => by
    obtain ⟨v, Q, e, l⟩ := sy_ne (z := z) (L := L) (by intro z; subst z; simp at h)
    rw [gr, e]
    show (gr z n Q).length + 1 = n + 1
    rw [gr_len z n Q (by omega)]
theorem conj_stp (z a : Z2) (T : List Z2) : stp2 (conj z) (conj a) (T.map conj) = (stp2 z a T).map conj := by
  cases T with
  | nil => rfl
  | cons r R =>
    simp only [stp2, List.map_cons, zadd, zmul, conj]
    congr 2 <;> grind
theorem sy_conj (z : Z2) : ∀ L : List Z2, sy (conj z) (L.map conj) = (sy z L).map conj
  | [] => rfl
  | a :: L => by rw [List.map_cons, sy_cons, sy_conj z L, conj_stp, sy_cons]
theorem gr_conj (z : Z2) : ∀ (n : Nat) (L : List Z2), gr (conj z) n (L.map conj) = (gr z n L).map conj
  | 0, _ => rfl
  | n + 1, L => by
    simp only [gr, sy_conj]
    cases sy z L with
    | nil => rfl
    | cons v Q => simp only [List.map_cons, gr_conj z n Q]
theorem zsq_conj (a : Z2) : zsq (conj a) = zsq a := by
  unfold zsq conj
  grind
def lft (P : List Rat) : List Z2 := P.map fun q => ⟨q, 0⟩
theorem lft_conj (P : List Rat) : (lft P).map conj = lft P := by
  unfold lft
  rw [List.map_map]
  refine List.map_congr_left fun q _ => ?_
  show (⟨q, -0⟩ : Z2) = ⟨q, 0⟩
  rw [show (-0 : Rat) = 0 by grind]
theorem gr_conj_lft (z : Z2) (n : Nat) (P : List Rat) : (gr (conj z) n (lft P)).map zsq = (gr z n (lft P)).map zsq := by
  have e := gr_conj z n (lft P)
  rw [lft_conj] at e
  rw [e, List.map_map]
  exact List.map_congr_left fun a _ => zsq_conj a
theorem sq_nn (a : Rat) : 0 ≤ a * a := by
  rcases Rat.le_total (a := 0) (b := a) with h | h
  · exact Rat.mul_nonneg h h
  · have := Rat.mul_nonneg (a := -a) (b := -a) (by grind) (by grind)
    grind
theorem zsq_zero {a : Z2} : zsq a = 0 ↔ a = ⟨0, 0⟩ := by
  constructor
  · intro h
    unfold zsq at h
    have h1 := sq_nn a.re
    have h2 := sq_nn a.im
    have e1 : a.re * a.re = 0 := by grind
    have e2 : a.im * a.im = 0 := by grind
    have f1 : a.re = 0 := by rcases Rat.mul_eq_zero.mp e1 with z | z <;> exact z
    have f2 : a.im = 0 := by rcases Rat.mul_eq_zero.mp e2 with z | z <;> exact z
    cases a
    simp only at f1 f2
    rw [f1, f2]
  · intro h
    rw [h]
    unfold zsq
    grind
/-! ### sizes -/
def Gq (e M : Nat) (q : Rat) : Prop := ∃ p : Int, p.natAbs ≤ M ∧ q = (p : Rat) / ic (6 ^ e)
theorem ic_pow_ne (e : Nat) : ic (6 ^ e) ≠ 0 := ic_ne (Nat.pow_pos (by decide))
theorem Gq.add {e M N : Nat} {p q : Rat} (h : Gq e M p) (g : Gq e N q) : Gq e (M + N) (p + q) := by
  obtain ⟨a, ha, rfl⟩ := h
  obtain ⟨b, hb, rfl⟩ := g
  refine ⟨a + b, by omega, ?_⟩
  rw [Rat.intCast_add]
  generalize ic (6 ^ e) = x
  rw [Rat.div_def, Rat.div_def, Rat.div_def]
  grind
theorem Gq.sub {e M N : Nat} {p q : Rat} (h : Gq e M p) (g : Gq e N q) : Gq e (M + N) (p - q) := by
  obtain ⟨a, ha, rfl⟩ := h
  obtain ⟨b, hb, rfl⟩ := g
  refine ⟨a - b, by omega, ?_⟩
  rw [Rat.intCast_sub]
  generalize ic (6 ^ e) = x
  rw [Rat.div_def, Rat.div_def, Rat.div_def]
  grind
theorem Gq.mul {e f M N : Nat} {p q : Rat} (h : Gq e M p) (g : Gq f N q) : Gq (e + f) (M * N) (p * q) := by
  obtain ⟨a, ha, rfl⟩ := h
  obtain ⟨b, hb, rfl⟩ := g
  refine ⟨a * b, by rw [Int.natAbs_mul]; exact Nat.mul_le_mul ha hb, ?_⟩
  have n1 := ic_pow_ne e
  have n2 := ic_pow_ne f
  rw [Nat.pow_add, ic_mul, Rat.intCast_mul]
  generalize ic (6 ^ e) = x at *
  generalize ic (6 ^ f) = y at *
  have n3 := mne n1 n2
  grind
theorem Gq.mono {e M N : Nat} {q : Rat} (h : Gq e M q) (l : M ≤ N) : Gq e N q := by
  obtain ⟨a, ha, e1⟩ := h
  exact ⟨a, by omega, e1⟩
theorem Gq.sz {e M B : Nat} {q : Rat} (h : Gq e M q) (hM : M < 2 ^ B) (he : 6 ^ e < 2 ^ B) : Sz B q := by
  obtain ⟨a, ha, rfl⟩ := h
  have p : 0 < 6 ^ e := Nat.pow_pos (by decide)
  have s := sz_divInt (a := a) (b := ((6 ^ e : Nat) : Int)) (B := B) (by omega) (by unfold Bt; omega) (by unfold Bt; omega)
  rw [Rat.divInt_eq_div] at s
  exact s
def Gz (e M : Nat) (a : Z2) : Prop := Gq e M a.re ∧ Gq e M a.im
/-- the parts of a polynomial, how large they are as Horner's way goes on -/
def BD (C : Nat) : List Z2 → Prop
  | [] => True
  | a :: Q => Gz (1 + Q.length) (72 * C ^ Q.length) a ∧ BD C Q
theorem pow_grow (C m : Nat) : 72 * C ^ (m + 1) + 2 * (72 * (C + 144) ^ m * 72) ≤ 72 * (C + 144) ^ (m + 1) := by
  have a : C ^ m ≤ (C + 144) ^ m := Nat.pow_le_pow_left (by omega) m
  rw [Nat.pow_succ, Nat.pow_succ]
  generalize C ^ m = x at *
  generalize (C + 144) ^ m = y at *
  have b : x * C ≤ y * C := Nat.mul_le_mul_right _ a
  have c : y * (C + 144) = y * C + 144 * y := by rw [Nat.mul_add]; omega
  rw [c]
  omega
theorem BD.mono {C E : Nat} (l : C ≤ E) : ∀ {L : List Z2}, BD C L → BD E L
  | [], _ => trivial
  | a :: Q, h => by
    have p : 72 * C ^ Q.length ≤ 72 * E ^ Q.length := Nat.mul_le_mul_left _ (Nat.pow_le_pow_left l _)
    exact ⟨⟨h.1.1.mono p, h.1.2.mono p⟩, BD.mono l h.2⟩
theorem Gq.lift {e f M N : Nat} {q : Rat} (h : Gq e M q) (a : f = e) (b : M ≤ N) : Gq f N q := by subst a; exact h.mono b
theorem sy_BD {C : Nat} {z : Z2} (hz : Gz 1 72 z) : ∀ {L : List Z2}, BD C L → BD (C + 144) (sy z L)
  | [], _ => trivial
  | a :: Q, h => by
    have ih := sy_BD hz h.2
    have l := sy_len z Q
    rw [sy_cons]
    cases e : sy z Q with
    | nil =>
      rw [e] at l
      have : Q = [] := List.eq_nil_of_length_eq_zero l.symm
      subst this
      exact ⟨⟨h.1.1.lift rfl (by simp), h.1.2.lift rfl (by simp)⟩, trivial⟩
    | cons r R =>
      rw [e] at ih l
      obtain ⟨⟨i1, i2⟩, i3⟩ := ih
      have lq : Q.length = R.length + 1 := by simpa using l.symm
      obtain ⟨⟨a1, a2⟩, _⟩ := h
      rw [lq] at a1 a2
      have g := pow_grow C R.length
      refine ⟨⟨?_, ?_⟩, ⟨i1, i2⟩, i3⟩
      · have m := (i1.mul hz.1).sub (i2.mul hz.2)
        have m2 : Gq (1 + (R.length + 1)) _ _ := m.lift (by omega) (Nat.le_refl _)
        refine (a1.add m2).lift rfl ?_
        show _ ≤ 72 * (C + 144) ^ (R.length + 1)
        omega
      · have m := (i1.mul hz.2).add (i2.mul hz.1)
        have m2 : Gq (1 + (R.length + 1)) _ _ := m.lift (by omega) (Nat.le_refl _)
        refine (a2.add m2).lift rfl ?_
        show _ ≤ 72 * (C + 144) ^ (R.length + 1)
        omega
theorem BD.tail {C : Nat} : ∀ {L R : List Z2}, BD C (L ++ R) → BD C R
  | [], _, h => h
  | _ :: L, R, h => BD.tail (L := L) h.2
theorem Gz.zs {m C : Nat} {a : Z2} (h : Gz (1 + m) (72 * C ^ m) a) (hm : m ≤ 8) (hC : C ≤ 2048) : Zs 96 a := by
  have p : C ^ m ≤ 2048 ^ 8 := Nat.le_trans (Nat.pow_le_pow_left hC m) (Nat.pow_le_pow_right (by decide) hm)
  have q : 6 ^ (1 + m) ≤ 6 ^ 9 := Nat.pow_le_pow_right (by decide) (by omega)
  have e1 : 72 * 2048 ^ 8 < 2 ^ 96 := by decide
  have e2 : 6 ^ 9 < 2 ^ 96 := by decide
  exact ⟨h.1.sz (by omega) (by omega), h.2.sz (by omega) (by omega)⟩
theorem BD.zs {C : Nat} (hC : C ≤ 2048) : ∀ {L : List Z2}, BD C L → L.length ≤ 9 → ∀ a ∈ L, Zs 96 a
  | a :: Q, h, hl, b, hb => by
    rw [List.length_cons] at hl
    rcases List.mem_cons.mp hb with rfl | hb
    · exact h.1.zs (by omega) hC
    · exact BD.zs hC h.2 (by omega) b hb
theorem gr_zs {z : Z2} (hz : Gz 1 72 z) : ∀ (n C : Nat) (L : List Z2), BD C L → L.length = n → n ≤ 9 → C + 144 * n ≤ 2048 → ∀ a ∈ gr z n L, Zs 96 a
  | 0, _, _, _, _, _, _, a, ha => by simp [gr] at ha
  | n + 1, C, L, h, hl, hn, hC, a, ha => by
    have b := sy_BD hz h
    have ln := sy_len z L
    rw [gr] at ha
    cases e : sy z L with
    | nil => rw [e] at ha; simp at ha
    | cons v Q =>
      rw [e] at ha b ln
      rw [List.length_cons] at ln
      rcases List.mem_cons.mp ha with rfl | ha
      · exact b.1.zs (by omega) (by omega)
      · exact gr_zs hz n (C + 144) Q b.2 (by omega) (by omega) (by omega) a ha
def Pt (q : Rat) : Prop := Gq 1 72 q
theorem lft_BD : ∀ {P : List Rat}, (∀ q ∈ P, Pt q) → BD 6 (lft P)
  | [], _ => trivial
  | q :: P, h => by
    have ih := lft_BD (P := P) fun x hx => h x (List.mem_cons_of_mem _ hx)
    have e : (lft P).length = P.length := List.length_map _
    obtain ⟨p, hp, eq⟩ := h q (by simp)
    refine ⟨⟨?_, ?_⟩, ih⟩
    · show Gq (1 + (lft P).length) (72 * 6 ^ (lft P).length) q
      rw [e]
      refine ⟨p * ((6 ^ P.length : Nat) : Int), by rw [Int.natAbs_mul, Int.natAbs_natCast]; exact Nat.mul_le_mul_right _ hp, ?_⟩
      rw [eq, Nat.pow_add, ic_mul, Rat.intCast_mul]
      have n1 := ic_pow_ne 1
      have n2 := ic_pow_ne P.length
      show _ = (p : Rat) * ic (6 ^ P.length) / _
      generalize ic (6 ^ 1) = x at *
      generalize ic (6 ^ P.length) = y at *
      have n3 := mne n1 n2
      grind
    · exact ⟨0, by simp, by show (0 : Rat) = (0 : Rat) / _; rw [Rat.div_def, Rat.zero_mul]⟩
end HS

/-! The program's growths at a point. -/
namespace HS
open PySem L2
theorem downFrom_cons (hi : Int) (n : Nat) : downFrom hi (n + 1) = .int hi :: downFrom (hi - 1) n := by
  unfold downFrom
  rw [List.range_succ_eq_map, List.map_cons, List.map_map]
  congr 1
  · simp
  · refine List.map_congr_left fun k _ => ?_
    show D.int _ = D.int _
    congr 1
    rw [Nat.succ_eq_add_one]
    omega
theorem set_mid {α : Type} (a b : α) (T : List α) : ∀ L : List α, (L ++ a :: T).set L.length b = L ++ b :: T
  | [] => rfl
  | x :: L => by
    show x :: (L ++ a :: T).set L.length b = _
    rw [set_mid a b T L]; rfl
theorem get_mid {α : Type} (a : α) (T : List α) (L : List α) : (L ++ a :: T)[L.length]? = some a := by simp
theorem get_mid1 {α : Type} (a b : α) (T : List α) (L : List α) : (L ++ a :: b :: T)[L.length + 1]? = some b := by
  rw [List.getElem?_append_right (by omega)]
  simp
theorem tidy_ref {h t : Hh} {n : Nat} {xs : List D} (e : (h ++ t)[n]? = some (.lst xs)) (f : D.flats xs = true) (l : h.length ≤ n) : tidy h (.ref n) (h ++ t) = .ok (.ref h.length) (h ++ [.lst xs]) := by
  unfold tidy
  rw [if_neg (by simp [D.flat])]
  simp only [e]
  rw [if_pos ⟨f, List.prefix_append _ _, l⟩]
theorem lc_map {gs : Gs} {el : D → Hh → R (Option D)} {h : Hh} (hg : gsOk gs h) (g : D → D) : ∀ (ds acc : List D), (∀ d ∈ ds, el d h = .ok (some (g d)) h) → acc.length + ds.length < sizeLine → lcL gs el ds acc h = alloc (.lst (acc ++ ds.map g)) h
  | [], acc, _, hl => by
    simp at hl
    simp [lcL, hg, Nat.le_of_lt hl]
  | d :: ds, acc, hel, hl => by
    simp at hl
    unfold lcL
    rw [if_pos ⟨hg, by omega⟩, hel d (by simp)]
    simp only [R.bind_ok]
    rw [lc_map hg g ds (acc ++ [g d]) (fun x hx => hel x (List.mem_cons_of_mem _ hx)) (by simp; omega)]
    simp
def L_growths_at_0 (f_point_sum f_point_product : Nat) : Ss :=
      (.cons (.asg (.sub (.var 2) (.var 5)) (.call f_point_sum (.cons (.idx (.var 2) (.var 5)) (.cons (.call f_point_product (.cons (.idx (.var 2) (.bin .add (.var 5) (.int 1))) (.cons (.var 1) .nil))) .nil)))) .nil)
def L_growths_at_1 (f_point_sum f_point_product : Nat) : Ss :=
    (.cons (.fr (.nm 5) (.rng (.cons (.bin .sub (.blt .len (.cons (.var 2) .nil)) (.int 2)) (.cons (.bin .sub (.var 4) (.int 1)) (.cons (.neg (.int 1)) .nil)))) (L_growths_at_0 f_point_sum f_point_product)) .nil)
def B_growths_at (g_ZERO g_NOUGHT f_point_sum f_point_product : Nat) : Ss :=
  (.cons (.asg (.nm 2) (.bin .add (.lc (.tup (.cons (.var 3) (.cons (.glb g_ZERO) .nil))) (.nm 3) (.pln (.var 0)) .no [3]) (.bin .mul (.lst (.cons (.glb g_NOUGHT) .nil)) (.blt .max (.cons (.int 0) (.cons (.bin .sub (.int 2) (.blt .len (.cons (.var 0) .nil))) .nil)))))) 
  (.cons (.fr (.nm 4) (.rng (.cons (.blt .len (.cons (.var 2) .nil)) .nil)) (L_growths_at_1 f_point_sum f_point_product)) 
  (.cons (.ret (.var 2)) .nil)))
def F_growths_at (g_ZERO g_NOUGHT f_point_sum f_point_product : Nat) : Df := ⟨2, 6, B_growths_at g_ZERO g_NOUGHT f_point_sum f_point_product⟩
/-- parts and a point as the law draws them -/
structure Pz (P : List Rat) (z : Z2) : Prop where
  p : ∀ q ∈ P, Pt q
  lo : 2 ≤ P.length
  hi : P.length ≤ 9
  z : Gz 1 72 z
theorem Pz.zs {P : List Rat} {z : Z2} (h : Pz P z) : Zs 7 z := ⟨h.z.1.sz (by decide) (by decide), h.z.2.sz (by decide) (by decide)⟩
def S_growths (f : Fn) : Prop := ∀ (P : List Rat) (z : Z2) h, Pz P z → f [.tup (P.map fr), fz z] h = .ok (.ref h.length) (h ++ [.lst ((gr z P.length (lft P)).map fz)])
theorem gr_inner {tg : D → En → Hh → R En} {bd : En → Hh → R F} {St : Option D → En} {H : List Z2 → Hh} {z : Z2} {C : Nat} (htg : ∀ d z5 h, tg d (St z5) h = .ok (St (some d)) h)
    (hb : ∀ (L : List Z2) (a : Z2) (R : List Z2), BD C (a :: R) → R ≠ [] → (L ++ a :: R).length ≤ 9 → bd (St (some (.int (L.length : Nat)))) (H (L ++ a :: sy z R)) = .ok (.nx (St (some (.int (L.length : Nat))))) (H (L ++ sy z (a :: R)))) :
    ∀ (n : Nat) (A done R : List Z2) (z5 : Option D), A.length = n → R ≠ [] → BD C (A ++ R) → (done ++ A ++ R).length ≤ 9 →
      ∃ z5', forL [] tg bd (downFrom (((done.length + n : Nat) : Int) - 1) n) (St z5) (H (done ++ A ++ sy z R)) = .ok (.nx (St z5')) (H (done ++ sy z (A ++ R)))
  | 0, A, done, R, z5, hA, hR, hBD, hl => by
    have : A = [] := List.eq_nil_of_length_eq_zero hA
    subst this
    exact ⟨z5, by simp [downFrom, forL, gsOk_nil]⟩
  | n + 1, A, done, R, z5, hA, hR, hBD, hl => by
    obtain ⟨A', a, rfl⟩ : ∃ A' a, A = A' ++ [a] := ⟨A.dropLast, A.getLast (by intro z; subst z; simp at hA), (List.dropLast_concat_getLast _).symm⟩
    have hA' : A'.length = n := by simpa using hA
    have b1 : BD C (a :: R) := BD.tail (L := A') (by simpa using hBD)
    have e1 := hb (done ++ A') a R b1 hR (by simp at hl ⊢; omega)
    obtain ⟨z5', e2⟩ := gr_inner htg hb n A' done (a :: R) (some (.int ((done ++ A').length : Nat))) hA' (by simp) (by simpa using hBD) (by simp at hl ⊢; omega)
    refine ⟨z5', ?_⟩
    have e3 : (((done.length + (n + 1) : Nat) : Int) - 1) = ((done ++ A').length : Nat) := by rw [List.length_append, hA']; omega
    rw [e3, downFrom_cons]
    unfold forL
    rw [if_pos (gsOk_nil _), htg]
    have e4 : done ++ (A' ++ [a]) ++ sy z R = done ++ A' ++ a :: sy z R := by simp
    rw [e4]
    simp only [HS.R.calm_ok, HS.R.bind_ok, e1]
    have e5 : (((done ++ A').length : Nat) : Int) - 1 = ((done.length + n : Nat) : Int) - 1 := by rw [List.length_append, hA']
    have e6 : A' ++ [a] ++ R = A' ++ a :: R := by simp
    rw [e5, e6]
    exact e2
theorem gr_outer {tg : D → En → Hh → R En} {bd : En → Hh → R F} {St : Option D → Option D → En} {H : List Z2 → Hh} {z : Z2} (hz : Gz 1 72 z) (htg : ∀ d z4 z5 h, tg d (St z4 z5) h = .ok (St (some d) z5) h)
    (hb : ∀ (done rest : List Z2) (C : Nat) (z5 : Option D), rest ≠ [] → BD C rest → C ≤ 1904 → (done ++ rest).length ≤ 9 → ∃ z5', bd (St (some (.int (done.length : Nat))) z5) (H (done ++ rest)) = .ok (.nx (St (some (.int (done.length : Nat))) z5')) (H (done ++ sy z rest))) :
    ∀ (k C : Nat) (rest done : List Z2) (z4 z5 : Option D), rest.length = k → BD C rest → (done ++ rest).length ≤ 9 → C + 144 * k ≤ 2048 →
      ∃ z4' z5', forL [] tg bd (upFrom ((done.length : Nat) : Int) k) (St z4 z5) (H (done ++ rest)) = .ok (.nx (St z4' z5')) (H (done ++ gr z k rest))
  | 0, C, rest, done, z4, z5, hr, hBD, hl, hC => by
    have : rest = [] := List.eq_nil_of_length_eq_zero hr
    subst this
    exact ⟨z4, z5, by simp [upFrom, forL, gsOk_nil, gr]⟩
  | k + 1, C, rest, done, z4, z5, hr, hBD, hl, hC => by
    have hne : rest ≠ [] := by intro z; subst z; simp at hr
    obtain ⟨z5', e1⟩ := hb done rest C z5 hne hBD (by omega) hl
    obtain ⟨v, Q, e2, lq⟩ := sy_ne (z := z) hne
    have b := sy_BD hz hBD
    rw [e2] at b
    obtain ⟨y4, y5, e3⟩ := gr_outer hz htg hb k (C + 144) Q (done ++ [v]) (some (.int (done.length : Nat))) z5' (by omega) b.2 (by simp at hl ⊢; omega) (by omega)
    refine ⟨y4, y5, ?_⟩
    rw [upFrom_cons]
    unfold forL
    rw [if_pos (gsOk_nil _), htg]
    simp only [HS.R.calm_ok, HS.R.bind_ok, e1]
    have e4 : (done.length + 1 : Nat) = (done ++ [v]).length := by simp
    have e5 : gr z (k + 1) rest = v :: gr z k Q := by rw [gr, e2]
    rw [e2, e4, e5]
    have e6 : done ++ v :: Q = done ++ [v] ++ Q := by simp
    have e7 : done ++ v :: gr z k Q = done ++ [v] ++ gr z k Q := by simp
    rw [e6, e7]
    exact e3
section
variable {Δ : Nat → Fn} {gl : Nat → D}
set_option maxHeartbeats 2000000 in
theorem s_growths_at {i j k l : Nat} (g0 : gl i = fr 0) (gn : gl j = fz ⟨0, 0⟩) (ha : S_zadd (Δ k)) (hm : S_zmul (Δ l)) : S_growths (run Δ gl (F_growths_at i j k l)) := by
  intro P z h pz
  obtain ⟨hp, lo, hi, hz⟩ := pz
  have zs : Zs 7 z := ⟨hz.1.sz (by decide) (by decide), hz.2.sz (by decide) (by decide)⟩
  let g : Hh := h ++ [.lst ((lft P).map fz), .lst [fz ⟨0, 0⟩], .lst []]
  let H : List Z2 → Hh := fun xs => g ++ [.lst (xs.map fz)]
  let St : Option D → Option D → En := fun z4 z5 => [some (.tup (P.map fr)), some (fz z), some (.ref g.length), none, z4, z5]
  have sl : 1000 < sizeLine := by decide
  have inner : ∀ (C : Nat) (z4 : Option D) (L : List Z2) (a : Z2) (R : List Z2), C ≤ 1904 → BD C (a :: R) → R ≠ [] → (L ++ a :: R).length ≤ 9 →
      exs Δ gl (L_growths_at_0 k l) (St z4 (some (.int (L.length : Nat)))) (H (L ++ a :: sy z R)) = .ok (.nx (St z4 (some (.int (L.length : Nat))))) (H (L ++ sy z (a :: R))) := by
    intro C z4 L a R hC hBD hR hl
    obtain ⟨r, R', e1, lr⟩ := sy_ne (z := z) hR
    have b := sy_BD hz hBD.2
    rw [e1] at b
    have sa : Zs 96 a := hBD.1.zs (by simp at hl; omega) (by omega)
    have sr : Zs 96 r := b.1.zs (by simp at hl; omega) (by omega)
    have q1 := fun h => hm r z 96 7 h sr zs (by decide)
    have sm : Zs 207 (zmul r z) := ⟨((sr.1.mul zs.1).sub (sr.2.mul zs.2)).mono (by decide), ((sr.1.mul zs.2).add (sr.2.mul zs.1)).mono (by decide)⟩
    have q2 := fun h => ha a (zmul r z) 96 207 h sa sm (by decide)
    have ll : L.length < (L ++ a :: sy z R).length := by simp
    have a1 : atI ((L ++ a :: r :: R').map fz) (L.length : Nat) = some (fz a) := by
      rw [atI_nat (by simp), List.getElem?_map, get_mid]; rfl
    have a2 : atI ((L ++ a :: r :: R').map fz) ((L.length : Int) + 1) = some (fz r) := by
      have : (L.length : Int) + 1 = ((L.length + 1 : Nat) : Int) := by omega
      rw [this, atI_nat (by simp), List.getElem?_map, get_mid1]; rfl
    have a3 : ixN ((L ++ a :: r :: R').map fz).length (L.length : Nat) = some L.length := by
      unfold ixN
      simp
      omega
    have a4 : ((L ++ a :: r :: R').map fz).set L.length (fz (zadd a (zmul r z))) = (L ++ zadd a (zmul r z) :: r :: R').map fz := by
      rw [← List.map_set, set_mid]
    have a5 : sy z (a :: R) = zadd a (zmul r z) :: r :: R' := by rw [sy_cons, e1]; rfl
    rw [e1, a5]
    have gx : ∀ xs : List D, (g ++ [HS.C.lst xs])[g.length]? = some (.lst xs) := fun xs => get_end
    have ix : ∀ (i : Int) (d : D), atI ((L ++ a :: r :: R').map fz) i = some d → ixD (.ref g.length) (.int i) (H (L ++ a :: r :: R')) = .ok d (H (L ++ a :: r :: R')) := fun i d e => by
      simp only [ixD, listAt, H, gx, e]
    have st : setI (.ref g.length) (.int (L.length : Nat)) (fz (zadd a (zmul r z))) (H (L ++ a :: r :: R')) = .ok () (H (L ++ zadd a (zmul r z) :: r :: R')) := by
      simp only [setI, H, gx, a3, a4, set_end]
    unfold L_growths_at_0
    refine (exs_nx (ρ1 := St z4 (some (.int (L.length : Nat)))) (h1 := H (L ++ zadd a (zmul r z) :: r :: R')) ?_).trans ?_
    · simp only [ex, ev, evs, asn, St, List.getElem?_cons_zero, List.getElem?_cons_succ, HS.R.bind_ok, bop, ix _ _ a1, ix _ _ a2, q1, q2, HS.R.toF, HS.R.calm, st]
    · rw [exs]
  have outer : ∀ (done rest : List Z2) (C : Nat) (z5 : Option D), rest ≠ [] → BD C rest → C ≤ 1904 → (done ++ rest).length ≤ 9 → ∃ z5', exs Δ gl (L_growths_at_1 k l) (St (some (.int (done.length : Nat))) z5) (H (done ++ rest)) = .ok (.nx (St (some (.int (done.length : Nat))) z5')) (H (done ++ sy z rest)) := by
    intro done rest C z5 hne hBD hC hl
    obtain ⟨A, a, rfl⟩ : ∃ A a, rest = A ++ [a] := ⟨rest.dropLast, rest.getLast hne, (List.dropLast_concat_getLast _).symm⟩
    obtain ⟨z5', e1⟩ := gr_inner (tg := fun d ρ h => asn Δ gl (.nm 5) d ρ h) (bd := fun ρ h => exs Δ gl (L_growths_at_0 k l) ρ h) (St := St (some (.int (done.length : Nat)))) (H := H) (z := z) (C := C) (fun d z5 h => by simp [asn, St, List.set])
      (fun L a R b1 b2 b3 => inner C _ L a R hC b1 b2 b3) A.length A done [a] z5 rfl (by simp) hBD (by simp at hl ⊢; omega)
    refine ⟨z5', ?_⟩
    unfold L_growths_at_1
    have gx : ∀ xs : List D, (g ++ [HS.C.lst xs])[g.length]? = some (.lst xs) := fun xs => get_end
    refine (exs_nx (ex_for (p := downFrom (((done.length + A.length : Nat) : Int) - 1) A.length) (gs := []) (h1 := H (done ++ (A ++ [a]))) ?_ (r := .ok (.nx (St (some (.int (done.length : Nat))) z5')) (H (done ++ sy z (A ++ [a])))) ?_)).trans ?_
    · have n1 : (((done ++ (A ++ [a])).map fz).length : Int) - 2 = ((done.length + A.length : Nat) : Int) - 1 := by simp; omega
      have n2 : ((((done.length + A.length : Nat) : Int) - 1) - (((done.length : Nat) : Int) - 1)).toNat = A.length := by omega
      have s1 : small62 (((done.length + A.length : Nat) : Int) - 1) = true := by unfold small62; simp at hl; rw [decide_eq_true_iff]; omega
      have s2 : small62 (((done.length : Nat) : Int) - 1) = true := by unfold small62; simp at hl; rw [decide_eq_true_iff]; omega
      simp only [evi, evs, ev, St, H, List.getElem?_cons_zero, List.getElem?_cons_succ, R.bind_ok, bltD, listAt, gx, bop, n1, rngD, s1, s2, n2, Bool.and_self, if_true]
    · have e2 : sy z [a] = [a] := rfl
      rw [e2] at e1
      have e3 : done ++ A ++ [a] = done ++ (A ++ [a]) := by simp
      rw [e3] at e1
      exact e1
    · rw [exs]
  have ln : (lft P).length = P.length := List.length_map _
  obtain ⟨z4', z5', e1⟩ := gr_outer (tg := fun d ρ h => asn Δ gl (.nm 4) d ρ h) (bd := fun ρ h => exs Δ gl (L_growths_at_1 k l) ρ h) (St := St) (H := H) (z := z) hz (fun d z4 z5 h => by simp [asn, St, List.set]) outer P.length 6 (lft P) [] none none ln (lft_BD hp) (by simp [ln]; omega) (by omega)
  have key : exs Δ gl (B_growths_at i j k l) [some (.tup (P.map fr)), some (fz z), none, none, none, none] h = .ok (.rt (.ref g.length)) (H (gr z P.length (lft P))) := by
    unfold B_growths_at
    refine (exs_nx (ex_asg (d := .ref g.length) (h1 := H (lft P)) ?_)).trans ?_
    · have mp : (P.map fr).map (fun d => D.tup [d, fr 0]) = (lft P).map fz := by
        unfold lft
        rw [List.map_map, List.map_map]; rfl
      have lm := lc_map (gs := []) (el := fun d h => ((asn Δ gl (.nm 3) d (wipeD [some (.tup (P.map fr)), some (fz z), none, none, none, none] [3]) h).bind fun ρ1 h => (evt Δ gl .no ρ1 h).bind fun b h => if b = true then (ev Δ gl (.tup (.cons (.var 3) (.cons (.glb i) .nil))) ρ1 h).bind fun y h => .ok (some y) h else .ok none h).calm) (h := h) (gsOk_nil h) (fun d => D.tup [d, fr 0]) (P.map fr) [] (fun d hd => by
          simp [asn, wipeD, List.set, evt, ev, evs, g0, lineOk, sizeLine, R.calm]) (by simp; omega)
      rw [mp, List.nil_append] at lm
      have m0 : (if (2 : Int) - ((P.map fr).length : Nat) > 0 then (2 : Int) - ((P.map fr).length : Nat) else 0) = 0 := by
        rw [if_neg]
        simp
        omega
      have q1 : (h ++ [C.lst ((lft P).map fz), C.lst [fz ⟨0, 0⟩]])[h.length + 1]? = some (.lst [fz ⟨0, 0⟩]) := by simp
      have q2 : (h ++ [C.lst ((lft P).map fz), C.lst [fz ⟨0, 0⟩], C.lst []])[h.length]? = some (.lst ((lft P).map fz)) := by simp
      have q3 : (h ++ [C.lst ((lft P).map fz), C.lst [fz ⟨0, 0⟩], C.lst []])[h.length + 2]? = some (.lst []) := by simp
      have lo1 : lineOk ((lft P).map fz).length = true := by simp [lineOk, sizeLine, ln]; omega
      have eA : ev Δ gl (.lc (.tup (.cons (.var 3) (.cons (.glb i) .nil))) (.nm 3) (.pln (.var 0)) .no [3]) [some (.tup (P.map fr)), some (fz z), none, none, none, none] h = .ok (.ref h.length) (h ++ [.lst ((lft P).map fz)]) := by
        rw [ev, evi, ev]
        simp only [List.getElem?_cons_zero, R.bind_ok, itemsD]
        exact lm
      have eB : ev Δ gl (.lst (.cons (.glb j) .nil)) [some (.tup (P.map fr)), some (fz z), none, none, none, none] (h ++ [.lst ((lft P).map fz)]) = .ok (.ref (h.length + 1)) (h ++ [.lst ((lft P).map fz), .lst [fz ⟨0, 0⟩]]) := by
        simp [ev, evs, gn, alloc, lineOk, sizeLine]
      have eC : ev Δ gl (.blt .max (.cons (.int 0) (.cons (.bin .sub (.int 2) (.blt .len (.cons (.var 0) .nil))) .nil))) [some (.tup (P.map fr)), some (fz z), none, none, none, none] (h ++ [.lst ((lft P).map fz), .lst [fz ⟨0, 0⟩]]) = .ok (.int 0) (h ++ [.lst ((lft P).map fz), .lst [fz ⟨0, 0⟩]]) := by
        simp only [ev, evs, R.bind_ok, List.getElem?_cons_zero, bltD, bop, m0]
      have eD : bop .mul (.ref (h.length + 1)) (.int 0) (h ++ [.lst ((lft P).map fz), .lst [fz ⟨0, 0⟩]]) = .ok (.ref (h.length + 2)) (h ++ [.lst ((lft P).map fz), .lst [fz ⟨0, 0⟩], .lst []]) := by
        simp [bop, alloc, lineOk]
      have eE : bop .add (.ref h.length) (.ref (h.length + 2)) (h ++ [.lst ((lft P).map fz), .lst [fz ⟨0, 0⟩], .lst []]) = .ok (.ref g.length) (H (lft P)) := by
        have lo2 : lineOk (((lft P).map fz).length + ([] : List D).length) = true := lo1
        simp only [bop, q2, q3, lo2, if_true, alloc, List.append_nil]
        rfl
      rw [ev, eA, R.bind_ok, ev, eB, R.bind_ok, eC, R.bind_ok, eD, R.bind_ok, eE]
    refine (exs_nx (ex_for (p := upFrom 0 P.length) (gs := []) (h1 := H (lft P)) ?_ e1)).trans ?_
    · have sm : small62 ((P.length : Nat) : Int) = true := small_nat (by omega)
      have gx : ∀ xs : List D, (g ++ [HS.C.lst xs])[g.length]? = some (.lst xs) := fun xs => get_end
      have l3 : (((lft P).map fz).length : Int) = ((P.length : Nat) : Int) := by rw [List.length_map, ln]
      refine evi_rng1 (k := P.length) ?_ sm
      simp only [evs, ev, St, List.set, List.getElem?_cons_zero, List.getElem?_cons_succ, R.bind_ok, bltD, listAt, H, gx, l3]
    · refine exs_rt ?_
      simp only [ev, St, List.getElem?_cons_zero, List.getElem?_cons_succ, List.nil_append]
  have e9 : H (gr z P.length (lft P)) = h ++ [.lst ((lft P).map fz), .lst [fz ⟨0, 0⟩], .lst [], .lst ((gr z P.length (lft P)).map fz)] := by simp [H, g]
  simp only [run, F_growths_at, List.length_cons, List.length_nil, if_true, List.map_cons, List.map_nil, List.replicate, List.cons_append, List.nil_append]
  rw [key, e9]
  exact tidy_ref (by simp [g]) (flats_fz _) (by simp [g])
end
end HS

/-! The law's growths at a point. -/
namespace HS
open PySem L2
def pz (a : Z2) : PyData := .tuple [.tuple [.int a.re.num, .int a.re.den], .tuple [.int a.im.num, .int a.im.den]]
theorem deep_fz (rd : Nat → Option PyData) (a : Z2) : (fz a).deepW rd = some (pz a) := by simp [fz, fr, pz, D.deepW, D.deepsW]
theorem deeps_fz (rd : Nat → Option PyData) : ∀ l : List Z2, D.deepsW rd (l.map fz) = some (l.map pz)
  | [] => by simp [D.deepsW]
  | a :: l => by simp [D.deepsW, deep_fz, deeps_fz rd l]
theorem canLay_pz : ∀ l : List Z2, PyData.canLayAll0 (l.map pz) = true
  | [] => by simp [PyData.canLayAll0]
  | a :: l => by simp [PyData.canLayAll0, canLay_pz l, pz, PyData.canLay0]
theorem depth_pz : ∀ l : List Z2, PyData.depthAll (l.map pz) ≤ 2
  | [] => by simp [PyData.depthAll]
  | a :: l => by
    have := depth_pz l
    simp [PyData.depthAll, pz, PyData.depth]
    omega
theorem shaped_pzs (l : List Z2) : SeqAt.shaped (.list (l.map pz)) = true := by
  have := depth_pz l
  simp [SeqAt.shaped, PyData.canLay0, canLay_pz, PyData.depth]
  omega
theorem deep_lstz {h : Hh} {k : Nat} {l : List Z2} (e : h[k]? = some (.lst (l.map fz))) : (D.ref k).deep h = some (.list (l.map pz)) := by
  show deepR h 8 k = _
  unfold deepR
  rw [e]
  simp [deeps_fz]
theorem eqD_nilz {h : Hh} {k j : Nat} {l : List Z2} (e : h[k]? = some (.lst (l.map fz))) (e2 : h[j]? = some (.lst [])) : eqD h (.ref k) (.ref j) = some (decide (l = [])) := by
  have a := deep_lstz e
  have b := deep_lstz (l := []) e2
  unfold eqD
  simp only [a, b]
  rw [if_pos ⟨shaped_pzs l, shaped_pzs []⟩]
  cases l with
  | nil => rfl
  | cons m ms => rfl
theorem pre_set {h0 h : Hh} {f : Nat} {c : C} (p : h0 <+: h) (l : h0.length ≤ f) : h0 <+: h.set f c := by
  obtain ⟨E, rfl⟩ := p
  rw [List.set_append_right _ _ l]
  exact List.prefix_append _ _
theorem rIx2 (n : Nat) : rIx (n + 1) (some (-2)) = n := by
  unfold rIx
  simp only [show ((-2 : Int) < 0) from by decide, if_true]
  omega
def L_law_told_at_0 (f__law_both f__law_times : Nat) : Ss :=
      (.cons (.exp (.app (.var 5) (.call f__law_both (.cons (.var 4) (.cons (.call f__law_times (.cons (.idx (.var 5) (.neg (.int 1))) (.cons (.var 1) .nil))) .nil))))) .nil)
def L_law_told_at_1 (f__law_both f__law_times : Nat) : Ss :=
    (.cons (.asg (.nm 5) (.lst (.cons (.idx (.var 2) (.neg (.int 1))) .nil))) 
    (.cons (.fr (.nm 4) (.pln (.rsl (.var 2) (.so (.neg (.int 2))))) (L_law_told_at_0 f__law_both f__law_times)) 
    (.cons (.exp (.app (.var 3) (.idx (.var 5) (.neg (.int 1))))) 
    (.cons (.asg (.nm 2) (.rsl (.var 5) (.so (.neg (.int 2))))) .nil))))
def B_law_told_at (f__law_both f__law_times : Nat) : Ss :=
  (.cons (.asg (.tup (.cons (.nm 2) (.cons (.nm 3) .nil))) (.tup (.cons (.lc (.tup (.cons (.var 4) (.cons (.tup (.cons (.int 0) (.cons (.int 1) .nil))) .nil))) (.nm 4) (.pln (.var 0)) .no [4]) (.cons (.lst .nil) .nil)))) 
  (.cons (.whl (.cmp .NotEq (.var 2) (.lst .nil)) (L_law_told_at_1 f__law_both f__law_times)) 
  (.cons (.ret (.var 3)) .nil)))
def F_law_told_at (f__law_both f__law_times : Nat) : Df := ⟨2, 6, B_law_told_at f__law_both f__law_times⟩
theorem told_inner {gs : Gs} {tg : D → En → Hh → R En} {bd : En → Hh → R F} {St : Option D → En} {H : List D → Hh} {z : Z2} {C : Nat} (hgs : ∀ xs, gsOk gs (H xs)) (htg : ∀ d z4 h, tg d (St z4) h = .ok (St (some d)) h)
    (hb : ∀ (a : Z2) (R : List Z2), BD C (a :: R) → R ≠ [] → (a :: R).length ≤ 9 → bd (St (some (fz a))) (H ((sy z R).reverse.map fz)) = .ok (.nx (St (some (fz a)))) (H ((sy z (a :: R)).reverse.map fz))) :
    ∀ (n : Nat) (A R : List Z2) (z4 : Option D), A.length = n → R ≠ [] → BD C (A ++ R) → (A ++ R).length ≤ 9 →
      ∃ z4', forL gs tg bd (A.map fz).reverse (St z4) (H ((sy z R).reverse.map fz)) = .ok (.nx (St z4')) (H ((sy z (A ++ R)).reverse.map fz))
  | 0, A, R, z4, hA, hR, hBD, hl => by
    have : A = [] := List.eq_nil_of_length_eq_zero hA
    subst this
    exact ⟨z4, by simp [forL, hgs]⟩
  | n + 1, A, R, z4, hA, hR, hBD, hl => by
    obtain ⟨A', a, rfl⟩ : ∃ A' a, A = A' ++ [a] := ⟨A.dropLast, A.getLast (by intro z; subst z; simp at hA), (List.dropLast_concat_getLast _).symm⟩
    have hA' : A'.length = n := by simpa using hA
    have b1 : BD C (a :: R) := BD.tail (L := A') (by simpa using hBD)
    have e1 := hb a R b1 hR (by simp at hl ⊢; omega)
    obtain ⟨z4', e2⟩ := told_inner hgs htg hb n A' (a :: R) (some (fz a)) hA' (by simp) (by simpa using hBD) (by simp at hl ⊢; omega)
    refine ⟨z4', ?_⟩
    have e3 : ((A' ++ [a]).map fz).reverse = fz a :: (A'.map fz).reverse := by simp
    have e6 : A' ++ [a] ++ R = A' ++ a :: R := by simp
    rw [e3, e6]
    unfold forL
    rw [if_pos (hgs _), htg]
    simp only [HS.R.calm_ok, HS.R.bind_ok, e1]
    exact e2
theorem told_loop {c : En → Hh → R Bool} {bd : En → Hh → R F} {St : Nat → Option D → Option D → En} {z : Z2} (hz : Gz 1 72 z) {h0 : Hh} {f : Nat} (hf : h0.length ≤ f)
    (hc : ∀ (l : Nat) (rest : List Z2) (z4 z5 : Option D) h, h[l]? = some (.lst (rest.map fz)) → c (St l z4 z5) h = .ok (decide (rest ≠ [])) (h ++ [.lst []]))
    (hb : ∀ (l : Nat) (rest acc : List Z2) (C : Nat) (z4 z5 : Option D) h, h[l]? = some (.lst (rest.map fz)) → h[f]? = some (.lst (acc.map fz)) → l ≠ f → rest ≠ [] → BD C rest → C ≤ 1904 → rest.length ≤ 9 → acc.length ≤ 9 → h0 <+: h → ∀ v Q, sy z rest = v :: Q →
      ∃ l' y4 y5 h', bd (St l z4 z5) h = .ok (.nx (St l' y4 y5)) h' ∧ h'[l']? = some (.lst (Q.map fz)) ∧ h'[f]? = some (.lst ((acc ++ [v]).map fz)) ∧ l' ≠ f ∧ h0 <+: h') :
    ∀ (k C : Nat) (rest acc : List Z2) (l : Nat) (z4 z5 : Option D) h, rest.length = k → h[l]? = some (.lst (rest.map fz)) → h[f]? = some (.lst (acc.map fz)) → l ≠ f → BD C rest → C + 144 * k ≤ 2048 → k + acc.length ≤ 9 → h0 <+: h →
      ∃ l' y4 y5 h', whN c bd (k + 1) (St l z4 z5) h = some (.ok (.nx (St l' y4 y5)) h') ∧ h'[f]? = some (.lst ((acc ++ gr z k rest).map fz)) ∧ h0 <+: h'
  | 0, C, rest, acc, l, z4, z5, h, hk, hl, hff, hne, hBD, hC, hA, hp => by
    have e := hc l rest z4 z5 h hl
    have : rest = [] := List.eq_nil_of_length_eq_zero hk
    subst this
    refine ⟨l, z4, z5, h ++ [.lst []], ?_, ?_, List.IsPrefix.trans hp (List.prefix_append _ _)⟩
    · unfold whN
      rw [e]
      rfl
    · rw [List.getElem?_append_left (by exact (List.getElem?_eq_some_iff.mp hff).1), hff]
      simp [gr]
  | k + 1, C, rest, acc, l, z4, z5, h, hk, hl, hff, hne, hBD, hC, hA, hp => by
    have hr : rest ≠ [] := by intro z; subst z; simp at hk
    have e := hc l rest z4 z5 h hl
    obtain ⟨v, Q, e2, lq⟩ := sy_ne (z := z) hr
    have b := sy_BD hz hBD
    rw [e2] at b
    have g1 : (h ++ [HS.C.lst []])[l]? = some (.lst (rest.map fz)) := by rw [List.getElem?_append_left ((List.getElem?_eq_some_iff.mp hl).1), hl]
    have g2 : (h ++ [HS.C.lst []])[f]? = some (.lst (acc.map fz)) := by rw [List.getElem?_append_left ((List.getElem?_eq_some_iff.mp hff).1), hff]
    obtain ⟨l2, x4, x5, h2, e3, e4, e5, e6, e7⟩ := hb l rest acc C z4 z5 (h ++ [.lst []]) g1 g2 hne hr hBD (by omega) (by omega) (by omega) (List.IsPrefix.trans hp (List.prefix_append _ _)) v Q e2
    obtain ⟨l', y4, y5, h', q1, q2, q3⟩ := told_loop hz hf hc hb k (C + 144) Q (acc ++ [v]) l2 x4 x5 h2 (by omega) e4 e5 e6 b.2 (by omega) (by simp; omega) e7
    refine ⟨l', y4, y5, h', ?_, ?_, q3⟩
    · unfold whN
      rw [e, decide_eq_true hr]
      simp only [e3]
      exact q1
    · rw [q2, gr, e2]
      simp
section
variable {Δ : Nat → Fn} {gl : Nat → D}
set_option maxHeartbeats 2000000 in
theorem s_law_told_at {k l : Nat} (ha : S_zadd (Δ k)) (hm : S_zmul (Δ l)) : S_growths (run Δ gl (F_law_told_at k l)) := by
  intro P z h pz
  have zs := pz.zs
  obtain ⟨hp, lo, hi, hz⟩ := pz
  let f := h.length + 1
  let St : Nat → Option D → Option D → En := fun l z4 z5 => [some (.tup (P.map fr)), some (fz z), some (.ref l), some (.ref f), z4, z5]
  have sl : 1000 < sizeLine := by decide
  have ln : (lft P).length = P.length := List.length_map _
  have body : ∀ (q : Nat) (rest acc : List Z2) (C : Nat) (z4 z5 : Option D) (h1 : Hh), h1[q]? = some (.lst (rest.map fz)) → h1[f]? = some (.lst (acc.map fz)) → q ≠ f → rest ≠ [] → BD C rest → C ≤ 1904 → rest.length ≤ 9 → acc.length ≤ 9 → h <+: h1 → ∀ v Q, sy z rest = v :: Q →
      ∃ l' y4 y5 h', exs Δ gl (L_law_told_at_1 k l) (St q z4 z5) h1 = .ok (.nx (St l' y4 y5)) h' ∧ h'[l']? = some (.lst (Q.map fz)) ∧ h'[f]? = some (.lst ((acc ++ [v]).map fz)) ∧ l' ≠ f ∧ h <+: h' := by
    intro q rest acc C z4 z5 h1 hq hf hqf hne hBD hC hl hacc hpre v Q hv
    obtain ⟨A, a, rfl⟩ : ∃ A a, rest = A ++ [a] := ⟨rest.dropLast, rest.getLast hne, (List.dropLast_concat_getLast _).symm⟩
    have fl := (List.getElem?_eq_some_iff.mp hf).1
    let H : List D → Hh := fun xs => h1 ++ [.lst xs, .lst (A.map fz).reverse]
    have gm : ∀ xs, (H xs)[h1.length]? = some (.lst xs) := fun xs => by simp [H]
    have gq : ∀ xs, (H xs)[h1.length + 1]? = some (.lst (A.map fz).reverse) := fun xs => by simp [H]
    have sm : ∀ xs ys, (H xs).set h1.length (.lst ys) = H ys := fun xs ys => by simp [H]
    have inner : ∀ (b : Z2) (R : List Z2), BD C (b :: R) → R ≠ [] → (b :: R).length ≤ 9 →
        exs Δ gl (L_law_told_at_0 k l) [some (.tup (P.map fr)), some (fz z), some (.ref q), some (.ref f), some (fz b), some (.ref h1.length)] (H ((sy z R).reverse.map fz)) = .ok (.nx [some (.tup (P.map fr)), some (fz z), some (.ref q), some (.ref f), some (fz b), some (.ref h1.length)]) (H ((sy z (b :: R)).reverse.map fz)) := by
      intro b R hB hR hl9
      obtain ⟨r, R', e1, lr⟩ := sy_ne (z := z) hR
      have bb := sy_BD hz hB.2
      rw [e1] at bb
      have sa : Zs 96 b := hB.1.zs (by simp at hl9; omega) (by omega)
      have sr : Zs 96 r := bb.1.zs (by simp at hl9; omega) (by omega)
      have q1 := fun h => hm r z 96 7 h sr zs (by decide)
      have smm : Zs 207 (zmul r z) := ⟨((sr.1.mul zs.1).sub (sr.2.mul zs.2)).mono (by decide), ((sr.1.mul zs.2).add (sr.2.mul zs.1)).mono (by decide)⟩
      have q2 := fun h => ha b (zmul r z) 96 207 h sa smm (by decide)
      have a5 : sy z (b :: R) = zadd b (zmul r z) :: r :: R' := by rw [sy_cons, e1]; rfl
      have e2 : (r :: R').reverse.map fz = R'.reverse.map fz ++ [fz r] := by simp
      have e3 : (zadd b (zmul r z) :: r :: R').reverse.map fz = (R'.reverse.map fz ++ [fz r]) ++ [fz (zadd b (zmul r z))] := by simp
      have a1 : atI (R'.reverse.map fz ++ [fz r]) (-1) = some (fz r) := atI_last
      have lo2 : (R'.reverse.map fz ++ [fz r]).length < sizeLine := Nat.lt_of_le_of_lt (by simp at hl9 ⊢; omega) sl
      rw [e1, a5, e2, e3]
      have ix : ixD (.ref h1.length) (.int (-1)) (H (R'.reverse.map fz ++ [fz r])) = .ok (fz r) (H (R'.reverse.map fz ++ [fz r])) := by
        simp only [ixD, listAt, gm, a1]
      unfold L_law_told_at_0
      refine (exs_nx (ex_exp (d := .non) (h1 := H ((R'.reverse.map fz ++ [fz r]) ++ [fz (zadd b (zmul r z))])) ?_)).trans ?_
      · simp only [ev, evs, List.getElem?_cons_zero, List.getElem?_cons_succ, HS.R.bind_ok, lstOk, gm, ix, q1, q2, app, lo2, if_true, sm]
      · rw [exs]
    obtain ⟨x4, e4⟩ := told_inner (gs := [(h1.length + 1, (A.map fz).reverse)]) (tg := fun d ρ h => asn Δ gl (.nm 4) d ρ h) (bd := fun ρ h => exs Δ gl (L_law_told_at_0 k l) ρ h) (St := fun x4 => [some (.tup (P.map fr)), some (fz z), some (.ref q), some (.ref f), x4, some (.ref h1.length)]) (H := H) (z := z) (C := C)
      (fun xs p hp => by simp at hp; subst hp; simp [listAt, gq]) (fun d z4 h => by simp [asn, List.set]) inner A.length A [a] z4 rfl (by simp) hBD hl
    have e5 : sy z [a] = [a] := rfl
    rw [e5, hv] at e4
    have e6 : ((v :: Q).reverse.map fz) = Q.reverse.map fz ++ [fz v] := by simp
    rw [e6] at e4
    have lQ : Q.length = A.length := by
      have := sy_len z (A ++ [a])
      rw [hv] at this
      simpa using this
    have gf : ∀ xs, (H xs)[f]? = some (.lst (acc.map fz)) := fun xs => by
      simp only [H]
      rw [List.getElem?_append_left fl, hf]
    have al : atI ((A ++ [a]).map fz) (-1) = some (fz a) := by rw [List.map_append]; exact atI_last
    have al2 : atI (Q.reverse.map fz ++ [fz v]) (-1) = some (fz v) := atI_last
    have fne : f ≠ h1.length := by omega
    let h3 : Hh := (H (Q.reverse.map fz ++ [fz v])).set f (.lst (acc.map fz ++ [fz v]))
    have g3 : h3[h1.length]? = some (.lst (Q.reverse.map fz ++ [fz v])) := by
      show ((H _).set f _)[h1.length]? = _
      rw [List.getElem?_set_ne fne, gm]
    have l3 : h3.length = h1.length + 2 := by simp [h3, H]
    have f3 : h3[f]? = some (.lst (acc.map fz ++ [fz v])) := by
      show ((H _).set f _)[f]? = _
      rw [List.getElem?_set_self (by simp [H]; omega)]
    have pre3 : h <+: h3 := pre_set (List.IsPrefix.trans hpre (List.prefix_append _ _)) (by omega)
    have tk : ((Q.reverse.map fz ++ [fz v]).take A.length).reverse = Q.map fz := by
      rw [List.take_append_of_le_length (by simp [lQ]), List.take_of_length_le (by simp [lQ])]
      simp
    have tk0 : (((A ++ [a]).map fz).take A.length).reverse = (A.map fz).reverse := by
      rw [List.map_append, List.take_append_of_le_length (by simp), List.take_of_length_le (by simp)]
    have acl : (acc.map fz).length < sizeLine := Nat.lt_of_le_of_lt (by simp; omega) sl
    refine ⟨h1.length + 2, x4, some (.ref h1.length), h3 ++ [.lst (Q.map fz)], ?_, ?_, ?_, by omega, List.IsPrefix.trans pre3 (List.prefix_append _ _)⟩
    · unfold L_law_told_at_1
      refine (exs_nx (ex_asg (d := .ref h1.length) (h1 := h1 ++ [.lst [fz a]]) ?_)).trans ?_
      · have ix : ixD (.ref q) (.int (-1)) h1 = .ok (fz a) h1 := by simp only [ixD, listAt, hq, al]
        simp only [ev, evs, St, List.getElem?_cons_zero, List.getElem?_cons_succ, HS.R.bind_ok, ix, alloc, List.length_cons, List.length_nil]
        rw [if_pos (by decide)]
      refine (exs_nx (ex_for (p := (A.map fz).reverse) (gs := [(h1.length + 1, (A.map fz).reverse)]) (h1 := H [fz a]) ?_ e4)).trans ?_
      · have hq2 : (h1 ++ [HS.C.lst [fz a]])[q]? = some (.lst ((A ++ [a]).map fz)) := by rw [List.getElem?_append_left ((List.getElem?_eq_some_iff.mp hq).1), hq]
        have r2 : rIx ((A ++ [a]).map fz).length (some (-2)) = A.length := by simp only [List.length_map, List.length_append, List.length_cons, List.length_nil]; exact rIx2 _
        have hh : h1 ++ [HS.C.lst [fz a]] ++ [HS.C.lst (A.map fz).reverse] = H [fz a] := by simp [H]
        simp only [evi, ev, evo, getI, St, List.getElem?_cons_zero, List.getElem?_cons_succ, HS.R.bind_ok, rslD, listAt, hq2, r2, tk0, alloc, hh, itemsD]
        have : (h1 ++ [HS.C.lst [fz a]]).length = h1.length + 1 := by simp
        rw [this]
        simp only [gq]
      refine (exs_nx (ex_exp (d := .non) (h1 := h3) ?_)).trans ?_
      · have ix : ixD (.ref h1.length) (.int (-1)) (H (Q.reverse.map fz ++ [fz v])) = .ok (fz v) (H (Q.reverse.map fz ++ [fz v])) := by simp only [ixD, listAt, gm, al2]
        simp only [ev, St, List.getElem?_cons_zero, List.getElem?_cons_succ, HS.R.bind_ok, lstOk, gf, ix, app, acl, if_true]
        rfl
      refine (exs_nx (ex_asg (d := .ref (h1.length + 2)) (h1 := h3 ++ [.lst (Q.map fz)]) ?_)).trans ?_
      · have r2 : rIx (Q.reverse.map fz ++ [fz v]).length (some (-2)) = A.length := by simp only [List.length_map, List.length_append, List.length_cons, List.length_nil, List.length_reverse, lQ]; exact rIx2 _
        simp only [ev, evo, getI, St, List.getElem?_cons_zero, List.getElem?_cons_succ, HS.R.bind_ok, rslD, listAt, g3, r2, tk, alloc, l3]
      · rw [exs]
        rfl
    · rw [List.getElem?_append_right (by omega), l3]
      simp
    · rw [List.getElem?_append_left (by simp [l3]; omega), f3]
      simp
  obtain ⟨l', y4, y5, h', w1, w2, w3⟩ := told_loop (c := fun ρ h => (ev Δ gl (.cmp .NotEq (.var 2) (.lst .nil)) ρ h).bind asBl) (bd := fun ρ h => exs Δ gl (L_law_told_at_1 k l) ρ h) (St := St) (z := z) hz (h0 := h) (f := f) (by omega)
    (fun q rest z4 z5 h1 hq => by
      have q1 : (h1 ++ [HS.C.lst []])[q]? = some (.lst (rest.map fz)) := by rw [List.getElem?_append_left ((List.getElem?_eq_some_iff.mp hq).1), hq]
      have q2 : (h1 ++ [HS.C.lst []])[h1.length]? = some (.lst []) := by simp
      have eq := eqD_nilz q1 q2
      have l0 : lineOk ([] : List D).length = true := by decide
      simp only [ev, evs, St, List.getElem?_cons_zero, List.getElem?_cons_succ, HS.R.bind_ok, l0, if_true, alloc, cmpD, eq, asBl]
      by_cases hr : rest = [] <;> simp [hr]) body P.length 6 (lft P) [] h.length none none (h ++ [.lst ((lft P).map fz), .lst []]) ln (by simp) (by simp [f]) (by omega) (lft_BD hp) (by omega) (by simp; omega) (List.prefix_append _ _)
  have wl := whL_of w1
  simp only [List.nil_append] at w2
  obtain ⟨E, rfl⟩ := w3
  have key : exs Δ gl (B_law_told_at k l) [some (.tup (P.map fr)), some (fz z), none, none, none, none] h = .ok (.rt (.ref f)) (h ++ E) := by
    unfold B_law_told_at
    refine (exs_nx (ρ1 := St h.length none none) (h1 := h ++ [.lst ((lft P).map fz), .lst []]) ?_).trans ?_
    · have mp : (P.map fr).map (fun d => D.tup [d, fr 0]) = (lft P).map fz := by
        unfold lft
        rw [List.map_map, List.map_map]; rfl
      have lm := lc_map (gs := []) (el := fun d h => ((asn Δ gl (.nm 4) d (wipeD [some (.tup (P.map fr)), some (fz z), none, none, none, none] [4]) h).bind fun ρ1 h => (evt Δ gl .no ρ1 h).bind fun b h => if b = true then (ev Δ gl (.tup (.cons (.var 4) (.cons (.tup (.cons (.int 0) (.cons (.int 1) .nil))) .nil))) ρ1 h).bind fun y h => .ok (some y) h else .ok none h).calm) (h := h) (gsOk_nil h) (fun d => D.tup [d, fr 0]) (P.map fr) [] (fun d hd => by
          simp [asn, wipeD, List.set, evt, ev, evs, lineOk, sizeLine, R.calm]
          rfl) (by simp; omega)
      rw [mp, List.nil_append] at lm
      have eA : ev Δ gl (.lc (.tup (.cons (.var 4) (.cons (.tup (.cons (.int 0) (.cons (.int 1) .nil))) .nil))) (.nm 4) (.pln (.var 0)) .no [4]) [some (.tup (P.map fr)), some (fz z), none, none, none, none] h = .ok (.ref h.length) (h ++ [.lst ((lft P).map fz)]) := by
        rw [ev, evi, ev]
        simp only [List.getElem?_cons_zero, R.bind_ok, itemsD]
        exact lm
      have l0 : lineOk ([] : List D).length = true := by decide
      rw [ex, ev, evs, eA]
      simp [evs, ev, alloc, lineOk, sizeLine, asn, asns, R.calm, List.set, R.toF, St, f]
    refine (exs_nx (ρ1 := St l' y4 y5) (h1 := h ++ E) ?_).trans ?_
    · rw [ex]
      exact wl
    · refine exs_rt ?_
      simp only [ev, St, List.getElem?_cons_zero, List.getElem?_cons_succ]
  simp only [run, F_law_told_at, List.length_cons, List.length_nil, if_true, List.map_cons, List.map_nil, List.replicate, List.cons_append, List.nil_append]
  rw [key]
  exact tidy_ref w2 (flats_fz _) (by simp [f])
end
end HS

/-! The program's squares at a point. -/
namespace HS
open PySem L2
def B_is_flat (f_growths_at g_NOUGHT : Nat) : Ss :=
  (.cons (.ret (.cmp .Eq (.idx (.call f_growths_at (.cons (.var 0) (.cons (.var 1) .nil))) (.int 1)) (.glb g_NOUGHT))) .nil)
def F_is_flat (f_growths_at g_NOUGHT : Nat) : Df := ⟨2, 2, B_is_flat f_growths_at g_NOUGHT⟩
def B_squares_by (f_square_of f_growths_at f_ratio_over : Nat) : Ss :=
  (.cons (.asg (.nm 2) (.lc (.call f_square_of (.cons (.var 3) .nil)) (.nm 3) (.pln (.call f_growths_at (.cons (.var 0) (.cons (.var 1) .nil)))) .no [3])) 
  (.cons (.ret (.tup (.cons (.call f_ratio_over (.cons (.idx (.var 2) (.int 0)) (.cons (.idx (.var 2) (.int 1)) .nil))) (.cons (.blt .tuple (.cons (.lc (.call f_ratio_over (.cons (.var 3) (.cons (.idx (.var 2) (.int 1)) .nil))) (.nm 3) (.pln (.slc (.var 2) (.so (.int 2)) .no)) .no [3]) .nil)) .nil)))) .nil))
def F_squares_by (f_square_of f_growths_at f_ratio_over : Nat) : Df := ⟨2, 4, B_squares_by f_square_of f_growths_at f_ratio_over⟩
def B_are_ratios (f_is_ratio : Nat) : Ss :=
  (.cons (.ret (.and (.isi (.var 0) (.b "tuple")) (.blt .all (.cons (.lc (.call f_is_ratio (.cons (.var 1) .nil)) (.nm 1) (.pln (.var 0)) .no [1]) .nil)))) .nil)
def F_are_ratios (f_is_ratio : Nat) : Df := ⟨1, 2, B_are_ratios f_is_ratio⟩
def B_is_parts (f_are_ratios g_MOST_PARTS g_ZERO : Nat) : Ss :=
  (.cons (.ret (.and (.call f_are_ratios (.cons (.var 0) .nil)) (.and (.cmp .LtE (.blt .len (.cons (.var 0) .nil)) (.glb g_MOST_PARTS)) (.or (.cmp .Eq (.var 0) (.tup .nil)) (.cmp .NotEq (.idx (.var 0) (.neg (.int 1))) (.glb g_ZERO)))))) .nil)
def F_is_parts (f_are_ratios g_MOST_PARTS g_ZERO : Nat) : Df := ⟨1, 1, B_is_parts f_are_ratios g_MOST_PARTS g_ZERO⟩
def B_is_pair (f_is_ratio : Nat) : Ss :=
  (.cons (.ret (.and (.isi (.var 0) (.b "tuple")) (.and (.cmp .Eq (.blt .len (.cons (.var 0) .nil)) (.int 2)) (.and (.call f_is_ratio (.cons (.idx (.var 0) (.int 0)) .nil)) (.call f_is_ratio (.cons (.idx (.var 0) (.int 1)) .nil)))))) .nil)
def F_is_pair (f_is_ratio : Nat) : Df := ⟨1, 1, B_is_pair f_is_ratio⟩
def B_check_point (f_is_pair : Nat) : Ss :=
  (.cons (.ife (.not (.call f_is_pair (.cons (.var 0) .nil))) (
    (.cons .never .nil)) (.nil)) .nil)
def F_check_point (f_is_pair : Nat) : Df := ⟨1, 1, B_check_point f_is_pair⟩
def B_check_polynomial (f_is_parts : Nat) : Ss :=
  (.cons (.ife (.not (.call f_is_parts (.cons (.var 0) .nil))) (
    (.cons .never .nil)) (.nil)) .nil)
def F_check_polynomial (f_is_parts : Nat) : Df := ⟨1, 1, B_check_polynomial f_is_parts⟩
def B_check_start2 (f_check_polynomial f_check_point : Nat) : Ss :=
  (.cons (.exp (.call f_check_polynomial (.cons (.var 0) .nil))) 
  (.cons (.exp (.call f_check_point (.cons (.var 1) .nil))) .nil))
def F_check_start2 (f_check_polynomial f_check_point : Nat) : Df := ⟨2, 2, B_check_start2 f_check_polynomial f_check_point⟩
def B_check_slope (f_is_flat : Nat) : Ss :=
  (.cons (.ife (.call f_is_flat (.cons (.var 0) (.cons (.var 1) .nil))) (
    (.cons (.rse 3) .nil)) (.nil)) .nil)
def F_check_slope (f_is_flat : Nat) : Df := ⟨2, 2, B_check_slope f_is_flat⟩
def B_squares_at (f_check_start f_check_slope f_squares_by : Nat) : Ss :=
  (.cons (.exp (.call f_check_start (.cons (.var 0) (.cons (.var 1) .nil)))) 
  (.cons (.exp (.call f_check_slope (.cons (.var 0) (.cons (.var 1) .nil)))) 
  (.cons (.ret (.call f_squares_by (.cons (.var 0) (.cons (.var 1) .nil)))) .nil)))
def F_squares_at (f_check_start f_check_slope f_squares_by : Nat) : Df := ⟨2, 2, B_squares_at f_check_start f_check_slope f_squares_by⟩
/-! ### likeness -/
theorem rat_zero (a : Rat) : (a.num = 0 ∧ (a.den : Int) = 1) ↔ a = 0 := by
  constructor
  · intro h
    exact Rat.num_eq_zero.mp h.1
  · intro h
    rw [h]
    exact ⟨rfl, rfl⟩
theorem eqD_fr0 (h : Hh) (a : Rat) : eqD h (fr a) (fr 0) = some (decide (a = 0)) := by
  have e1 : (fr a).deep h = some (.tuple [.int a.num, .int a.den]) := by simp [D.deep, deeps_fr]
  have e2 : (fr 0).deep h = some (.tuple [.int 0, .int 1]) := by
    have : (fr 0).deep h = some (.tuple [.int (0 : Rat).num, .int (0 : Rat).den]) := by simp [D.deep, deeps_fr]
    exact this
  have s1 : ∀ i j : Int, SeqAt.shaped (.tuple [.int i, .int j]) = true := fun i j => by simp [SeqAt.shaped, PyData.canLay0, PyData.canLayAll0, PyData.depth, PyData.depthAll]
  have e3 : eqD h (fr a) (fr 0) = (match (fr a).deep h, (fr 0).deep h with | some a, some b => if SeqAt.shaped a = true ∧ SeqAt.shaped b = true then some (PyData.eqv a b) else none | _, _ => none) := rfl
  rw [e3, e1, e2]
  show (if SeqAt.shaped _ = true ∧ SeqAt.shaped _ = true then _ else _) = _
  rw [if_pos ⟨s1 _ _, s1 _ _⟩]
  have r := rat_zero a
  simp only [PyData.eqv, PyData.eqvAll, Bool.and_true]
  congr 1
  by_cases hz : a = 0
  · subst hz; rfl
  · have : ¬ (a.num = 0 ∧ (a.den : Int) = 1) := fun z => hz (r.mp z)
    rw [decide_eq_false hz]
    rw [Bool.and_eq_false_iff]
    by_cases h1 : a.num = 0
    · right
      exact beq_eq_false_iff_ne.mpr fun z => this ⟨h1, z⟩
    · left
      exact beq_eq_false_iff_ne.mpr h1
theorem eqD_fz0 (h : Hh) (a : Z2) : eqD h (fz a) (fz ⟨0, 0⟩) = some (decide (zsq a = 0)) := by
  have e1 : ∀ a : Z2, (fz a).deep h = some (pz a) := fun a => deep_fz _ a
  have s1 : ∀ a : Z2, SeqAt.shaped (pz a) = true := fun a => by simp [pz, SeqAt.shaped, PyData.canLay0, PyData.canLayAll0, PyData.depth, PyData.depthAll]
  have e3 : eqD h (fz a) (fz ⟨0, 0⟩) = (match (fz a).deep h, (fz ⟨0, 0⟩).deep h with | some a, some b => if SeqAt.shaped a = true ∧ SeqAt.shaped b = true then some (PyData.eqv a b) else none | _, _ => none) := rfl
  rw [e3, e1, e1]
  show (if SeqAt.shaped _ = true ∧ SeqAt.shaped _ = true then _ else _) = _
  rw [if_pos ⟨s1 _, s1 _⟩]
  congr 1
  have r1 := rat_zero a.re
  have r2 := rat_zero a.im
  have key : (PyData.eqv (pz a) (pz ⟨0, 0⟩) = true) ↔ zsq a = 0 := by
    rw [zsq_zero]
    simp only [pz, PyData.eqv, PyData.eqvAll, Bool.and_true, Bool.and_eq_true, beq_iff_eq]
    show ((a.re.num = 0 ∧ (a.re.den : Int) = 1) ∧ (a.im.num = 0 ∧ (a.im.den : Int) = 1)) ↔ _
    rw [r1, r2]
    constructor
    · intro z
      cases a
      simp only at z
      rw [z.1, z.2]
    · intro z
      rw [z]
      exact ⟨rfl, rfl⟩
  by_cases hz : zsq a = 0
  · rw [decide_eq_true hz, key.mpr hz]
  · rw [decide_eq_false hz]
    cases e : PyData.eqv (pz a) (pz ⟨0, 0⟩) with
    | false => rfl
    | true => exact absurd (key.mp e) hz
def prd (a : Rat) : PyData := .tuple [.int a.num, .int a.den]
theorem deeps_frs (rd : Nat → Option PyData) : ∀ l : List Rat, D.deepsW rd (l.map fr) = some (l.map prd)
  | [] => by simp [D.deepsW]
  | a :: l => by simp [D.deepsW, deeps_fr, deeps_frs rd l, prd]
theorem canLay_prd : ∀ l : List Rat, PyData.canLayAll0 (l.map prd) = true
  | [] => by simp [PyData.canLayAll0]
  | a :: l => by simp [PyData.canLayAll0, canLay_prd l, prd, PyData.canLay0]
theorem depth_prd : ∀ l : List Rat, PyData.depthAll (l.map prd) ≤ 1
  | [] => by simp [PyData.depthAll]
  | a :: l => by
    have := depth_prd l
    simp [PyData.depthAll, prd, PyData.depth]
    omega
theorem eqD_frs (h : Hh) (P : List Rat) : eqD h (.tup (P.map fr)) (.tup []) = some (decide (P = [])) := by
  have e1 : (D.tup (P.map fr)).deep h = some (.tuple (P.map prd)) := by simp [D.deep, D.deepW, deeps_frs]
  have e2 : (D.tup []).deep h = some (.tuple []) := by simp [D.deep, D.deepW, D.deepsW]
  have s1 : ∀ P : List Rat, SeqAt.shaped (.tuple (P.map prd)) = true := fun P => by
    have := depth_prd P
    simp [SeqAt.shaped, PyData.canLay0, canLay_prd, PyData.depth]
    omega
  have e3 : eqD h (.tup (P.map fr)) (.tup []) = (match (D.tup (P.map fr)).deep h, (D.tup []).deep h with | some a, some b => if SeqAt.shaped a = true ∧ SeqAt.shaped b = true then some (PyData.eqv a b) else none | _, _ => none) := rfl
  rw [e3, e1, e2]
  show (if SeqAt.shaped _ = true ∧ SeqAt.shaped _ = true then _ else _) = _
  rw [if_pos ⟨s1 _, s1 []⟩]
  cases P with
  | nil => rfl
  | cons a l => rfl
theorem bls_true : ∀ (l : List Rat), blsOf (l.map fun _ => D.bl true) = some (l.map fun _ => true)
  | [] => rfl
  | a :: l => by simp [blsOf, bls_true l]
theorem cut2 (a b : D) (l : List D) : cutD (a :: b :: l) (some 2) none = l := by
  have e1 : HT.sIx (a :: b :: l).length 0 (some 2) = 2 := by
    unfold HT.sIx
    simp
    try omega
  have e2 : HT.sIx (a :: b :: l).length (a :: b :: l).length none = (a :: b :: l).length := rfl
  unfold cutD
  rw [e1, e2]
  simp
/-! ### what the defs tell -/
def S_areR (f : Fn) : Prop := ∀ (P : List Rat) h, P.length ≤ 1000 → f [.tup (P.map fr)] h = .ok (.bl true) h
def S_partsOk (f : Fn) : Prop := ∀ (Q : List Rat) (q : Rat) h, Q.length ≤ 8 → q ≠ 0 → f [.tup ((Q ++ [q]).map fr)] h = .ok (.bl true) h
def S_pairOk (f : Fn) : Prop := ∀ (z : Z2) h, f [fz z] h = .ok (.bl true) h
def S_cpoly (f : Fn) : Prop := ∀ (Q : List Rat) (q : Rat) h, Q.length ≤ 8 → q ≠ 0 → f [.tup ((Q ++ [q]).map fr)] h = .ok .non h
def S_cpoint (f : Fn) : Prop := ∀ (z : Z2) h, f [fz z] h = .ok .non h
def S_cstart (f : Fn) : Prop := ∀ (Q : List Rat) (q : Rat) (z : Z2) h, Q.length ≤ 8 → q ≠ 0 → f [.tup ((Q ++ [q]).map fr), fz z] h = .ok .non h
def sqAns (g0 g1 : Z2) (gs : List Z2) : D := .tup [fr (zsq g0 / zsq g1), .tup (gs.map fun g => fr (zsq g / zsq g1))]
def S_flat (f : Fn) : Prop := ∀ (P : List Rat) (z g0 g1 : Z2) (gs : List Z2) h, Pz P z → gr z P.length (lft P) = g0 :: g1 :: gs → f [.tup (P.map fr), fz z] h = .ok (.bl (decide (zsq g1 = 0))) h
def S_slope (f : Fn) : Prop := ∀ (P : List Rat) (z g0 g1 : Z2) (gs : List Z2) h, Pz P z → gr z P.length (lft P) = g0 :: g1 :: gs → f [.tup (P.map fr), fz z] h = if zsq g1 = 0 then .ex ⟨3, []⟩ h else .ok .non h
def S_sqBy (f : Fn) : Prop := ∀ (P : List Rat) (z g0 g1 : Z2) (gs : List Z2) h, Pz P z → gr z P.length (lft P) = g0 :: g1 :: gs → zsq g1 ≠ 0 → f [.tup (P.map fr), fz z] h = .ok (sqAns g0 g1 gs) h
def S_sqAt (f : Fn) : Prop := ∀ (P Q : List Rat) (q : Rat) (z g0 g1 : Z2) (gs : List Z2) h, P = Q ++ [q] → q ≠ 0 → Pz P z → gr z P.length (lft P) = g0 :: g1 :: gs → f [.tup (P.map fr), fz z] h = if zsq g1 = 0 then .ex ⟨3, []⟩ h else .ok (sqAns g0 g1 gs) h
theorem ans_flat (g0 g1 : Z2) (gs : List Z2) : (sqAns g0 g1 gs).flat = true := by
  have e : gs.map (fun g => fr (zsq g / zsq g1)) = (gs.map fun g => zsq g / zsq g1).map fr := by rw [List.map_map]; rfl
  unfold sqAns
  rw [e]
  show ((fr (zsq g0 / zsq g1)).flat && ((D.tup ((gs.map fun g => zsq g / zsq g1).map fr)).flat && true)) = true
  rw [fr_flat, flat_frs]
  rfl
section
variable {Δ : Nat → Fn} {gl : Nat → D}
theorem run_rt {f : Df} {xs : List D} {h h' : Hh} {d : D} (hl : xs.length = f.np) (e : exs Δ gl f.body (xs.map some ++ List.replicate (f.ns - xs.length) none) h = .ok (.rt d) h') : run Δ gl f xs h = tidy h d h' := by
  unfold run
  rw [if_pos hl, e]
theorem s_are_ratios {i : Nat} (hr : S_ratio (Δ i)) : S_areR (run Δ gl (F_are_ratios i)) := by
  intro P h hl
  have sl : 1000 < sizeLine := by decide
  have lm := lc_map (gs := []) (el := fun d h => ((asn Δ gl (.nm 1) d (wipeD [some (.tup (P.map fr)), none] [1]) h).bind fun ρ1 h => (evt Δ gl .no ρ1 h).bind fun b h => if b = true then (ev Δ gl (.call i (.cons (.var 1) .nil)) ρ1 h).bind fun y h => .ok (some y) h else .ok none h).calm) (h := h) (gsOk_nil h) (fun d => D.bl true) (P.map fr) [] (fun d hd => by
      obtain ⟨q, _, rfl⟩ := List.mem_map.mp hd
      have e := hr q h
      simp [asn, wipeD, List.set, evt, ev, evs, e, R.calm]) (by simp; omega)
  have mp : (P.map fr).map (fun _ => D.bl true) = P.map fun _ => D.bl true := by rw [List.map_map]; rfl
  rw [mp, List.nil_append] at lm
  have eA : ev Δ gl (.lc (.call i (.cons (.var 1) .nil)) (.nm 1) (.pln (.var 0)) .no [1]) [some (.tup (P.map fr)), none] h = .ok (.ref h.length) (h ++ [.lst (P.map fun _ => D.bl true)]) := by
    rw [ev, evi, ev]
    simp only [List.getElem?_cons_zero, R.bind_ok, itemsD]
    exact lm
  have al : ((P.map fun _ => true).all id) = true := by simp
  have key : exs Δ gl (B_are_ratios i) [some (.tup (P.map fr)), none] h = .ok (.rt (.bl true)) (h ++ [.lst (P.map fun _ => D.bl true)]) := by
    unfold B_are_ratios
    refine exs_rt ?_
    have k1 : isiD h (.tup (P.map fr)) (.b "tuple") = .ok (.bl true) h := rfl
    rw [ev, ev, ev]
    simp only [List.getElem?_cons_zero, R.bind_ok, k1]
    rw [ev, evs, eA]
    simp only [evs, R.bind_ok, bltD, listAt, get_end, bls_true, al]
  simp only [run, F_are_ratios, List.length_cons, List.length_nil, if_true, List.map_cons, List.map_nil, List.replicate, List.cons_append, List.nil_append]
  rw [key]
  exact tidy_pre rfl
theorem s_is_parts {i j k : Nat} (hr : S_areR (Δ i)) (h9 : gl j = .int 9) (h0 : gl k = fr 0) : S_partsOk (run Δ gl (F_is_parts i j k)) := by
  intro Q q h hl hq
  have e1 := hr (Q ++ [q]) h (by simp; omega)
  have e2 := eqD_frs h (Q ++ [q])
  rw [decide_eq_false (by simp)] at e2
  have e3 := eqD_fr0 h q
  rw [decide_eq_false hq] at e3
  have e4 : atI ((Q ++ [q]).map fr) (-1) = some (fr q) := by rw [List.map_append]; exact atI_last
  have e5 : decide ((((Q ++ [q]).map fr).length : Int) ≤ 9) = true := by simp; omega
  have ix : ixD (.tup ((Q ++ [q]).map fr)) (.int (-1)) h = .ok (fr q) h := by simp only [ixD, e4]
  have key : exs Δ gl (B_is_parts i j k) [some (.tup ((Q ++ [q]).map fr))] h = .ok (.rt (.bl true)) h := by
    unfold B_is_parts
    refine exs_rt ?_
    generalize (Q ++ [q]).map fr = X at *
    have l0 : lineOk ([] : List D).length = true := by decide
    simp only [ev, evs, List.getElem?_cons_zero, R.bind_ok, e1, bltD, h9, cmpD, e5, l0, if_true, e2, ix, h0, e3, Bool.not_false]
  exact (run_rt (f := F_is_parts i j k) rfl key).trans (tidy_self rfl)
theorem s_is_pair {i : Nat} (hr : S_ratio (Δ i)) : S_pairOk (run Δ gl (F_is_pair i)) := by
  intro z h
  have e1 := hr z.re h
  have e2 := hr z.im h
  have k1 : isiD h (fz z) (.b "tuple") = .ok (.bl true) h := rfl
  have k2 : bltD .len [fz z] h = .ok (.int 2) h := rfl
  have k3 : ixD (fz z) (.int 0) h = .ok (fr z.re) h := ix0 _ _ _
  have k4 : ixD (fz z) (.int 1) h = .ok (fr z.im) h := ix1 _ _ _
  simp [run, F_is_pair, B_is_pair, exs, ex, ev, evs, k1, k2, k3, k4, e1, e2, cmpD, eqD]
  exact tidy_self rfl
theorem s_check_point {i : Nat} (hr : S_pairOk (Δ i)) : S_cpoint (run Δ gl (F_check_point i)) := by
  intro z h
  have e1 := hr z h
  simp [run, F_check_point, B_check_point, exs, ex, ev, evs, e1, asBl]
  exact tidy_self rfl
theorem s_check_polynomial {i : Nat} (hr : S_partsOk (Δ i)) : S_cpoly (run Δ gl (F_check_polynomial i)) := by
  intro Q q h hl hq
  have e1 := hr Q q h hl hq
  generalize (Q ++ [q]).map fr = X at *
  simp [run, F_check_polynomial, B_check_polynomial, exs, ex, ev, evs, e1, asBl]
  exact tidy_self rfl
theorem s_check_start2 {i j : Nat} (h1 : S_cpoly (Δ i)) (h2 : S_cpoint (Δ j)) : S_cstart (run Δ gl (F_check_start2 i j)) := by
  intro Q q z h hl hq
  have e1 := h1 Q q h hl hq
  have e2 := h2 z h
  generalize (Q ++ [q]).map fr = X at *
  simp [run, F_check_start2, B_check_start2, exs, ex, ev, evs, e1, e2]
  exact tidy_self rfl
theorem s_is_flat {i j : Nat} (hg : S_growths (Δ i)) (h0 : gl j = fz ⟨0, 0⟩) : S_flat (run Δ gl (F_is_flat i j)) := by
  intro P z g0 g1 gs h pz eg
  have e1 := hg P z h pz
  rw [eg] at e1
  generalize P.map fr = X at *
  have ix : ixD (.ref h.length) (.int 1) (h ++ [.lst ((g0 :: g1 :: gs).map fz)]) = .ok (fz g1) (h ++ [.lst ((g0 :: g1 :: gs).map fz)]) := by
    simp [ixD, listAt]
  have e2 := eqD_fz0 (h ++ [.lst ((g0 :: g1 :: gs).map fz)]) g1
  simp only [run, F_is_flat, B_is_flat, List.length_cons, List.length_nil, if_true, List.map_cons, List.map_nil, List.replicate, List.cons_append, List.nil_append, exs, ex, ev, evs, List.getElem?_cons_zero, List.getElem?_cons_succ, R.bind_ok, e1] at *
  simp only [ix, h0, R.bind_ok, cmpD, e2]
  exact tidy_pre rfl
theorem s_check_slope {i : Nat} (hf : S_flat (Δ i)) : S_slope (run Δ gl (F_check_slope i)) := by
  intro P z g0 g1 gs h pz eg
  have e1 := hf P z g0 g1 gs h pz eg
  generalize P.map fr = X at *
  by_cases hz : zsq g1 = 0
  · rw [decide_eq_true hz] at e1
    rw [if_pos hz]
    simp [run, F_check_slope, B_check_slope, exs, ex, ev, evs, e1, asBl]
  · rw [decide_eq_false hz] at e1
    rw [if_neg hz]
    simp [run, F_check_slope, B_check_slope, exs, ex, ev, evs, e1, asBl]
    exact tidy_self rfl
theorem zsq_sz {B : Nat} {a : Z2} (h : Zs B a) : Sz (4 * B + 1) (zsq a) := ((h.1.mul h.1).add (h.2.mul h.2)).mono (by omega)
theorem gr_ok {P : List Rat} {z : Z2} (pz : Pz P z) : ∀ a ∈ gr z P.length (lft P), Zs 96 a := by
  have ln : (lft P).length = P.length := List.length_map _
  have := pz.hi
  exact gr_zs pz.z P.length 6 (lft P) (lft_BD pz.p) ln pz.hi (by omega)
theorem s_squares_by {i j k : Nat} (hs : S_zsq (Δ i)) (hg : S_growths (Δ j)) (ho : S_over (Δ k)) : S_sqBy (run Δ gl (F_squares_by i j k)) := by
  intro P z g0 g1 gs h pz eg hz
  have zs := gr_ok pz
  have gl2 := gr_len z P.length (lft P) (List.length_map _)
  have hi := pz.hi
  rw [eg] at zs gl2
  have sl : 1000 < sizeLine := by decide
  have e1 := hg P z h pz
  rw [eg] at e1
  have ol : ∀ a ∈ g0 :: g1 :: gs, ∀ h, Δ k [fr (zsq a), fr (zsq g1)] h = .ok (fr (zsq a / zsq g1)) h := fun a ha h => ho (zsq a) (zsq g1) 385 385 h (zsq_sz (zs a ha)) (zsq_sz (zs g1 (by simp))) (by decide) hz
  have q0 := ol g0 (by simp)
  generalize hX : P.map fr = X at *
  let h1 : Hh := h ++ [.lst ((g0 :: g1 :: gs).map fz)]
  let L : List D := (g0 :: g1 :: gs).map fun g => fr (zsq g)
  have g1h : h1[h.length]? = some (.lst ((g0 :: g1 :: gs).map fz)) := by simp [h1]
  have lm := lc_map (gs := [(h.length, (g0 :: g1 :: gs).map fz)]) (el := fun d h => ((asn Δ gl (.nm 3) d (wipeD [some (.tup X), some (fz z), none, none] [3]) h).bind fun ρ1 h => (evt Δ gl .no ρ1 h).bind fun b h => if b = true then (ev Δ gl (.call i (.cons (.var 3) .nil)) ρ1 h).bind fun y h => .ok (some y) h else .ok none h).calm) (h := h1)
    (fun p hp => by simp at hp; subst hp; simp [listAt, h1]) (fun d => (match d with | .tup [.tup [.int a, .int b], .tup [.int c, .int d]] => fr (zsq ⟨mkRat a b.toNat, mkRat c d.toNat⟩) | _ => .non)) ((g0 :: g1 :: gs).map fz) [] (fun d hd => by
      obtain ⟨a, ha, rfl⟩ := List.mem_map.mp hd
      have e := hs a 96 h1 (zs a ha) (by decide)
      have ea : fr (zsq ⟨mkRat a.re.num (a.re.den : Int).toNat, mkRat a.im.num (a.im.den : Int).toNat⟩) = fr (zsq a) := by
        rw [Int.toNat_natCast, Int.toNat_natCast, Rat.mkRat_self, Rat.mkRat_self]
      have ew : (match fz a with | .tup [.tup [.int a, .int b], .tup [.int c, .int d]] => fr (zsq ⟨mkRat a b.toNat, mkRat c d.toNat⟩) | _ => .non) = fr (zsq a) := ea
      rw [ew]
      simp [asn, wipeD, List.set, evt, ev, evs, e, R.calm]) (by simp at gl2 ⊢; omega)
  have mp : ((g0 :: g1 :: gs).map fz).map (fun d => (match d with | .tup [.tup [.int a, .int b], .tup [.int c, .int d]] => fr (zsq ⟨mkRat a b.toNat, mkRat c d.toNat⟩) | _ => .non)) = L := by
    rw [List.map_map]
    refine List.map_congr_left fun a _ => ?_
    show fr (zsq ⟨mkRat a.re.num (a.re.den : Int).toNat, mkRat a.im.num (a.im.den : Int).toNat⟩) = fr (zsq a)
    rw [Int.toNat_natCast, Int.toNat_natCast, Rat.mkRat_self, Rat.mkRat_self]
  rw [mp, List.nil_append] at lm
  let h2 : Hh := h1 ++ [.lst L]
  have l1 : h1.length = h.length + 1 := by simp [h1]
  have eA : ev Δ gl (.lc (.call i (.cons (.var 3) .nil)) (.nm 3) (.pln (.call j (.cons (.var 0) (.cons (.var 1) .nil)))) .no [3]) [some (.tup X), some (fz z), none, none] h = .ok (.ref h1.length) h2 := by
    rw [ev, evi, ev]
    simp only [evs, ev, List.getElem?_cons_zero, List.getElem?_cons_succ, R.bind_ok, e1, itemsD, listAt]
    have gg : (h ++ [HS.C.lst ((g0 :: g1 :: gs).map fz)])[h.length]? = some (.lst ((g0 :: g1 :: gs).map fz)) := g1h
    rw [gg]
    exact lm
  have gh2 : h2[h1.length]? = some (.lst L) := get_end
  have eL : L = fr (zsq g0) :: fr (zsq g1) :: gs.map fun g => fr (zsq g) := rfl
  let M : List D := gs.map fun g => fr (zsq g)
  let h3 : Hh := h2 ++ [.lst M]
  have gh3 : h3[h1.length]? = some (.lst L) := by
    show (h2 ++ [_])[_]? = _
    rw [List.getElem?_append_left (by simp [h2]), gh2]
  have l2 : h2.length = h1.length + 1 := by simp [h2]
  have gh3b : h3[h2.length]? = some (.lst M) := get_end
  have ix0' : ∀ hh : Hh, hh[h1.length]? = some (.lst L) → ixD (.ref h1.length) (.int 0) hh = .ok (fr (zsq g0)) hh := fun hh e => by simp [ixD, listAt, e, eL]
  have ix1' : ∀ hh : Hh, hh[h1.length]? = some (.lst L) → ixD (.ref h1.length) (.int 1) hh = .ok (fr (zsq g1)) hh := fun hh e => by simp [ixD, listAt, e, eL]
  let N : List D := gs.map fun g => fr (zsq g / zsq g1)
  have lm2 := lc_map (gs := [(h2.length, M)]) (el := fun d h => ((asn Δ gl (.nm 3) d (wipeD [some (.tup X), some (fz z), some (.ref h1.length), none] [3]) h).bind fun ρ1 h => (evt Δ gl .no ρ1 h).bind fun b h => if b = true then (ev Δ gl (.call k (.cons (.var 3) (.cons (.idx (.var 2) (.int 1)) .nil))) ρ1 h).bind fun y h => .ok (some y) h else .ok none h).calm) (h := h3)
    (fun p hp => by simp at hp; subst hp; simp [listAt, gh3b]) (fun d => (match d with | .tup [.int a, .int b] => fr (mkRat a b.toNat / zsq g1) | _ => .non)) M [] (fun d hd => by
      obtain ⟨a, ha, rfl⟩ := List.mem_map.mp hd
      have e := ol a (by simp [ha]) h3
      have ew : (match fr (zsq a) with | .tup [.int a, .int b] => fr (mkRat a b.toNat / zsq g1) | _ => .non) = fr (zsq a / zsq g1) := by
        show fr (mkRat (zsq a).num ((zsq a).den : Int).toNat / zsq g1) = _
        rw [Int.toNat_natCast, Rat.mkRat_self]
      rw [ew]
      simp [asn, wipeD, List.set, evt, ev, evs, e, ix1' h3 gh3, R.calm]) (by simp [M] at gl2 ⊢; omega)
  have mp2 : M.map (fun d => (match d with | .tup [.int a, .int b] => fr (mkRat a b.toNat / zsq g1) | _ => .non)) = N := by
    show (gs.map _).map _ = _
    rw [List.map_map]
    refine List.map_congr_left fun a _ => ?_
    show fr (mkRat (zsq a).num ((zsq a).den : Int).toNat / zsq g1) = _
    rw [Int.toNat_natCast, Rat.mkRat_self]
  rw [mp2, List.nil_append] at lm2
  let h4 : Hh := h3 ++ [.lst N]
  have eB : ev Δ gl (.lc (.call k (.cons (.var 3) (.cons (.idx (.var 2) (.int 1)) .nil))) (.nm 3) (.pln (.slc (.var 2) (.so (.int 2)) .no)) .no [3]) [some (.tup X), some (fz z), some (.ref h1.length), none] h2 = .ok (.ref h3.length) h4 := by
    rw [ev, evi, ev]
    simp only [ev, evo, getI, List.getElem?_cons_zero, List.getElem?_cons_succ, R.bind_ok, slD, listAt, gh2, eL, cut2, alloc, itemsD]
    have gg : (h2 ++ [HS.C.lst (gs.map fun g => fr (zsq g))])[h2.length]? = some (.lst M) := gh3b
    rw [gg]
    exact lm2
  have key : exs Δ gl (B_squares_by i j k) [some (.tup X), some (fz z), none, none] h = .ok (.rt (sqAns g0 g1 gs)) h4 := by
    unfold B_squares_by
    refine (exs_nx (ex_asg eA)).trans ?_
    simp only [List.set]
    refine exs_rt ?_
    have gh4 : h4[h3.length]? = some (.lst N) := get_end
    have t1 : ev Δ gl (.call k (.cons (.idx (.var 2) (.int 0)) (.cons (.idx (.var 2) (.int 1)) .nil))) [some (.tup X), some (fz z), some (.ref h1.length), none] h2 = .ok (fr (zsq g0 / zsq g1)) h2 := by
      simp only [ev, evs, List.getElem?_cons_zero, List.getElem?_cons_succ, R.bind_ok, ix0' h2 gh2, ix1' h2 gh2, q0]
    have t2 : ev Δ gl (.blt .tuple (.cons (.lc (.call k (.cons (.var 3) (.cons (.idx (.var 2) (.int 1)) .nil))) (.nm 3) (.pln (.slc (.var 2) (.so (.int 2)) .no)) .no [3]) .nil)) [some (.tup X), some (fz z), some (.ref h1.length), none] h2 = .ok (.tup N) h4 := by
      rw [ev, evs, eB]
      simp only [evs, R.bind_ok, bltD, listAt, gh4]
    rw [ev, evs, t1, R.bind_ok, evs, t2]
    simp [evs, lineOk, sizeLine, sqAns, N]
  have e9 : h4 = h ++ [.lst ((g0 :: g1 :: gs).map fz), .lst L, .lst M, .lst N] := by simp [h4, h3, h2, h1]
  simp only [run, F_squares_by, List.length_cons, List.length_nil, if_true, List.map_cons, List.map_nil, List.replicate, List.cons_append, List.nil_append]
  rw [key, e9]
  exact tidy_pre (ans_flat g0 g1 gs)
theorem s_squares_at {i j k : Nat} (h1 : S_cstart (Δ i)) (h2 : S_slope (Δ j)) (h3 : S_sqBy (Δ k)) : S_sqAt (run Δ gl (F_squares_at i j k)) := by
  intro P Q q z g0 g1 gs h eP hq pz eg
  have hi := pz.hi
  have e1 := h1 Q q z h (by rw [eP] at hi; simp at hi; omega) hq
  rw [← eP] at e1
  have e2 := h2 P z g0 g1 gs h pz eg
  by_cases hz : zsq g1 = 0
  · rw [if_pos hz] at e2 ⊢
    generalize P.map fr = X at *
    simp [run, F_squares_at, B_squares_at, exs, ex, ev, evs, e1, e2, R.toF]
  · rw [if_neg hz] at e2 ⊢
    have e3 := h3 P z g0 g1 gs h pz eg hz
    generalize P.map fr = X at *
    simp [run, F_squares_at, B_squares_at, exs, ex, ev, evs, e1, e2, e3, R.toF]
    exact tidy_self (ans_flat g0 g1 gs)
end
end HS

/-! k40: what the law draws. -/
namespace HS
open PySem L2
def B_law_low (f__law_any_of f__law_nip : Nat) : Ss :=
  (.cons (.asg (.nm 1) (.call f__law_any_of (.cons (.var 0) (.cons (.tup (.cons (.int 1) (.cons (.int 2) (.cons (.int 3) (.cons (.int 3) (.cons (.int 12) .nil)))))) .nil)))) 
  (.cons (.ret (.bin .sub (.call f__law_nip (.cons (.var 0) (.cons (.bin .add (.bin .mul (.int 2) (.var 1)) (.int 1)) .nil))) (.var 1))) .nil))
def F_law_low (f__law_any_of f__law_nip : Nat) : Df := ⟨1, 2, B_law_low f__law_any_of f__law_nip⟩
def B_law_part (f__law_low f__law_frac f__law_any_of : Nat) : Ss :=
  (.cons (.asg (.nm 1) (.call f__law_low (.cons (.var 0) .nil))) 
  (.cons (.ret (.call f__law_frac (.cons (.var 1) (.cons (.call f__law_any_of (.cons (.var 0) (.cons (.tup (.cons (.int 1) (.cons (.int 1) (.cons (.int 2) (.cons (.int 3) .nil))))) .nil))) .nil)))) .nil))
def F_law_part (f__law_low f__law_frac f__law_any_of : Nat) : Df := ⟨1, 2, B_law_part f__law_low f__law_frac f__law_any_of⟩
def L_law_poly_0 (f__law_part : Nat) : Ss :=
    (.cons (.exp (.app (.var 2) (.call f__law_part (.cons (.var 0) .nil)))) .nil)
def B_law_poly (f__law_nip f__law_part : Nat) : Ss :=
  (.cons (.asg (.nm 2) (.lst .nil)) 
  (.cons (.fr (.nm 3) (.rng (.cons (.bin .add (.int 1) (.call f__law_nip (.cons (.var 0) (.cons (.var 1) .nil)))) .nil)) (L_law_poly_0 f__law_part)) 
  (.cons (.asg (.nm 4) (.call f__law_part (.cons (.var 0) .nil))) 
  (.cons (.ret (.blt .tuple (.cons (.bin .add (.var 2) (.lst (.cons (.ife (.cmp .NotEq (.idx (.var 4) (.int 0)) (.int 0)) (.var 4) (.tup (.cons (.int 1) (.cons (.int 1) .nil)))) .nil))) .nil))) .nil))))
def F_law_poly (f__law_nip f__law_part : Nat) : Df := ⟨2, 5, B_law_poly f__law_nip f__law_part⟩
def B_law_point (f__law_part f__law_nip : Nat) : Ss :=
  (.cons (.asg (.tup (.cons (.nm 1) (.cons (.nm 2) .nil))) (.tup (.cons (.call f__law_part (.cons (.var 0) .nil)) (.cons (.call f__law_part (.cons (.var 0) .nil)) .nil)))) 
  (.cons (.ret (.tup (.cons (.var 1) (.cons (.ife (.cmp .Gt (.call f__law_nip (.cons (.var 0) (.cons (.int 4) .nil))) (.int 0)) (.var 2) (.tup (.cons (.int 0) (.cons (.int 1) .nil)))) .nil)))) .nil))
def F_law_point (f__law_part f__law_nip : Nat) : Df := ⟨1, 3, B_law_point f__law_part f__law_nip⟩
def B_law_squares (f__law_told_at f__law_square f__law_div : Nat) : Ss :=
  (.cons (.asg (.nm 2) (.call f__law_told_at (.cons (.var 0) (.cons (.var 1) .nil)))) 
  (.cons (.ife (.or (.cmp .Lt (.blt .len (.cons (.var 2) .nil)) (.int 2)) (.cmp .Eq (.idx (.call f__law_square (.cons (.idx (.var 2) (.int 1)) .nil)) (.int 0)) (.int 0))) (
    (.cons (.ret .non) .nil)) (.nil)) 
  (.cons (.asg (.nm 3) (.call f__law_square (.cons (.idx (.var 2) (.int 1)) .nil))) 
  (.cons (.ret (.tup (.cons (.call f__law_div (.cons (.call f__law_square (.cons (.idx (.var 2) (.int 0)) .nil)) (.cons (.var 3) .nil))) (.cons (.lc (.call f__law_div (.cons (.call f__law_square (.cons (.var 4) .nil)) (.cons (.var 3) .nil))) (.nm 4) (.pln (.slc (.var 2) (.so (.int 2)) .no)) .no [4]) .nil)))) .nil))))
def F_law_squares (f__law_told_at f__law_square f__law_div : Nat) : Df := ⟨2, 5, B_law_squares f__law_told_at f__law_square f__law_div⟩
def L_law40_0 (f_squares_at : Nat) : Ss :=
      (.cons (.ife (.cmp .NotEq (.told (.rep 0 3 "lost" "odd") (.call f_squares_at (.cons (.var 2) (.cons (.var 7) .nil)))) (.var 5)) (
        (.cons (.ret (.bl false)) .nil)) (.nil)) .nil)
def L_law40_1 (f__law_poly f__law_point f__law_nip f__law_any_of f__law_squares f_squares_at : Nat) : Ss :=
    (.cons (.asg (.tup (.cons (.nm 2) (.cons (.nm 3) .nil))) (.tup (.cons (.call f__law_poly (.cons (.var 0) (.cons (.int 6) .nil))) (.cons (.call f__law_point (.cons (.var 0) .nil)) .nil)))) 
    (.cons (.ife (.cmp .Eq (.call f__law_nip (.cons (.var 0) (.cons (.int 4) .nil))) (.int 0)) (
      (.cons (.asg (.nm 2) (.bin .add (.bin .add (.tup (.cons (.idx (.var 2) (.int 0)) .nil)) (.bin .mul (.tup (.cons (.tup (.cons (.int 0) (.cons (.int 1) .nil))) .nil)) (.call f__law_nip (.cons (.var 0) (.cons (.int 4) .nil))))) (.tup (.cons (.idx (.var 2) (.neg (.int 1))) .nil)))) 
      (.cons (.asg (.nm 3) (.call f__law_any_of (.cons (.var 0) (.cons (.tup (.cons (.var 3) (.cons (.tup (.cons (.tup (.cons (.int 0) (.cons (.int 1) .nil))) (.cons (.tup (.cons (.int 0) (.cons (.int 1) .nil))) .nil))) (.cons (.tup (.cons (.tup (.cons (.int 1) (.cons (.int 1) .nil))) (.cons (.tup (.cons (.int 0) (.cons (.int 1) .nil))) .nil))) .nil)))) .nil)))) .nil))) (.nil)) 
    (.cons (.asg (.nm 4) (.call f__law_squares (.cons (.var 2) (.cons (.var 3) .nil)))) 
    (.cons (.asg (.nm 5) (.ife (.cmp .Is (.var 4) .non) (.str "lost") (.blt .repr (.cons (.tup (.cons (.idx (.var 4) (.int 0)) (.cons (.blt .tuple (.cons (.idx (.var 4) (.int 1)) .nil)) .nil))) .nil)))) 
    (.cons (.asg (.nm 6) (.tup (.cons (.idx (.var 3) (.int 0)) (.cons (.tup (.cons (.bin .sub (.int 0) (.idx (.idx (.var 3) (.int 1)) (.int 0))) (.cons (.idx (.idx (.var 3) (.int 1)) (.int 1)) .nil))) .nil)))) 
    (.cons (.fr (.nm 7) (.pln (.tup (.cons (.var 3) (.cons (.var 6) .nil)))) (L_law40_0 f_squares_at)) 
    (.cons (.ife (.cmp .NotEq (.told (.rep 0 3 "lost" "odd") (.callk f_squares_at .nil [1, 0] (.cons (.var 3) (.cons (.var 2) .nil)))) (.var 5)) (
      (.cons (.ret (.bl false)) .nil)) (.nil)) .nil)))))))
def B_law40 (f__law_poly f__law_point f__law_nip f__law_any_of f__law_squares f_squares_at : Nat) : Ss :=
  (.cons (.fr (.nm 1) (.rng (.cons (.int 2) .nil)) (L_law40_1 f__law_poly f__law_point f__law_nip f__law_any_of f__law_squares f_squares_at)) 
  (.cons (.ret (.bl true)) .nil))
def F_law40 (f__law_poly f__law_point f__law_nip f__law_any_of f__law_squares f_squares_at : Nat) : Df := ⟨1, 8, B_law40 f__law_poly f__law_point f__law_nip f__law_any_of f__law_squares f_squares_at⟩
theorem Up.put {n N m : Nat} {h0 h : Hh} {c : C} (u : Up n N h0 h) (hm : h0.length ≤ m) (hn : m ≠ n) : Up n N h0 (h.set m c) := by
  refine ⟨?_, by rw [List.length_set]; exact u.len, fun j hj hl => ?_⟩
  · obtain ⟨xs, e, x⟩ := u.at_
    exact ⟨xs, by rw [List.getElem?_set_ne hn]; exact e, x⟩
  · rw [List.getElem?_set_ne (by omega)]
    exact u.oth j hj hl
theorem Up.app {n N : Nat} {h0 h t : Hh} (u : Up n N h0 h) : Up n N h0 (h ++ t) := by
  refine ⟨u.at_.app, by rw [List.length_append]; have := u.len; omega, fun j hj hl => ?_⟩
  have := u.len
  rw [List.getElem?_append_left (by omega)]
  exact u.oth j hj hl
def S_low (f : Fn) : Prop := ∀ (n N : Nat) h, UAt n N h → N ≤ 900000 → ∃ v h', f [.ref n] h = .ok (.int v) h' ∧ -12 ≤ v ∧ v ≤ 12 ∧ Up n (N + 2) h h'
def S_part (f : Fn) : Prop := ∀ (n N : Nat) h, UAt n N h → N ≤ 900000 → ∃ q h', f [.ref n] h = .ok (fr q) h' ∧ Pt q ∧ Up n (N + 3) h h'
def S_poly (f : Fn) : Prop := ∀ (n N : Nat) h, UAt n N h → N ≤ 800000 → ∃ (p : Rat) (Q : List Rat) (q : Rat) (h' : Hh), f [.ref n, .int 6] h = .ok (.tup (((p :: Q) ++ [q]).map fr)) h' ∧ q ≠ 0 ∧ (∀ x ∈ (p :: Q) ++ [q], Pt x) ∧ Q.length ≤ 5 ∧ Up n (N + 30) h h'
def S_pt (f : Fn) : Prop := ∀ (n N : Nat) h, UAt n N h → N ≤ 800000 → ∃ z h', f [.ref n] h = .ok (fz z) h' ∧ Gz 1 72 z ∧ Up n (N + 10) h h'
def S_lsq (f : Fn) : Prop := ∀ (P : List Rat) (z g0 g1 : Z2) (gs : List Z2) h, Pz P z → gr z P.length (lft P) = g0 :: g1 :: gs → if zsq g1 = 0 then f [.tup (P.map fr), fz z] h = .ok .non h else ∃ E m, f [.tup (P.map fr), fz z] h = .ok (.tup [fr (zsq g0 / zsq g1), .ref m]) (h ++ E) ∧ (h ++ E)[m]? = some (.lst (gs.map fun g => fr (zsq g / zsq g1)))
theorem Pt.int {a d : Int} (ha : -12 ≤ a) (ha2 : a ≤ 12) (hd : d = 1 ∨ d = 2 ∨ d = 3) : Pt (Rat.divInt a d) := by
  have e6 : ic (6 ^ 1) = 6 := rfl
  rcases hd with rfl | rfl | rfl
  · refine ⟨a * 6, by omega, ?_⟩
    rw [e6, Rat.divInt_eq_div, Rat.intCast_mul]
    show (a : Rat) / 1 = (a : Rat) * 6 / 6
    grind
  · refine ⟨a * 3, by omega, ?_⟩
    rw [e6, Rat.divInt_eq_div, Rat.intCast_mul]
    show (a : Rat) / 2 = (a : Rat) * 3 / 6
    grind
  · refine ⟨a * 2, by omega, ?_⟩
    rw [e6, Rat.divInt_eq_div, Rat.intCast_mul]
    show (a : Rat) / 3 = (a : Rat) * 2 / 6
    grind
theorem Pt.zero : Pt 0 := ⟨0, by decide, by show (0 : Rat) = (0 : Rat) / _; rw [Rat.div_def, Rat.zero_mul]⟩
theorem Pt.one : Pt 1 := ⟨6, by decide, by show (1 : Rat) = (6 : Rat) / 6; grind⟩
section
variable {Δ : Nat → Fn} {gl : Nat → D}
theorem s_law_low {i j : Nat} (ha : S_any (Δ i)) (hn : S_nip (Δ j)) : S_low (run Δ gl (F_law_low i j)) := by
  intro n N h ua hN
  obtain ⟨d, hd, h1, e1, u1⟩ := ha n N [.int 1, .int 2, .int 3, .int 3, .int 12] h ua (by omega) (by simp) (by decide) (by simp)
  obtain ⟨s, rfl, s0, s1⟩ : ∃ s : Int, d = .int s ∧ 1 ≤ s ∧ s ≤ 12 := by
    simp only [List.mem_cons, List.not_mem_nil, or_false] at hd
    rcases hd with rfl | rfl | rfl | rfl | rfl <;> exact ⟨_, rfl, by decide, by decide⟩
  obtain ⟨w, h2, e2, w0, w1, u2⟩ := hn n (N + 1) (2 * s + 1) h1 u1.at_ (by omega) (by omega) (by omega)
  obtain ⟨h9, t1, t2⟩ := tidy_up (d := .int (w - s)) rfl ua (show N ≤ N + 2 by omega) ((u1.trans u2).mono (by omega))
  have m1 : mulOk 2 s = true := mulOk_of (B := 2) (C := 4) (bts (by decide)) (by unfold Bt; omega) (by decide)
  refine ⟨w - s, h9, ?_, by omega, by omega, t2⟩
  simp [run, F_law_low, B_law_low, exs, ex, ev, evs, asn, R.calm, List.set, bop, lineOk, sizeLine, e1, e2, m1, t1]
theorem s_law_part {i j k : Nat} (hl : S_low (Δ i)) (hw : S_with (Δ j)) (ha : S_any (Δ k)) : S_part (run Δ gl (F_law_part i j k)) := by
  intro n N h ua hN
  obtain ⟨a, h1, e1, a0, a1, u1⟩ := hl n N h ua hN
  obtain ⟨d, hd, h2, e2, u2⟩ := ha n (N + 2) [.int 1, .int 1, .int 2, .int 3] h1 u1.at_ (by omega) (by simp) (by decide) (by simp)
  obtain ⟨s, rfl, hs⟩ : ∃ s : Int, d = .int s ∧ (s = 1 ∨ s = 2 ∨ s = 3) := by
    simp only [List.mem_cons, List.not_mem_nil, or_false] at hd
    rcases hd with rfl | rfl | rfl | rfl <;> exact ⟨_, rfl, by decide⟩
  have e3 := hw a s 4 h2 (by omega) (by unfold Bt; omega) (by decide)
  obtain ⟨h9, t1, t2⟩ := tidy_up (d := fr (Rat.divInt a s)) (fr_flat _) ua (show N ≤ N + 3 by omega) ((u1.trans u2).mono (by omega))
  refine ⟨_, h9, ?_, Pt.int a0 a1 hs, t2⟩
  simp [run, F_law_part, B_law_part, exs, ex, ev, evs, asn, R.calm, List.set, lineOk, sizeLine, e1, e2, e3, t1]
theorem poly_loop {tg : D → En → Hh → R En} {bd : En → Hh → R F} {St : Option D → En} {n m : Nat} (hm : m ≠ n) {h0 : Hh} (h0m : h0.length ≤ m) (htg : ∀ d z h, tg d (St z) h = .ok (St (some d)) h)
    (hb : ∀ (N : Nat) (Q : List Rat) (z : Option D) h, UAt n N h → N ≤ 900000 → h[m]? = some (.lst (Q.map fr)) → Q.length < 100 → ∃ q h1, bd (St z) h = .ok (.nx (St z)) (h1.set m (.lst ((Q ++ [q]).map fr))) ∧ Pt q ∧ Up n (N + 3) h h1) :
    ∀ (items : List D) (N : Nat) (Q : List Rat) (z : Option D) h, Up n N h0 h → N + 3 * items.length ≤ 900000 → h[m]? = some (.lst (Q.map fr)) → Q.length + items.length < 100 →
      ∃ Q2 z' h', forL [] tg bd items (St z) h = .ok (.nx (St z')) h' ∧ h'[m]? = some (.lst ((Q ++ Q2).map fr)) ∧ Q2.length = items.length ∧ (∀ x ∈ Q2, Pt x) ∧ Up n (N + 3 * items.length) h0 h'
  | [], N, Q, z, h, u, hN, hq, hl => ⟨[], z, h, by simp [forL, gsOk_nil], by simpa using hq, rfl, by simp, u⟩
  | d :: items, N, Q, z, h, u, hN, hq, hl => by
    simp only [List.length_cons] at hN hl
    obtain ⟨q, h1, e1, pq, u1⟩ := hb N Q (some d) h u.at_ (by omega) hq (by omega)
    have ml : m < h1.length := Nat.lt_of_lt_of_le (List.getElem?_eq_some_iff.mp hq).1 u1.len
    obtain ⟨Q2, z', h', e2, g2, l2, p2, u2⟩ := poly_loop hm h0m htg hb items (N + 3) (Q ++ [q]) (some d) (h1.set m (.lst ((Q ++ [q]).map fr))) ((u.trans u1).put h0m hm) (by omega) (by rw [List.getElem?_set_self ml]) (by simp; omega)
    refine ⟨q :: Q2, z', h', ?_, by simpa using g2, by simp [l2], ?_, ?_⟩
    · unfold forL
      rw [if_pos (gsOk_nil _), htg]
      simp only [R.calm_ok, R.bind_ok, e1]
      exact e2
    · intro x hx
      rcases List.mem_cons.mp hx with rfl | hx
      · exact pq
      · exact p2 x hx
    · exact u2.mono (by simp only [List.length_cons]; omega)
theorem s_law_poly {i j : Nat} (hn : S_nip (Δ i)) (hp : S_part (Δ j)) : S_poly (run Δ gl (F_law_poly i j)) := by
  intro n N h ua hN
  have nl := ua.lt
  let m := h.length
  obtain ⟨v, h2, e2, v0, v1, u2⟩ := hn n N 6 (h ++ [.lst []]) ua.app (by omega) (by decide) (by decide)
  obtain ⟨k, rfl⟩ : ∃ k : Nat, v = k := ⟨v.toNat, by omega⟩
  have gm2 : h2[m]? = some (.lst (([] : List Rat).map fr)) := by
    rw [u2.oth m (by omega) (by simp [m])]
    simp [m]
  have u02 : Up n (N + 1) h h2 := ((Up.refl ua).app (t := [.lst []])).trans u2
  have sl : 1000 < sizeLine := by decide
  obtain ⟨Q2, z', h3, e3, g3, l3, p3, u3⟩ := poly_loop (tg := fun d ρ h => asn Δ gl (.nm 3) d ρ h) (bd := fun ρ h => exs Δ gl (L_law_poly_0 j) ρ h) (St := fun z => [some (.ref n), some (.int 6), some (.ref m), z, none]) (n := n) (m := m) (by omega) (h0 := h) (Nat.le_refl _) (fun d z h => by simp [asn, List.set])
    (fun N Q z h ua hN hq hl => by
      obtain ⟨q, h1, e1, pq, u1⟩ := hp n N h ua hN
      refine ⟨q, h1, ?_, pq, u1⟩
      have g1 : h1[m]? = some (.lst (Q.map fr)) := by
        rw [u1.oth m (by omega) (List.getElem?_eq_some_iff.mp hq).1, hq]
      have ql : (Q.map fr).length < sizeLine := Nat.lt_of_le_of_lt (by simp; omega) sl
      have e9 : (Q ++ [q]).map fr = Q.map fr ++ [fr q] := by simp
      rw [e9]
      unfold L_law_poly_0
      refine (exs_nx (ex_exp (d := .non) (h1 := h1.set m (.lst (Q.map fr ++ [fr q]))) ?_)).trans ?_
      · simp only [ev, evs, List.getElem?_cons_zero, List.getElem?_cons_succ, R.bind_ok, lstOk, hq, e1, app, g1, ql, if_true]
      · rw [exs]) (upFrom 0 (k + 1)) (N + 1) [] none h2 u02 (by simp [upFrom]; omega) gm2 (by simp [upFrom]; omega)
  have lu : (upFrom 0 (k + 1)).length = k + 1 := by simp [upFrom]
  rw [lu] at l3 u3
  simp only [List.nil_append] at g3
  obtain ⟨q, h4, e4, pq, u4⟩ := hp n (N + 1 + 3 * (k + 1)) h3 u3.at_ (by omega)
  have ml3 : m < h3.length := (List.getElem?_eq_some_iff.mp g3).1
  have g4 : h4[m]? = some (.lst (Q2.map fr)) := by rw [u4.oth m (by omega) ml3, g3]
  have u04 := u3.trans u4
  -- the last part
  obtain ⟨q9, hq9, pq9, eq9⟩ : ∃ q9 : Rat, q9 ≠ 0 ∧ Pt q9 ∧ ev Δ gl (.ife (.cmp .NotEq (.idx (.var 4) (.int 0)) (.int 0)) (.var 4) (.tup (.cons (.int 1) (.cons (.int 1) .nil)))) [some (.ref n), some (.int 6), some (.ref m), z', some (fr q)] h4 = .ok (fr q9) h4 := by
    have zz : ixD (fr q) (.int 0) h4 = .ok (.int q.num) h4 := by simp [fr, ixD]
    by_cases hz : q.num = 0
    · refine ⟨1, by decide, Pt.one, ?_⟩
      simp [ev, evs, zz, cmpD, eqD, hz, lineOk, sizeLine]
      rfl
    · refine ⟨q, fun z => hz (by rw [z]; rfl), pq, ?_⟩
      simp [ev, evs, zz, cmpD, eqD, hz]
  obtain ⟨p, Q, rfl⟩ : ∃ p Q, Q2 = p :: Q := by
    cases Q2 with
    | nil => simp at l3
    | cons p Q => exact ⟨p, Q, rfl⟩
  let h5 : Hh := h4 ++ [.lst [fr q9], .lst ((p :: Q ++ [q9]).map fr)]
  have l4 : h4.length ≥ m + 1 := by have := u4.len; omega
  have u05 : Up n (N + 30) h h5 := (u04.app (t := [.lst [fr q9], .lst ((p :: Q ++ [q9]).map fr)])).mono (by omega)
  have sm : small62 (((k + 1 : Nat)) : Int) = true := small_nat (by omega)
  have key : exs Δ gl (B_law_poly i j) [some (.ref n), some (.int 6), none, none, none] h = .ok (.rt (.tup ((p :: Q ++ [q9]).map fr))) h5 := by
    unfold B_law_poly
    refine (exs_nx (ex_asg (d := .ref m) (h1 := h ++ [.lst []]) ?_)).trans ?_
    · simp [ev, evs, alloc, lineOk, sizeLine, m]
    simp only [List.set]
    refine (exs_nx (ex_for (p := upFrom 0 (k + 1)) (gs := []) (h1 := h2) ?_ e3)).trans ?_
    · refine evi_rng1 (k := k + 1) ?_ sm
      have : (1 : Int) + (k : Int) = ((k + 1 : Nat) : Int) := by omega
      simp only [evs, ev, List.getElem?_cons_zero, List.getElem?_cons_succ, R.bind_ok, e2, bop, this]
    refine (exs_nx (ex_asg (d := fr q) (h1 := h4) ?_)).trans ?_
    · simp only [ev, evs, List.getElem?_cons_zero, R.bind_ok, e4]
    simp only [List.set]
    refine exs_rt ?_
    have t1 : ev Δ gl (.lst (.cons (.ife (.cmp .NotEq (.idx (.var 4) (.int 0)) (.int 0)) (.var 4) (.tup (.cons (.int 1) (.cons (.int 1) .nil)))) .nil)) [some (.ref n), some (.int 6), some (.ref m), z', some (fr q)] h4 = .ok (.ref h4.length) (h4 ++ [.lst [fr q9]]) := by
      rw [ev, evs, eq9]
      simp only [evs, R.bind_ok, alloc]
      simp [lineOk, sizeLine]
    have g5 : (h4 ++ [HS.C.lst [fr q9]])[m]? = some (.lst ((p :: Q).map fr)) := by rw [List.getElem?_append_left (by omega), g4]
    have g6 : (h4 ++ [HS.C.lst [fr q9]])[h4.length]? = some (.lst [fr q9]) := get_end
    have lo : lineOk (((p :: Q).map fr).length + [fr q9].length) = true := by simp [lineOk, sizeLine] at l3 ⊢; omega
    have t2 : bop .add (.ref m) (.ref h4.length) (h4 ++ [HS.C.lst [fr q9]]) = .ok (.ref (h4.length + 1)) h5 := by
      simp only [bop, g5, g6, lo, if_true, alloc]
      simp [h5]
    have g7 : h5[h4.length + 1]? = some (.lst ((p :: Q ++ [q9]).map fr)) := by simp [h5]
    rw [ev, evs, ev, ev]
    simp only [List.getElem?_cons_zero, List.getElem?_cons_succ, R.bind_ok, t1, t2, evs, bltD, listAt, g7]
  obtain ⟨h9, t1, t2⟩ := tidy_up (d := .tup ((p :: Q ++ [q9]).map fr)) (flat_frs _) ua (show N ≤ N + 30 by omega) u05
  refine ⟨p, Q, q9, h9, ?_, hq9, fun x hx => ?_, by simp at l3; omega, t2⟩
  · simp only [run, F_law_poly, List.length_cons, List.length_nil, if_true, List.map_cons, List.map_nil, List.replicate, List.cons_append, List.nil_append]
    rw [key]
    exact t1
  · rcases List.mem_append.mp hx with hx | hx
    · exact p3 x hx
    · rw [List.mem_singleton.mp hx]
      exact pq9
theorem s_law_point {i j : Nat} (hp : S_part (Δ i)) (hn : S_nip (Δ j)) : S_pt (run Δ gl (F_law_point i j)) := by
  intro n N h ua hN
  obtain ⟨a, h1, e1, pa, u1⟩ := hp n N h ua (by omega)
  obtain ⟨b, h2, e2, pb, u2⟩ := hp n (N + 3) h1 u1.at_ (by omega)
  obtain ⟨v, h3, e3, v0, v1, u3⟩ := hn n (N + 6) 4 h2 u2.at_ (by omega) (by decide) (by decide)
  have u := ((u1.trans u2).trans u3).mono (show N + 6 + 1 ≤ N + 10 by omega)
  by_cases hv : 0 < v
  · obtain ⟨h9, t1, t2⟩ := tidy_up (d := fz ⟨a, b⟩) rfl ua (show N ≤ N + 10 by omega) u
    refine ⟨⟨a, b⟩, h9, ?_, ⟨pa, pb⟩, t2⟩
    have t1 : tidy h (.tup [fr a, fr b]) h3 = .ok (.tup [fr a, fr b]) h9 := t1
    simp [run, F_law_point, B_law_point, exs, ex, ev, evs, asn, asns, R.calm, List.set, lineOk, sizeLine, e1, e2, e3, cmpD, asBl, hv, t1]
    rfl
  · obtain ⟨h9, t1, t2⟩ := tidy_up (d := fz ⟨a, 0⟩) rfl ua (show N ≤ N + 10 by omega) u
    refine ⟨⟨a, 0⟩, h9, ?_, ⟨pa, Pt.zero⟩, t2⟩
    have t1 : tidy h (.tup [fr a, .tup [.int 0, .int 1]]) h3 = .ok (.tup [fr a, .tup [.int 0, .int 1]]) h9 := t1
    simp [run, F_law_point, B_law_point, exs, ex, ev, evs, asn, asns, R.calm, List.set, lineOk, sizeLine, e1, e2, e3, cmpD, asBl, hv, t1]
    rfl
end
end HS

/-! k40: the law's turn. -/
namespace HS
open PySem L2
def dueZ (g0 g1 : Z2) (gs : List Z2) : Str := if zsq g1 = 0 then "lost" else shownD [] (sqAns g0 g1 gs)
theorem ans_repr {g0 g1 : Z2} {gs : List Z2} (h : Hh) (zs : ∀ a ∈ g0 :: g1 :: gs, Zs 96 a) (hl : gs.length ≤ 7) (hz : zsq g1 ≠ 0) : bltD .repr [sqAns g0 g1 gs] h = .ok (.str (shownD [] (sqAns g0 g1 gs))) h := by
  have s1 := zsq_sz (zs g1 (by simp))
  have sd : ∀ a ∈ g0 :: g1 :: gs, Sz 770 (zsq a / zsq g1) := fun a ha => ((zsq_sz (zs a ha)).div s1 hz).mono (by decide)
  have r : Rq (deepR h 8) (sqAns g0 g1 gs) 20000 3 := by
    unfold sqAns
    refine (Rq.tup (w := 15000) (k := 2) (Rqs.cons (w1 := 1551) (w2 := 12000) ((Rq.fr (k := 0) (sd g0 (by simp)) (by decide)).mono (by decide) (by decide)) (Rqs.cons (w1 := 11000) (w2 := 0) ((Rq.tup (w := 10871) (k := 1) (Rqs.all (w1 := 1551) (fun x hx => ?_) ?_)).mono (by decide) (by decide)) .nil (by decide)) (by decide))).mono (by decide) (by decide)
    · obtain ⟨a, ha, rfl⟩ := List.mem_map.mp hx
      exact (Rq.fr (k := 0) (sd a (by simp [ha])) (by decide)).mono (by decide) (by decide)
    · simp
      omega
  rw [repr_ok r (by decide) (by decide), shown_flat (h := h) (h' := []) (ans_flat g0 g1 gs)]
theorem bltD_tuple_ref {h : Hh} {m : Nat} {xs : List D} (e : h[m]? = some (.lst xs)) : bltD .tuple [.ref m] h = .ok (.tup xs) h := by
  simp [bltD, listAt, e]
theorem tidy_pair {h h' : Hh} {q : Rat} {m : Nat} : tidy h (.tup [fr q, .ref m]) h' = .ok (.tup [fr q, .ref m]) h' := by
  unfold tidy
  rw [if_neg]
  intro z
  have : ((fr q).flat && ((D.ref m).flat && true)) = true := z.1
  simp [D.flat] at this
section
variable {Δ : Nat → Fn} {gl : Nat → D}
set_option maxHeartbeats 1000000 in
theorem s_law_squares {i j k : Nat} (ht : S_growths (Δ i)) (hs : S_zsq (Δ j)) (hd : S_over (Δ k)) : S_lsq (run Δ gl (F_law_squares i j k)) := by
  intro P z g0 g1 gs h pz eg
  have zs := gr_ok pz
  have gl2 := gr_len z P.length (lft P) (List.length_map _)
  have hi := pz.hi
  rw [eg] at zs gl2
  have sl : 1000 < sizeLine := by decide
  have e1 := ht P z h pz
  rw [eg] at e1
  have sq : ∀ a ∈ g0 :: g1 :: gs, ∀ h, Δ j [fz a] h = .ok (fr (zsq a)) h := fun a ha h => hs a 96 h (zs a ha) (by decide)
  let h1 : Hh := h ++ [.lst ((g0 :: g1 :: gs).map fz)]
  have gh1 : h1[h.length]? = some (.lst ((g0 :: g1 :: gs).map fz)) := by simp [h1]
  have i0 : ixD (.ref h.length) (.int 0) h1 = .ok (fz g0) h1 := by simp [ixD, listAt, gh1]
  have i1 : ixD (.ref h.length) (.int 1) h1 = .ok (fz g1) h1 := by simp [ixD, listAt, gh1]
  have q0 := sq g0 (by simp)
  have q1 := sq g1 (by simp)
  generalize hX : P.map fr = X at *
  have zz : ∀ (q : Rat) h, ixD (fr q) (.int 0) h = .ok (.int q.num) h := fun q h => by simp [fr, ixD]
  have st1 : ∀ (ss : Ss) (r : R F), exs Δ gl ss [some (.tup X), some (fz z), some (.ref h.length), none, none] h1 = r → exs Δ gl (.cons (.asg (.nm 2) (.call i (.cons (.var 0) (.cons (.var 1) .nil)))) ss) [some (.tup X), some (fz z), none, none, none] h = r := fun ss r q => by
    refine (exs_nx (ex_asg (d := .ref h.length) (h1 := h1) ?_)).trans ?_
    · simp only [ev, evs, List.getElem?_cons_zero, List.getElem?_cons_succ, R.bind_ok, e1]
      rfl
    · simpa only [List.set] using q
  have l2 : decide ((((g0 :: g1 :: gs).map fz).length : Int) < 2) = false := by simp; omega
  have cnd : ev Δ gl (.or (.cmp .Lt (.blt .len (.cons (.var 2) .nil)) (.int 2)) (.cmp .Eq (.idx (.call j (.cons (.idx (.var 2) (.int 1)) .nil)) (.int 0)) (.int 0))) [some (.tup X), some (fz z), some (.ref h.length), none, none] h1 = .ok (.bl (decide ((zsq g1).num = 0))) h1 := by
    simp only [ev, evs, List.getElem?_cons_zero, List.getElem?_cons_succ, R.bind_ok, bltD, listAt, gh1, cmpD, l2, i1, q1, zz, eqD]
  split
  · rename_i hz
    rw [decide_eq_true (by rw [hz]; rfl)] at cnd
    have key : exs Δ gl (B_law_squares i j k) [some (.tup X), some (fz z), none, none, none] h = .ok (.rt .non) h1 := by
      unfold B_law_squares
      refine st1 _ _ ?_
      rw [exs, ex, cnd]
      simp [asBl, exs, ex, ev, R.toF]
    exact (run_rt (f := F_law_squares i j k) rfl key).trans (tidy_pre rfl)
  · rename_i hz
    rw [decide_eq_false (fun z => hz (Rat.num_eq_zero.mp z))] at cnd
    have ol : ∀ a ∈ g0 :: g1 :: gs, ∀ h, Δ k [fr (zsq a), fr (zsq g1)] h = .ok (fr (zsq a / zsq g1)) h := fun a ha h => hd (zsq a) (zsq g1) 385 385 h (zsq_sz (zs a ha)) (zsq_sz (zs g1 (by simp))) (by decide) hz
    let h2 : Hh := h1 ++ [.lst (gs.map fz)]
    have gh2 : h2[h1.length]? = some (.lst (gs.map fz)) := get_end
    let N : List D := gs.map fun g => fr (zsq g / zsq g1)
    have lm := lc_map (gs := [(h1.length, gs.map fz)]) (el := fun d h => ((asn Δ gl (.nm 4) d (wipeD [some (.tup X), some (fz z), some (.ref h.length), some (fr (zsq g1)), none] [4]) h).bind fun ρ1 h => (evt Δ gl .no ρ1 h).bind fun b h => if b = true then (ev Δ gl (.call k (.cons (.call j (.cons (.var 4) .nil)) (.cons (.var 3) .nil))) ρ1 h).bind fun y h => .ok (some y) h else .ok none h).calm) (h := h2)
      (fun p hp => by simp at hp; subst hp; simp [listAt, gh2]) (fun d => (match d with | .tup [.tup [.int a, .int b], .tup [.int c, .int d]] => fr (zsq ⟨mkRat a b.toNat, mkRat c d.toNat⟩ / zsq g1) | _ => .non)) (gs.map fz) [] (fun d hd => by
        obtain ⟨a, ha, rfl⟩ := List.mem_map.mp hd
        have e := sq a (by simp [ha]) h2
        have e' := ol a (by simp [ha]) h2
        have ew : (match fz a with | .tup [.tup [.int a, .int b], .tup [.int c, .int d]] => fr (zsq ⟨mkRat a b.toNat, mkRat c d.toNat⟩ / zsq g1) | _ => .non) = fr (zsq a / zsq g1) := by
          show fr (zsq ⟨mkRat a.re.num (a.re.den : Int).toNat, mkRat a.im.num (a.im.den : Int).toNat⟩ / zsq g1) = _
          rw [Int.toNat_natCast, Int.toNat_natCast, Rat.mkRat_self, Rat.mkRat_self]
        rw [ew]
        simp [asn, wipeD, List.set, evt, ev, evs, e, e', R.calm]) (by simp at gl2 ⊢; omega)
    have mp : (gs.map fz).map (fun d => (match d with | .tup [.tup [.int a, .int b], .tup [.int c, .int d]] => fr (zsq ⟨mkRat a b.toNat, mkRat c d.toNat⟩ / zsq g1) | _ => .non)) = N := by
      rw [List.map_map]
      refine List.map_congr_left fun a _ => ?_
      show fr (zsq ⟨mkRat a.re.num (a.re.den : Int).toNat, mkRat a.im.num (a.im.den : Int).toNat⟩ / zsq g1) = _
      rw [Int.toNat_natCast, Int.toNat_natCast, Rat.mkRat_self, Rat.mkRat_self]
    rw [mp, List.nil_append] at lm
    let h3 : Hh := h2 ++ [.lst N]
    have eB : ev Δ gl (.lc (.call k (.cons (.call j (.cons (.var 4) .nil)) (.cons (.var 3) .nil))) (.nm 4) (.pln (.slc (.var 2) (.so (.int 2)) .no)) .no [4]) [some (.tup X), some (fz z), some (.ref h.length), some (fr (zsq g1)), none] h1 = .ok (.ref h2.length) h3 := by
      rw [ev, evi, ev]
      have ec : cutD ((g0 :: g1 :: gs).map fz) (some 2) none = gs.map fz := cut2 _ _ _
      simp only [ev, evo, getI, List.getElem?_cons_zero, List.getElem?_cons_succ, R.bind_ok, slD, listAt, gh1, ec, alloc, itemsD]
      have gg : (h1 ++ [HS.C.lst (gs.map fz)])[h1.length]? = some (.lst (gs.map fz)) := gh2
      rw [gg]
      exact lm
    have key : exs Δ gl (B_law_squares i j k) [some (.tup X), some (fz z), none, none, none] h = .ok (.rt (.tup [fr (zsq g0 / zsq g1), .ref h2.length])) h3 := by
      unfold B_law_squares
      refine st1 _ _ ?_
      refine (exs_nx (ex_no cnd)).trans ?_
      refine (exs_nx (ex_asg (d := fr (zsq g1)) (h1 := h1) ?_)).trans ?_
      · simp only [ev, evs, List.getElem?_cons_zero, List.getElem?_cons_succ, R.bind_ok, i1, q1]
      simp only [List.set]
      refine exs_rt ?_
      have t1 : ev Δ gl (.call k (.cons (.call j (.cons (.idx (.var 2) (.int 0)) .nil)) (.cons (.var 3) .nil))) [some (.tup X), some (fz z), some (.ref h.length), some (fr (zsq g1)), none] h1 = .ok (fr (zsq g0 / zsq g1)) h1 := by
        simp only [ev, evs, List.getElem?_cons_zero, List.getElem?_cons_succ, R.bind_ok, i0, q0, ol g0 (by simp)]
      rw [ev, evs, t1, R.bind_ok, evs, eB]
      simp [evs, lineOk, sizeLine]
    have e9 : h3 = h ++ [.lst ((g0 :: g1 :: gs).map fz), .lst (gs.map fz), .lst N] := by simp [h3, h2, h1]
    refine ⟨[.lst ((g0 :: g1 :: gs).map fz), .lst (gs.map fz), .lst N], h2.length, ?_, ?_⟩
    · rw [← e9]
      exact (run_rt (f := F_law_squares i j k) rfl key).trans tidy_pair
    · rw [← e9]
      exact get_end
theorem toldZ {x : E} {ρ : En} {h : Hh} {g0 g1 : Z2} {gs : List Z2} (zs : ∀ a ∈ g0 :: g1 :: gs, Zs 96 a) (hl : gs.length ≤ 7) (e1 : ev Δ gl x ρ h = if zsq g1 = 0 then .ex ⟨3, []⟩ h else .ok (sqAns g0 g1 gs) h) :
    ev Δ gl (.told (.rep 0 3 "lost" "odd") x) ρ h = .ok (.str (dueZ g0 g1 gs)) h := by
  unfold dueZ
  by_cases hz : zsq g1 = 0
  · rw [if_pos hz] at e1 ⊢
    rw [ev, e1]
    rfl
  · rw [if_neg hz] at e1 ⊢
    rw [ev, e1, toldR, ans_repr h zs hl hz]
theorem conj_ans {P : List Rat} {z g0 g1 : Z2} {gs : List Z2} (n : Nat) (e : gr z n (lft P) = g0 :: g1 :: gs) : ∃ k0 k1 ks, gr (conj z) n (lft P) = k0 :: k1 :: ks ∧ zsq k1 = zsq g1 ∧ sqAns k0 k1 ks = sqAns g0 g1 gs := by
  have c := gr_conj_lft z n P
  rw [e] at c
  cases q : gr (conj z) n (lft P) with
  | nil => rw [q] at c; simp at c
  | cons k0 r =>
    cases r with
    | nil => rw [q] at c; simp at c
    | cons k1 ks =>
      rw [q] at c
      simp only [List.map_cons, List.cons.injEq] at c
      obtain ⟨c0, c1, c2⟩ := c
      refine ⟨k0, k1, ks, rfl, c1, ?_⟩
      unfold sqAns
      rw [c0, c1]
      have m : ∀ l : List Z2, l.map (fun g => fr (zsq g / zsq g1)) = (l.map zsq).map fun q => fr (q / zsq g1) := fun l => by rw [List.map_map]; rfl
      rw [m, m, c2]
theorem Pz.conj {P : List Rat} {z : Z2} (h : Pz P z) : Pz P (HS.conj z) := by
  refine ⟨h.p, h.lo, h.hi, h.z.1, ?_⟩
  obtain ⟨p, hp, e⟩ := h.z.2
  refine ⟨-p, by omega, ?_⟩
  show -z.im = _
  rw [e, Rat.intCast_neg, Rat.div_def, Rat.div_def]
  grind
set_option maxHeartbeats 4000000 in
theorem lap40 {i j k l m o : Nat} (hp : S_poly (Δ i)) (hpt : S_pt (Δ j)) (hn : S_nip (Δ k)) (hany : S_any (Δ l)) (hsq : S_lsq (Δ m)) (hat : S_sqAt (Δ o)) (n N : Nat) (h : Hh) (ua : UAt n N h) (hN : N ≤ 700000) (v1 v2 v3 v4 v5 v6 v7 : Option D) :
    ∃ w2 w3 w4 w5 w6 w7 h', exs Δ gl (L_law40_1 i j k l m o) [some (.ref n), v1, v2, v3, v4, v5, v6, v7] h = .ok (.nx [some (.ref n), v1, w2, w3, w4, w5, w6, w7]) h' ∧ UAt n (N + 60) h' := by
  obtain ⟨p, Q, q, h1, e1, hq, pQ, lQ, u1⟩ := hp n N h ua (by omega)
  obtain ⟨z, h2, e2, gz, u2⟩ := hpt n (N + 30) h1 u1.at_ (by omega)
  obtain ⟨v, h3, e3, v0, v9, u3⟩ := hn n (N + 40) 4 h2 u2.at_ (by omega) (by decide) (by decide)
  -- the parts and the point as the turn takes them
  obtain ⟨P, Q', q', z', h4, eP, hq', pz, e4, u4⟩ : ∃ (P Q' : List Rat) (q' : Rat) (z' : Z2) (h4 : Hh), P = Q' ++ [q'] ∧ q' ≠ 0 ∧ Pz P z' ∧
      ex Δ gl (.ife (.cmp .Eq (.call k (.cons (.var 0) (.cons (.int 4) .nil))) (.int 0)) (
      (.cons (.asg (.nm 2) (.bin .add (.bin .add (.tup (.cons (.idx (.var 2) (.int 0)) .nil)) (.bin .mul (.tup (.cons (.tup (.cons (.int 0) (.cons (.int 1) .nil))) .nil)) (.call k (.cons (.var 0) (.cons (.int 4) .nil))))) (.tup (.cons (.idx (.var 2) (.neg (.int 1))) .nil)))) 
      (.cons (.asg (.nm 3) (.call l (.cons (.var 0) (.cons (.tup (.cons (.var 3) (.cons (.tup (.cons (.tup (.cons (.int 0) (.cons (.int 1) .nil))) (.cons (.tup (.cons (.int 0) (.cons (.int 1) .nil))) .nil))) (.cons (.tup (.cons (.tup (.cons (.int 1) (.cons (.int 1) .nil))) (.cons (.tup (.cons (.int 0) (.cons (.int 1) .nil))) .nil))) .nil)))) .nil)))) .nil))) .nil) [some (.ref n), v1, some (.tup ((p :: Q ++ [q]).map fr)), some (fz z), v4, v5, v6, v7] h2 = .ok (.nx [some (.ref n), v1, some (.tup (P.map fr)), some (fz z'), v4, v5, v6, v7]) h4 ∧ UAt n (N + 60) h4 := by
    by_cases hv : v = 0
    · subst hv
      obtain ⟨k2, h5, e5, k0, k1, u5⟩ := hn n (N + 41) 4 h3 u3.at_ (by omega) (by decide) (by decide)
      obtain ⟨kk, rfl⟩ : ∃ kk : Nat, k2 = kk := ⟨k2.toNat, by omega⟩
      obtain ⟨d, hd, h6, e6, u6⟩ := hany n (N + 42) [fz z, fz ⟨0, 0⟩, fz ⟨1, 0⟩] h5 u5.at_ (by omega) (by simp) (by simp) (fun d hd => by
        simp only [List.mem_cons, List.not_mem_nil, or_false] at hd
        rcases hd with rfl | rfl | rfl <;> rfl)
      obtain ⟨z', rfl, gz'⟩ : ∃ z', d = fz z' ∧ Gz 1 72 z' := by
        simp only [List.mem_cons, List.not_mem_nil, or_false] at hd
        rcases hd with rfl | rfl | rfl
        · exact ⟨z, rfl, gz⟩
        · exact ⟨_, rfl, Pt.zero, Pt.zero⟩
        · exact ⟨_, rfl, Pt.one, Pt.zero⟩
      refine ⟨(p :: List.replicate kk 0) ++ [q], p :: List.replicate kk 0, q, z', h6, rfl, hq, ⟨fun x hx => ?_, by simp, by simp; omega, gz'⟩, ?_, u6.at_.mono (by omega)⟩
      · rcases List.mem_append.mp hx with hx | hx
        · rcases List.mem_cons.mp hx with rfl | hx
          · exact pQ _ (by simp)
          · rw [List.eq_of_mem_replicate hx]
            exact Pt.zero
        · rw [List.mem_singleton.mp hx]
          exact pQ q (by simp)
      · have i0 : ixD (.tup ((p :: Q ++ [q]).map fr)) (.int 0) h2 = .ok (fr p) h2 := by simp [ixD]
        have i00 : ∀ h, ixD (.tup ((p :: Q ++ [q]).map fr)) (.int 0) h = .ok (fr p) h := fun h => by simp [ixD]
        have i9 : ∀ h, ixD (.tup ((p :: Q ++ [q]).map fr)) (.int (-1)) h = .ok (fr q) h := fun h => by
          have : atI ((p :: Q ++ [q]).map fr) (-1) = some (fr q) := by rw [List.map_append]; exact atI_last
          simp only [ixD, this]
        have b1 : bop .mul (.tup [.tup [.int 0, .int 1]]) (.int (kk : Int)) h5 = .ok (.tup (List.replicate kk (fr 0))) h5 := by
          have : (List.replicate kk [D.tup [.int 0, .int 1]]).flatten = List.replicate kk (fr 0) := List.flatten_replicate_singleton
          simp only [bop, Int.toNat_natCast, this]
          rw [if_pos ⟨by simp, by omega, by omega, by simp⟩]
        have b2 : ∀ h, bop .add (.tup [fr p]) (.tup (List.replicate kk (fr 0))) h = .ok (.tup (fr p :: List.replicate kk (fr 0))) h := fun h => by
          simp only [bop]
          rw [if_pos (by simp [lineOk, sizeLine]; omega)]
          rfl
        have b3 : ∀ h, bop .add (.tup (fr p :: List.replicate kk (fr 0))) (.tup [fr q]) h = .ok (.tup ((p :: List.replicate kk 0 ++ [q]).map fr)) h := fun h => by
          simp only [bop]
          rw [if_pos (by simp [lineOk, sizeLine]; omega)]
          simp
        have e6' : Δ l [.ref n, .tup [fz z, .tup [.tup [.int 0, .int 1], .tup [.int 0, .int 1]], .tup [.tup [.int 1, .int 1], .tup [.int 0, .int 1]]]] h5 = .ok (fz z') h6 := e6
        generalize (p :: Q ++ [q]).map fr = X at *
        have s1 : exs Δ gl (.cons (.asg (.nm 2) (.bin .add (.bin .add (.tup (.cons (.idx (.var 2) (.int 0)) .nil)) (.bin .mul (.tup (.cons (.tup (.cons (.int 0) (.cons (.int 1) .nil))) .nil)) (.call k (.cons (.var 0) (.cons (.int 4) .nil))))) (.tup (.cons (.idx (.var 2) (.neg (.int 1))) .nil)))) 
      (.cons (.asg (.nm 3) (.call l (.cons (.var 0) (.cons (.tup (.cons (.var 3) (.cons (.tup (.cons (.tup (.cons (.int 0) (.cons (.int 1) .nil))) (.cons (.tup (.cons (.int 0) (.cons (.int 1) .nil))) .nil))) (.cons (.tup (.cons (.tup (.cons (.int 1) (.cons (.int 1) .nil))) (.cons (.tup (.cons (.int 0) (.cons (.int 1) .nil))) .nil))) .nil)))) .nil)))) .nil)) [some (.ref n), v1, some (.tup X), some (fz z), v4, v5, v6, v7] h3 = .ok (.nx [some (.ref n), v1, some (.tup ((p :: List.replicate kk 0 ++ [q]).map fr)), some (fz z'), v4, v5, v6, v7]) h6 := by
          refine (exs_nx (ex_asg (d := .tup ((p :: List.replicate kk 0 ++ [q]).map fr)) (h1 := h5) ?_)).trans ?_
          · simp [ev, evs, i00, i9, e5, b1, b2, b3, lineOk, sizeLine]
          simp only [List.set]
          refine (exs_nx (ex_asg (d := fz z') (h1 := h6) ?_)).trans ?_
          · simp [ev, evs, e6', lineOk, sizeLine]
          · simp [exs, List.set]
        rw [ex]
        simp only [ev, evs, List.getElem?_cons_zero, R.bind_ok, e3, cmpD, eqD, decide_true, asBl, R.toF]
        exact s1
    · refine ⟨p :: Q ++ [q], p :: Q, q, z, h3, rfl, hq, ⟨pQ, by simp, by simp; omega, gz⟩, ?_, u3.at_.mono (by omega)⟩
      refine ex_no ?_
      generalize (p :: Q ++ [q]).map fr = X at *
      simp [ev, evs, e3, cmpD, eqD, hv]
  obtain ⟨g0, g1, gs, eg⟩ : ∃ g0 g1 gs, gr z' P.length (lft P) = g0 :: g1 :: gs := by
    have l := gr_len z' P.length (lft P) (List.length_map _)
    have lo := pz.lo
    cases c : gr z' P.length (lft P) with
    | nil => rw [c] at l; simp at l; omega
    | cons g0 r =>
      cases r with
      | nil => rw [c] at l; simp at l; omega
      | cons g1 gs => exact ⟨g0, g1, gs, rfl⟩
  have zs := gr_ok pz
  have gl2 := gr_len z' P.length (lft P) (List.length_map _)
  have hi := pz.hi
  rw [eg] at zs gl2
  have gsl : gs.length ≤ 7 := by simp at gl2; omega
  have at1 := fun h => hat P Q' q' z' g0 g1 gs h eP hq' pz eg
  obtain ⟨k0, k1, ks, ek, ek1, eka⟩ := conj_ans P.length eg
  have at2 := fun h => hat P Q' q' (conj z') k0 k1 ks h eP hq' pz.conj ek
  have lsq := hsq P z' g0 g1 gs h4 pz eg
  generalize hX : P.map fr = X at *
  -- what is due
  obtain ⟨E, own, eo, ed⟩ : ∃ (E : Hh) (own : D), ev Δ gl (.call m (.cons (.var 2) (.cons (.var 3) .nil))) [some (.ref n), v1, some (.tup X), some (fz z'), v4, v5, v6, v7] h4 = .ok own (h4 ++ E) ∧
      ev Δ gl (.ife (.cmp .Is (.var 4) .non) (.str "lost") (.blt .repr (.cons (.tup (.cons (.idx (.var 4) (.int 0)) (.cons (.blt .tuple (.cons (.idx (.var 4) (.int 1)) .nil)) .nil))) .nil))) [some (.ref n), v1, some (.tup X), some (fz z'), some own, v5, v6, v7] (h4 ++ E) = .ok (.str (dueZ g0 g1 gs)) (h4 ++ E) := by
    unfold dueZ
    by_cases hz : zsq g1 = 0
    · rw [if_pos hz] at lsq ⊢
      exact ⟨[], .non, by simp [ev, evs, lsq], by simp [ev, cmpD, isNon]⟩
    · rw [if_neg hz] at lsq ⊢
      obtain ⟨E, mm, s1, s2⟩ := lsq
      refine ⟨E, _, by simp only [ev, evs, List.getElem?_cons_zero, List.getElem?_cons_succ, R.bind_ok, s1]; rfl, ?_⟩
      have ar := ans_repr (h4 ++ E) zs gsl hz
      have ar : bltD .repr [.tup [fr (zsq g0 / zsq g1), .tup (gs.map fun g => fr (zsq g / zsq g1))]] (h4 ++ E) = _ := ar
      have c1 : cmpD .Is (.tup [fr (zsq g0 / zsq g1), .ref mm]) .non (h4 ++ E) = .ok (.bl false) (h4 ++ E) := rfl
      have lo : lineOk [fr (zsq g0 / zsq g1), .tup (gs.map fun g => fr (zsq g / zsq g1))].length = true := by simp [lineOk, sizeLine]
      simp only [ev, evs, List.getElem?_cons_zero, List.getElem?_cons_succ, R.bind_ok, c1, ix0, ix1, bltD_tuple_ref s2, lo, if_true, ar]
  have tc : ∀ ρ5 ρ6 ρ7, ev Δ gl (.tup (.cons (.idx (.var 3) (.int 0)) (.cons (.tup (.cons (.bin .sub (.int 0) (.idx (.idx (.var 3) (.int 1)) (.int 0))) (.cons (.idx (.idx (.var 3) (.int 1)) (.int 1)) .nil))) .nil))) [some (.ref n), v1, some (.tup X), some (fz z'), some own, ρ5, ρ6, ρ7] (h4 ++ E) = .ok (fz (conj z')) (h4 ++ E) := fun ρ5 ρ6 ρ7 => by
    have a0 : ∀ h, ixD (fz z') (.int 0) h = .ok (fr z'.re) h := fun h => ix0 _ _ _
    have a1 : ∀ h, ixD (fz z') (.int 1) h = .ok (fr z'.im) h := fun h => ix1 _ _ _
    have b0 : ∀ h, ixD (fr z'.im) (.int 0) h = .ok (.int z'.im.num) h := fun h => by simp [fr, ixD]
    have b1 : ∀ h, ixD (fr z'.im) (.int 1) h = .ok (.int z'.im.den) h := fun h => by simp [fr, ixD]
    have c : fz (conj z') = .tup [fr z'.re, .tup [.int (0 - z'.im.num), .int z'.im.den]] := by
      have e : fr (-z'.im) = .tup [.int (0 - z'.im.num), .int z'.im.den] := by
        unfold fr
        rw [Rat.neg_num, Rat.neg_den, Int.zero_sub]
      show D.tup [fr z'.re, fr (-z'.im)] = _
      rw [e]
    rw [c]
    simp [ev, evs, a0, a1, b0, b1, bop, lineOk, sizeLine]
  have zsk : ∀ a ∈ k0 :: k1 :: ks, Zs 96 a := by
    have := gr_ok pz.conj
    rw [ek] at this
    exact this
  have ksl : ks.length ≤ 7 := by
    have := gr_len (conj z') P.length (lft P) (List.length_map _)
    rw [ek] at this
    simp at this
    omega
  have dk : dueZ k0 k1 ks = dueZ g0 g1 gs := by unfold dueZ; rw [ek1, eka]
  have due : ∀ (here : Z2) (ρ6 : Option D), (here = z' ∨ here = conj z') → exs Δ gl (L_law40_0 o) [some (.ref n), v1, some (.tup X), some (fz z'), some own, some (.str (dueZ g0 g1 gs)), ρ6, some (fz here)] (h4 ++ E) = .ok (.nx [some (.ref n), v1, some (.tup X), some (fz z'), some own, some (.str (dueZ g0 g1 gs)), ρ6, some (fz here)]) (h4 ++ E) := fun here ρ6 hh => by
    unfold L_law40_0
    have t : ev Δ gl (.told (.rep 0 3 "lost" "odd") (.call o (.cons (.var 2) (.cons (.var 7) .nil)))) [some (.ref n), v1, some (.tup X), some (fz z'), some own, some (.str (dueZ g0 g1 gs)), ρ6, some (fz here)] (h4 ++ E) = .ok (.str (dueZ g0 g1 gs)) (h4 ++ E) := by
      rcases hh with rfl | rfl
      · exact toldZ zs gsl (by simp only [ev, evs, List.getElem?_cons_zero, List.getElem?_cons_succ, R.bind_ok, at1])
      · rw [← dk]
        exact toldZ zsk ksl (by simp only [ev, evs, List.getElem?_cons_zero, List.getElem?_cons_succ, R.bind_ok, at2])
    refine (exs_nx (ex_no (ev_same2 t (h2 := h4 ++ E) ?_))).trans ?_
    · simp [ev]
    · rw [exs]
  refine ⟨some (.tup X), some (fz z'), some own, some (.str (dueZ g0 g1 gs)), some (fz (conj z')), some (fz (conj z')), h4 ++ E, ?_, u4.app⟩
  unfold L_law40_1
  refine (exs_nx (ρ1 := [some (.ref n), v1, some (.tup ((p :: Q ++ [q]).map fr)), some (fz z), v4, v5, v6, v7]) (h1 := h2) ?_).trans ?_
  · generalize (p :: Q ++ [q]).map fr = Y at *
    simp [ex, ev, evs, asn, asns, R.calm, List.set, e1, e2, lineOk, sizeLine]
  refine (exs_nx e4).trans ?_
  refine (exs_nx (ex_asg eo)).trans ?_
  simp only [List.set]
  refine (exs_nx (ex_asg ed)).trans ?_
  simp only [List.set]
  refine (exs_nx (ex_asg (tc _ _ _))).trans ?_
  simp only [List.set]
  refine (exs_nx (ex_for (p := [fz z', fz (conj z')]) (gs := []) (h1 := h4 ++ E) (r := .ok (.nx [some (.ref n), v1, some (.tup X), some (fz z'), some own, some (.str (dueZ g0 g1 gs)), some (fz (conj z')), some (fz (conj z'))]) (h4 ++ E)) ?_ ?_)).trans ?_
  · simp [evi, ev, evs, itemsD, lineOk, sizeLine]
  · have d1 := due z' (some (fz (conj z'))) (.inl rfl)
    have d2 := due (conj z') (some (fz (conj z'))) (.inr rfl)
    simp [forL, gsOk_nil, asn, List.set, R.calm, d1, d2]
  have t : ev Δ gl (.told (.rep 0 3 "lost" "odd") (.callk o .nil [1, 0] (.cons (.var 3) (.cons (.var 2) .nil)))) [some (.ref n), v1, some (.tup X), some (fz z'), some own, some (.str (dueZ g0 g1 gs)), some (fz (conj z')), some (fz (conj z'))] (h4 ++ E) = .ok (.str (dueZ g0 g1 gs)) (h4 ++ E) := by
    refine toldZ zs gsl ?_
    simp [ev, evs, at1]
  refine (exs_nx (ex_no (ev_same2 t (h2 := h4 ++ E) ?_))).trans ?_
  · simp [ev]
  · rw [exs]
theorem s_law_right40 {i j k l m o : Nat} (hp : S_poly (Δ i)) (hpt : S_pt (Δ j)) (hn : S_nip (Δ k)) (hany : S_any (Δ l)) (hsq : S_lsq (Δ m)) (hat : S_sqAt (Δ o)) : S_right (run Δ gl (F_law40 i j k l m o)) := by
  intro n h ua
  obtain ⟨a2, a3, a4, a5, a6, a7, h1, e1, u1⟩ := lap40 (gl := gl) hp hpt hn hany hsq hat n 0 h ua (by decide) (some (.int 0)) none none none none none none
  obtain ⟨b2, b3, b4, b5, b6, b7, h2, e2, u2⟩ := lap40 (gl := gl) hp hpt hn hany hsq hat n _ h1 u1 (by decide) (some (.int 1)) a2 a3 a4 a5 a6 a7
  have up : upFrom 0 2 = [.int 0, .int 1] := rfl
  have key : exs Δ gl (B_law40 i j k l m o) [some (.ref n), none, none, none, none, none, none, none] h = .ok (.rt (.bl true)) h2 := by
    unfold B_law40
    refine (exs_nx (ex_for (p := upFrom 0 2) (gs := []) (h1 := h) (evi_rng1 (k := 2) (by simp [evs, ev]) (by decide)) (r := .ok (.nx [some (.ref n), some (.int 1), b2, b3, b4, b5, b6, b7]) h2) ?_)).trans ?_
    · rw [up]
      simp [forL, gsOk_nil, asn, List.set, R.calm, e1, e2]
    · refine exs_rt ?_
      simp [ev]
  have t : ∃ h10, tidy h (.bl true) h2 = .ok (.bl true) h10 := by
    rcases tidy_flat (h := h) (h' := h2) (d := .bl true) rfl with q | q
    · exact ⟨_, q⟩
    · exact ⟨_, q⟩
  obtain ⟨h10, t⟩ := t
  refine ⟨h10, ?_⟩
  simp only [run, F_law40, List.length_cons, List.length_nil, if_true, List.map_cons, List.map_nil, List.replicate, List.cons_append, List.nil_append]
  rw [key]
  exact t
end
end HS

/-! Growths at a point, for any bound that goes along. -/
namespace HS
open PySem L2
/-- what is known of the parts at each pass -/
structure Hz (Φ : Nat → List Z2 → Prop) (z : Z2) (B Bz : Nat) : Prop where
  tl : ∀ s A R, Φ s (A ++ R) → Φ s R
  up : ∀ s L, Φ s L → Φ (s + 1) (sy z L)
  sz : ∀ s a R, Φ s (a :: R) → s ≤ 9 → (a :: R).length ≤ 9 → Zs B a
  pr : ∀ s r R, Φ s (r :: R) → s ≤ 9 → (r :: R).length ≤ 8 → Zs B (zmul r z)
  zs : Zs Bz z
  b1 : B ≤ 2000
  b2 : Bz ≤ 2000
theorem gr_innerG {tg : D → En → Hh → R En} {bd : En → Hh → R F} {St : Option D → En} {H : List Z2 → Hh} {z : Z2} {Φ : Nat → List Z2 → Prop} {B Bz C : Nat} (hΦ : Hz Φ z B Bz) (htg : ∀ d z5 h, tg d (St z5) h = .ok (St (some d)) h)
    (hb : ∀ (L : List Z2) (a : Z2) (R : List Z2), Φ C (a :: R) → R ≠ [] → (L ++ a :: R).length ≤ 9 → bd (St (some (.int (L.length : Nat)))) (H (L ++ a :: sy z R)) = .ok (.nx (St (some (.int (L.length : Nat))))) (H (L ++ sy z (a :: R)))) :
    ∀ (n : Nat) (A done R : List Z2) (z5 : Option D), A.length = n → R ≠ [] → Φ C (A ++ R) → (done ++ A ++ R).length ≤ 9 →
      ∃ z5', forL [] tg bd (downFrom (((done.length + n : Nat) : Int) - 1) n) (St z5) (H (done ++ A ++ sy z R)) = .ok (.nx (St z5')) (H (done ++ sy z (A ++ R)))
  | 0, A, done, R, z5, hA, hR, hBD, hl => by
    have : A = [] := List.eq_nil_of_length_eq_zero hA
    subst this
    exact ⟨z5, by simp [downFrom, forL, gsOk_nil]⟩
  | n + 1, A, done, R, z5, hA, hR, hBD, hl => by
    obtain ⟨A', a, rfl⟩ : ∃ A' a, A = A' ++ [a] := ⟨A.dropLast, A.getLast (by intro z; subst z; simp at hA), (List.dropLast_concat_getLast _).symm⟩
    have hA' : A'.length = n := by simpa using hA
    have b1 : Φ C (a :: R) := hΦ.tl C A' (a :: R) (by simpa using hBD)
    have e1 := hb (done ++ A') a R b1 hR (by simp at hl ⊢; omega)
    obtain ⟨z5', e2⟩ := gr_innerG hΦ htg hb n A' done (a :: R) (some (.int ((done ++ A').length : Nat))) hA' (by simp) (by simpa using hBD) (by simp at hl ⊢; omega)
    refine ⟨z5', ?_⟩
    have e3 : (((done.length + (n + 1) : Nat) : Int) - 1) = ((done ++ A').length : Nat) := by rw [List.length_append, hA']; omega
    rw [e3, downFrom_cons]
    unfold forL
    rw [if_pos (gsOk_nil _), htg]
    have e4 : done ++ (A' ++ [a]) ++ sy z R = done ++ A' ++ a :: sy z R := by simp
    rw [e4]
    simp only [HS.R.calm_ok, HS.R.bind_ok, e1]
    have e5 : (((done ++ A').length : Nat) : Int) - 1 = ((done.length + n : Nat) : Int) - 1 := by rw [List.length_append, hA']
    have e6 : A' ++ [a] ++ R = A' ++ a :: R := by simp
    rw [e5, e6]
    exact e2
theorem gr_outerG {tg : D → En → Hh → R En} {bd : En → Hh → R F} {St : Option D → Option D → En} {H : List Z2 → Hh} {z : Z2} {Φ : Nat → List Z2 → Prop} {B Bz : Nat} (hΦ : Hz Φ z B Bz) (htg : ∀ d z4 z5 h, tg d (St z4 z5) h = .ok (St (some d) z5) h)
    (hb : ∀ (done rest : List Z2) (C : Nat) (z5 : Option D), rest ≠ [] → Φ C rest → C ≤ 8 → (done ++ rest).length ≤ 9 → ∃ z5', bd (St (some (.int (done.length : Nat))) z5) (H (done ++ rest)) = .ok (.nx (St (some (.int (done.length : Nat))) z5')) (H (done ++ sy z rest))) :
    ∀ (k C : Nat) (rest done : List Z2) (z4 z5 : Option D), rest.length = k → Φ C rest → (done ++ rest).length ≤ 9 → C + k ≤ 9 →
      ∃ z4' z5', forL [] tg bd (upFrom ((done.length : Nat) : Int) k) (St z4 z5) (H (done ++ rest)) = .ok (.nx (St z4' z5')) (H (done ++ gr z k rest))
  | 0, C, rest, done, z4, z5, hr, hBD, hl, hC => by
    have : rest = [] := List.eq_nil_of_length_eq_zero hr
    subst this
    exact ⟨z4, z5, by simp [upFrom, forL, gsOk_nil, gr]⟩
  | k + 1, C, rest, done, z4, z5, hr, hBD, hl, hC => by
    have hne : rest ≠ [] := by intro z; subst z; simp at hr
    obtain ⟨z5', e1⟩ := hb done rest C z5 hne hBD (by omega) hl
    obtain ⟨v, Q, e2, lq⟩ := sy_ne (z := z) hne
    have b := hΦ.up C _ hBD
    rw [e2] at b
    obtain ⟨y4, y5, e3⟩ := gr_outerG hΦ htg hb k (C + 1) Q (done ++ [v]) (some (.int (done.length : Nat))) z5' (by omega) (hΦ.tl _ [v] Q b) (by simp at hl ⊢; omega) (by omega)
    refine ⟨y4, y5, ?_⟩
    rw [upFrom_cons]
    unfold forL
    rw [if_pos (gsOk_nil _), htg]
    simp only [HS.R.calm_ok, HS.R.bind_ok, e1]
    have e4 : (done.length + 1 : Nat) = (done ++ [v]).length := by simp
    have e5 : gr z (k + 1) rest = v :: gr z k Q := by rw [gr, e2]
    rw [e2, e4, e5]
    have e6 : done ++ v :: Q = done ++ [v] ++ Q := by simp
    have e7 : done ++ v :: gr z k Q = done ++ [v] ++ gr z k Q := by simp
    rw [e6, e7]
    exact e3
theorem told_innerG {gs : Gs} {tg : D → En → Hh → R En} {bd : En → Hh → R F} {St : Option D → En} {H : List D → Hh} {z : Z2} {Φ : Nat → List Z2 → Prop} {B Bz C : Nat} (hΦ : Hz Φ z B Bz) (hgs : ∀ xs, gsOk gs (H xs)) (htg : ∀ d z4 h, tg d (St z4) h = .ok (St (some d)) h)
    (hb : ∀ (a : Z2) (R : List Z2), Φ C (a :: R) → R ≠ [] → (a :: R).length ≤ 9 → bd (St (some (fz a))) (H ((sy z R).reverse.map fz)) = .ok (.nx (St (some (fz a)))) (H ((sy z (a :: R)).reverse.map fz))) :
    ∀ (n : Nat) (A R : List Z2) (z4 : Option D), A.length = n → R ≠ [] → Φ C (A ++ R) → (A ++ R).length ≤ 9 →
      ∃ z4', forL gs tg bd (A.map fz).reverse (St z4) (H ((sy z R).reverse.map fz)) = .ok (.nx (St z4')) (H ((sy z (A ++ R)).reverse.map fz))
  | 0, A, R, z4, hA, hR, hBD, hl => by
    have : A = [] := List.eq_nil_of_length_eq_zero hA
    subst this
    exact ⟨z4, by simp [forL, hgs]⟩
  | n + 1, A, R, z4, hA, hR, hBD, hl => by
    obtain ⟨A', a, rfl⟩ : ∃ A' a, A = A' ++ [a] := ⟨A.dropLast, A.getLast (by intro z; subst z; simp at hA), (List.dropLast_concat_getLast _).symm⟩
    have hA' : A'.length = n := by simpa using hA
    have b1 : Φ C (a :: R) := hΦ.tl C A' (a :: R) (by simpa using hBD)
    have e1 := hb a R b1 hR (by simp at hl ⊢; omega)
    obtain ⟨z4', e2⟩ := told_innerG hΦ hgs htg hb n A' (a :: R) (some (fz a)) hA' (by simp) (by simpa using hBD) (by simp at hl ⊢; omega)
    refine ⟨z4', ?_⟩
    have e3 : ((A' ++ [a]).map fz).reverse = fz a :: (A'.map fz).reverse := by simp
    have e6 : A' ++ [a] ++ R = A' ++ a :: R := by simp
    rw [e3, e6]
    unfold forL
    rw [if_pos (hgs _), htg]
    simp only [HS.R.calm_ok, HS.R.bind_ok, e1]
    exact e2
theorem told_loopG {c : En → Hh → R Bool} {bd : En → Hh → R F} {St : Nat → Option D → Option D → En} {z : Z2} {Φ : Nat → List Z2 → Prop} {B Bz : Nat} (hΦ : Hz Φ z B Bz) {h0 : Hh} {f : Nat} (hf : h0.length ≤ f)
    (hc : ∀ (l : Nat) (rest : List Z2) (z4 z5 : Option D) h, h[l]? = some (.lst (rest.map fz)) → c (St l z4 z5) h = .ok (decide (rest ≠ [])) (h ++ [.lst []]))
    (hb : ∀ (l : Nat) (rest acc : List Z2) (C : Nat) (z4 z5 : Option D) h, h[l]? = some (.lst (rest.map fz)) → h[f]? = some (.lst (acc.map fz)) → l ≠ f → rest ≠ [] → Φ C rest → C ≤ 8 → rest.length ≤ 9 → acc.length ≤ 9 → h0 <+: h → ∀ v Q, sy z rest = v :: Q →
      ∃ l' y4 y5 h', bd (St l z4 z5) h = .ok (.nx (St l' y4 y5)) h' ∧ h'[l']? = some (.lst (Q.map fz)) ∧ h'[f]? = some (.lst ((acc ++ [v]).map fz)) ∧ l' ≠ f ∧ h0 <+: h') :
    ∀ (k C : Nat) (rest acc : List Z2) (l : Nat) (z4 z5 : Option D) h, rest.length = k → h[l]? = some (.lst (rest.map fz)) → h[f]? = some (.lst (acc.map fz)) → l ≠ f → Φ C rest → C + k ≤ 9 → k + acc.length ≤ 9 → h0 <+: h →
      ∃ l' y4 y5 h', whN c bd (k + 1) (St l z4 z5) h = some (.ok (.nx (St l' y4 y5)) h') ∧ h'[f]? = some (.lst ((acc ++ gr z k rest).map fz)) ∧ h0 <+: h'
  | 0, C, rest, acc, l, z4, z5, h, hk, hl, hff, hne, hBD, hC, hA, hp => by
    have e := hc l rest z4 z5 h hl
    have : rest = [] := List.eq_nil_of_length_eq_zero hk
    subst this
    refine ⟨l, z4, z5, h ++ [.lst []], ?_, ?_, List.IsPrefix.trans hp (List.prefix_append _ _)⟩
    · unfold whN
      rw [e]
      rfl
    · rw [List.getElem?_append_left (by exact (List.getElem?_eq_some_iff.mp hff).1), hff]
      simp [gr]
  | k + 1, C, rest, acc, l, z4, z5, h, hk, hl, hff, hne, hBD, hC, hA, hp => by
    have hr : rest ≠ [] := by intro z; subst z; simp at hk
    have e := hc l rest z4 z5 h hl
    obtain ⟨v, Q, e2, lq⟩ := sy_ne (z := z) hr
    have b := hΦ.up C _ hBD
    rw [e2] at b
    have g1 : (h ++ [HS.C.lst []])[l]? = some (.lst (rest.map fz)) := by rw [List.getElem?_append_left ((List.getElem?_eq_some_iff.mp hl).1), hl]
    have g2 : (h ++ [HS.C.lst []])[f]? = some (.lst (acc.map fz)) := by rw [List.getElem?_append_left ((List.getElem?_eq_some_iff.mp hff).1), hff]
    obtain ⟨l2, x4, x5, h2, e3, e4, e5, e6, e7⟩ := hb l rest acc C z4 z5 (h ++ [.lst []]) g1 g2 hne hr hBD (by omega) (by omega) (by omega) (List.IsPrefix.trans hp (List.prefix_append _ _)) v Q e2
    obtain ⟨l', y4, y5, h', q1, q2, q3⟩ := told_loopG hΦ hf hc hb k (C + 1) Q (acc ++ [v]) l2 x4 x5 h2 (by omega) e4 e5 e6 (hΦ.tl _ [v] Q b) (by omega) (by simp; omega) e7
    refine ⟨l', y4, y5, h', ?_, ?_, q3⟩
    · unfold whN
      rw [e, decide_eq_true hr]
      simp only [e3]
      exact q1
    · rw [q2, gr, e2]
      simp
def pad (P : List Rat) : List Z2 := lft P ++ List.replicate (2 - P.length) ⟨0, 0⟩
def S_growG (f : Fn) : Prop := ∀ (Φ : Nat → List Z2 → Prop) (P : List Rat) (z : Z2) (B Bz : Nat) h, Hz Φ z B Bz → Φ 0 (pad P) → P.length ≤ 9 → f [.tup (P.map fr), fz z] h = .ok (.ref h.length) (h ++ [.lst ((gr z (pad P).length (pad P)).map fz)])
def S_toldG (f : Fn) : Prop := ∀ (Φ : Nat → List Z2 → Prop) (P : List Rat) (z : Z2) (B Bz : Nat) h, Hz Φ z B Bz → Φ 0 (lft P) → P.length ≤ 9 → f [.tup (P.map fr), fz z] h = .ok (.ref h.length) (h ++ [.lst ((gr z P.length (lft P)).map fz)])
section
variable {Δ : Nat → Fn} {gl : Nat → D}
set_option maxHeartbeats 2000000 in
theorem s_growths_atG {i j k l : Nat} (g0 : gl i = fr 0) (gn : gl j = fz ⟨0, 0⟩) (ha : S_zadd (Δ k)) (hm : S_zmul (Δ l)) : S_growG (run Δ gl (F_growths_at i j k l)) := by
  intro Φ P z B Bz h hΦ h0 hi
  have zs := hΦ.zs
  have bb1 := hΦ.b1
  have bb2 := hΦ.b2
  let Zp : List D := List.replicate (2 - P.length) (fz ⟨0, 0⟩)
  let g : Hh := h ++ [.lst ((lft P).map fz), .lst [fz ⟨0, 0⟩], .lst Zp]
  let H : List Z2 → Hh := fun xs => g ++ [.lst (xs.map fz)]
  let St : Option D → Option D → En := fun z4 z5 => [some (.tup (P.map fr)), some (fz z), some (.ref g.length), none, z4, z5]
  have sl : 1000 < sizeLine := by decide
  have inner : ∀ (C : Nat) (z4 : Option D) (L : List Z2) (a : Z2) (R : List Z2), C ≤ 8 → Φ C (a :: R) → R ≠ [] → (L ++ a :: R).length ≤ 9 →
      exs Δ gl (L_growths_at_0 k l) (St z4 (some (.int (L.length : Nat)))) (H (L ++ a :: sy z R)) = .ok (.nx (St z4 (some (.int (L.length : Nat))))) (H (L ++ sy z (a :: R))) := by
    intro C z4 L a R hC hBD hR hl
    obtain ⟨r, R', e1, lr⟩ := sy_ne (z := z) hR
    have b := hΦ.up C _ (hΦ.tl C [a] R hBD)
    rw [e1] at b
    have sa : Zs B a := hΦ.sz C a R hBD (by omega) (by simp at hl ⊢; omega)
    have sr : Zs B r := hΦ.sz (C + 1) r R' b (by omega) (by simp at hl ⊢; omega)
    have sm : Zs B (zmul r z) := hΦ.pr (C + 1) r R' b (by omega) (by simp at hl ⊢; omega)
    have q1 := fun h => hm r z B Bz h sr zs (by omega)
    have q2 := fun h => ha a (zmul r z) B B h sa sm (by omega)
    have ll : L.length < (L ++ a :: sy z R).length := by simp
    have a1 : atI ((L ++ a :: r :: R').map fz) (L.length : Nat) = some (fz a) := by
      rw [atI_nat (by simp), List.getElem?_map, get_mid]; rfl
    have a2 : atI ((L ++ a :: r :: R').map fz) ((L.length : Int) + 1) = some (fz r) := by
      have : (L.length : Int) + 1 = ((L.length + 1 : Nat) : Int) := by omega
      rw [this, atI_nat (by simp), List.getElem?_map, get_mid1]; rfl
    have a3 : ixN ((L ++ a :: r :: R').map fz).length (L.length : Nat) = some L.length := by
      unfold ixN
      simp
      omega
    have a4 : ((L ++ a :: r :: R').map fz).set L.length (fz (zadd a (zmul r z))) = (L ++ zadd a (zmul r z) :: r :: R').map fz := by
      rw [← List.map_set, set_mid]
    have a5 : sy z (a :: R) = zadd a (zmul r z) :: r :: R' := by rw [sy_cons, e1]; rfl
    rw [e1, a5]
    have gx : ∀ xs : List D, (g ++ [HS.C.lst xs])[g.length]? = some (.lst xs) := fun xs => get_end
    have ix : ∀ (i : Int) (d : D), atI ((L ++ a :: r :: R').map fz) i = some d → ixD (.ref g.length) (.int i) (H (L ++ a :: r :: R')) = .ok d (H (L ++ a :: r :: R')) := fun i d e => by
      simp only [ixD, listAt, H, gx, e]
    have st : setI (.ref g.length) (.int (L.length : Nat)) (fz (zadd a (zmul r z))) (H (L ++ a :: r :: R')) = .ok () (H (L ++ zadd a (zmul r z) :: r :: R')) := by
      simp only [setI, H, gx, a3, a4, set_end]
    unfold L_growths_at_0
    refine (exs_nx (ρ1 := St z4 (some (.int (L.length : Nat)))) (h1 := H (L ++ zadd a (zmul r z) :: r :: R')) ?_).trans ?_
    · simp only [ex, ev, evs, asn, St, List.getElem?_cons_zero, List.getElem?_cons_succ, HS.R.bind_ok, bop, ix _ _ a1, ix _ _ a2, q1, q2, HS.R.toF, HS.R.calm, st]
    · rw [exs]
  have outer : ∀ (done rest : List Z2) (C : Nat) (z5 : Option D), rest ≠ [] → Φ C rest → C ≤ 8 → (done ++ rest).length ≤ 9 → ∃ z5', exs Δ gl (L_growths_at_1 k l) (St (some (.int (done.length : Nat))) z5) (H (done ++ rest)) = .ok (.nx (St (some (.int (done.length : Nat))) z5')) (H (done ++ sy z rest)) := by
    intro done rest C z5 hne hBD hC hl
    obtain ⟨A, a, rfl⟩ : ∃ A a, rest = A ++ [a] := ⟨rest.dropLast, rest.getLast hne, (List.dropLast_concat_getLast _).symm⟩
    obtain ⟨z5', e1⟩ := gr_innerG hΦ (tg := fun d ρ h => asn Δ gl (.nm 5) d ρ h) (bd := fun ρ h => exs Δ gl (L_growths_at_0 k l) ρ h) (St := St (some (.int (done.length : Nat)))) (H := H) (C := C) (fun d z5 h => by simp [asn, St, List.set])
      (fun L a R b1 b2 b3 => inner C _ L a R hC b1 b2 b3) A.length A done [a] z5 rfl (by simp) hBD (by simp at hl ⊢; omega)
    refine ⟨z5', ?_⟩
    unfold L_growths_at_1
    have gx : ∀ xs : List D, (g ++ [HS.C.lst xs])[g.length]? = some (.lst xs) := fun xs => get_end
    refine (exs_nx (ex_for (p := downFrom (((done.length + A.length : Nat) : Int) - 1) A.length) (gs := []) (h1 := H (done ++ (A ++ [a]))) ?_ (r := .ok (.nx (St (some (.int (done.length : Nat))) z5')) (H (done ++ sy z (A ++ [a])))) ?_)).trans ?_
    · have n1 : (((done ++ (A ++ [a])).map fz).length : Int) - 2 = ((done.length + A.length : Nat) : Int) - 1 := by simp; omega
      have n2 : ((((done.length + A.length : Nat) : Int) - 1) - (((done.length : Nat) : Int) - 1)).toNat = A.length := by omega
      have s1 : small62 (((done.length + A.length : Nat) : Int) - 1) = true := by unfold small62; simp at hl; rw [decide_eq_true_iff]; omega
      have s2 : small62 (((done.length : Nat) : Int) - 1) = true := by unfold small62; simp at hl; rw [decide_eq_true_iff]; omega
      simp only [evi, evs, ev, St, H, List.getElem?_cons_zero, List.getElem?_cons_succ, R.bind_ok, bltD, listAt, gx, bop, n1, rngD, s1, s2, n2, Bool.and_self, if_true]
    · have e2 : sy z [a] = [a] := rfl
      rw [e2] at e1
      have e3 : done ++ A ++ [a] = done ++ (A ++ [a]) := by simp
      rw [e3] at e1
      exact e1
    · rw [exs]
  have ln : (lft P).length = P.length := List.length_map _
  have lp : (pad P).length = max P.length 2 := by simp [pad, ln]; omega
  obtain ⟨z4', z5', e1⟩ := gr_outerG hΦ (tg := fun d ρ h => asn Δ gl (.nm 4) d ρ h) (bd := fun ρ h => exs Δ gl (L_growths_at_1 k l) ρ h) (St := St) (H := H) (fun d z4 z5 h => by simp [asn, St, List.set]) outer (pad P).length 0 (pad P) [] none none rfl h0 (by simp [lp]; omega) (by omega)
  have key : exs Δ gl (B_growths_at i j k l) [some (.tup (P.map fr)), some (fz z), none, none, none, none] h = .ok (.rt (.ref g.length)) (H (gr z (pad P).length (pad P))) := by
    unfold B_growths_at
    refine (exs_nx (ex_asg (d := .ref g.length) (h1 := H (pad P)) ?_)).trans ?_
    · have mp : (P.map fr).map (fun d => D.tup [d, fr 0]) = (lft P).map fz := by
        unfold lft
        rw [List.map_map, List.map_map]; rfl
      have lm := lc_map (gs := []) (el := fun d h => ((asn Δ gl (.nm 3) d (wipeD [some (.tup (P.map fr)), some (fz z), none, none, none, none] [3]) h).bind fun ρ1 h => (evt Δ gl .no ρ1 h).bind fun b h => if b = true then (ev Δ gl (.tup (.cons (.var 3) (.cons (.glb i) .nil))) ρ1 h).bind fun y h => .ok (some y) h else .ok none h).calm) (h := h) (gsOk_nil h) (fun d => D.tup [d, fr 0]) (P.map fr) [] (fun d hd => by
          simp [asn, wipeD, List.set, evt, ev, evs, g0, lineOk, sizeLine, R.calm]) (by simp; omega)
      rw [mp, List.nil_append] at lm
      have m0 : (if (2 : Int) - ((P.map fr).length : Nat) > 0 then (2 : Int) - ((P.map fr).length : Nat) else 0) = (((2 - P.length : Nat)) : Int) := by
        rw [List.length_map]
        split <;> omega
      have q1 : (h ++ [C.lst ((lft P).map fz), C.lst [fz ⟨0, 0⟩]])[h.length + 1]? = some (.lst [fz ⟨0, 0⟩]) := by simp
      have q2 : (h ++ [C.lst ((lft P).map fz), C.lst [fz ⟨0, 0⟩], C.lst Zp])[h.length]? = some (.lst ((lft P).map fz)) := by simp
      have q3 : (h ++ [C.lst ((lft P).map fz), C.lst [fz ⟨0, 0⟩], C.lst Zp])[h.length + 2]? = some (.lst Zp) := by simp
      have lo1 : lineOk (((lft P).map fz).length + Zp.length) = true := by simp [lineOk, sizeLine, ln, Zp]; omega
      have eA : ev Δ gl (.lc (.tup (.cons (.var 3) (.cons (.glb i) .nil))) (.nm 3) (.pln (.var 0)) .no [3]) [some (.tup (P.map fr)), some (fz z), none, none, none, none] h = .ok (.ref h.length) (h ++ [.lst ((lft P).map fz)]) := by
        rw [ev, evi, ev]
        simp only [List.getElem?_cons_zero, R.bind_ok, itemsD]
        exact lm
      have eB : ev Δ gl (.lst (.cons (.glb j) .nil)) [some (.tup (P.map fr)), some (fz z), none, none, none, none] (h ++ [.lst ((lft P).map fz)]) = .ok (.ref (h.length + 1)) (h ++ [.lst ((lft P).map fz), .lst [fz ⟨0, 0⟩]]) := by
        simp [ev, evs, gn, alloc, lineOk, sizeLine]
      have eC : ev Δ gl (.blt .max (.cons (.int 0) (.cons (.bin .sub (.int 2) (.blt .len (.cons (.var 0) .nil))) .nil))) [some (.tup (P.map fr)), some (fz z), none, none, none, none] (h ++ [.lst ((lft P).map fz), .lst [fz ⟨0, 0⟩]]) = .ok (.int ((2 - P.length : Nat) : Int)) (h ++ [.lst ((lft P).map fz), .lst [fz ⟨0, 0⟩]]) := by
        simp only [ev, evs, R.bind_ok, List.getElem?_cons_zero, bltD, bop, m0]
      have eD : bop .mul (.ref (h.length + 1)) (.int ((2 - P.length : Nat) : Int)) (h ++ [.lst ((lft P).map fz), .lst [fz ⟨0, 0⟩]]) = .ok (.ref (h.length + 2)) g := by
        have fl : (List.replicate (2 - P.length) [fz ⟨0, 0⟩]).flatten = Zp := List.flatten_replicate_singleton
        simp only [bop, q1, Int.toNat_natCast, fl]
        rw [if_pos ⟨by omega, by omega, by simp [lineOk, sizeLine]; omega⟩]
        simp [alloc, g]
      have eE : bop .add (.ref h.length) (.ref (h.length + 2)) g = .ok (.ref g.length) (H (pad P)) := by
        have pe : (pad P).map fz = (lft P).map fz ++ Zp := by simp [pad, Zp]
        have q2 : g[h.length]? = some (.lst ((lft P).map fz)) := q2
        have q3 : g[h.length + 2]? = some (.lst Zp) := q3
        simp only [bop, q2, q3, lo1, if_true, alloc, H, pe]
      rw [ev, eA, R.bind_ok, ev, eB, R.bind_ok, eC, R.bind_ok, eD, R.bind_ok, eE]
    refine (exs_nx (ex_for (p := upFrom 0 (pad P).length) (gs := []) (h1 := H (pad P)) ?_ e1)).trans ?_
    · have sm : small62 (((pad P).length : Nat) : Int) = true := small_nat (by omega)
      have gx : ∀ xs : List D, (g ++ [HS.C.lst xs])[g.length]? = some (.lst xs) := fun xs => get_end
      have l3 : (((pad P).map fz).length : Int) = (((pad P).length : Nat) : Int) := by rw [List.length_map]
      refine evi_rng1 (k := (pad P).length) ?_ sm
      simp only [evs, ev, St, List.set, List.getElem?_cons_zero, List.getElem?_cons_succ, R.bind_ok, bltD, listAt, H, gx, l3]
    · refine exs_rt ?_
      simp only [ev, St, List.getElem?_cons_zero, List.getElem?_cons_succ, List.nil_append]
  have e9 : H (gr z (pad P).length (pad P)) = h ++ [.lst ((lft P).map fz), .lst [fz ⟨0, 0⟩], .lst Zp, .lst ((gr z (pad P).length (pad P)).map fz)] := by simp [H, g]
  simp only [run, F_growths_at, List.length_cons, List.length_nil, if_true, List.map_cons, List.map_nil, List.replicate, List.cons_append, List.nil_append]
  rw [key, e9]
  exact tidy_ref (by simp [g]) (flats_fz _) (by simp [g])
set_option maxHeartbeats 2000000 in
theorem s_law_told_atG {k l : Nat} (ha : S_zadd (Δ k)) (hm : S_zmul (Δ l)) : S_toldG (run Δ gl (F_law_told_at k l)) := by
  intro Φ P z B Bz h hΦ h0 hi
  have zs := hΦ.zs
  have bb1 := hΦ.b1
  have bb2 := hΦ.b2
  let f := h.length + 1
  let St : Nat → Option D → Option D → En := fun l z4 z5 => [some (.tup (P.map fr)), some (fz z), some (.ref l), some (.ref f), z4, z5]
  have sl : 1000 < sizeLine := by decide
  have ln : (lft P).length = P.length := List.length_map _
  have body : ∀ (q : Nat) (rest acc : List Z2) (C : Nat) (z4 z5 : Option D) (h1 : Hh), h1[q]? = some (.lst (rest.map fz)) → h1[f]? = some (.lst (acc.map fz)) → q ≠ f → rest ≠ [] → Φ C rest → C ≤ 8 → rest.length ≤ 9 → acc.length ≤ 9 → h <+: h1 → ∀ v Q, sy z rest = v :: Q →
      ∃ l' y4 y5 h', exs Δ gl (L_law_told_at_1 k l) (St q z4 z5) h1 = .ok (.nx (St l' y4 y5)) h' ∧ h'[l']? = some (.lst (Q.map fz)) ∧ h'[f]? = some (.lst ((acc ++ [v]).map fz)) ∧ l' ≠ f ∧ h <+: h' := by
    intro q rest acc C z4 z5 h1 hq hf hqf hne hBD hC hl hacc hpre v Q hv
    obtain ⟨A, a, rfl⟩ : ∃ A a, rest = A ++ [a] := ⟨rest.dropLast, rest.getLast hne, (List.dropLast_concat_getLast _).symm⟩
    have fl := (List.getElem?_eq_some_iff.mp hf).1
    let H : List D → Hh := fun xs => h1 ++ [.lst xs, .lst (A.map fz).reverse]
    have gm : ∀ xs, (H xs)[h1.length]? = some (.lst xs) := fun xs => by simp [H]
    have gq : ∀ xs, (H xs)[h1.length + 1]? = some (.lst (A.map fz).reverse) := fun xs => by simp [H]
    have sm : ∀ xs ys, (H xs).set h1.length (.lst ys) = H ys := fun xs ys => by simp [H]
    have inner : ∀ (b : Z2) (R : List Z2), Φ C (b :: R) → R ≠ [] → (b :: R).length ≤ 9 →
        exs Δ gl (L_law_told_at_0 k l) [some (.tup (P.map fr)), some (fz z), some (.ref q), some (.ref f), some (fz b), some (.ref h1.length)] (H ((sy z R).reverse.map fz)) = .ok (.nx [some (.tup (P.map fr)), some (fz z), some (.ref q), some (.ref f), some (fz b), some (.ref h1.length)]) (H ((sy z (b :: R)).reverse.map fz)) := by
      intro b R hB hR hl9
      obtain ⟨r, R', e1, lr⟩ := sy_ne (z := z) hR
      have bb := hΦ.up C _ (hΦ.tl C [b] R hB)
      rw [e1] at bb
      have sa : Zs B b := hΦ.sz C b R hB (by omega) (by simp at hl9 ⊢; omega)
      have sr : Zs B r := hΦ.sz (C + 1) r R' bb (by omega) (by simp at hl9 ⊢; omega)
      have smm : Zs B (zmul r z) := hΦ.pr (C + 1) r R' bb (by omega) (by simp at hl9 ⊢; omega)
      have q1 := fun h => hm r z B Bz h sr zs (by omega)
      have q2 := fun h => ha b (zmul r z) B B h sa smm (by omega)
      have a5 : sy z (b :: R) = zadd b (zmul r z) :: r :: R' := by rw [sy_cons, e1]; rfl
      have e2 : (r :: R').reverse.map fz = R'.reverse.map fz ++ [fz r] := by simp
      have e3 : (zadd b (zmul r z) :: r :: R').reverse.map fz = (R'.reverse.map fz ++ [fz r]) ++ [fz (zadd b (zmul r z))] := by simp
      have a1 : atI (R'.reverse.map fz ++ [fz r]) (-1) = some (fz r) := atI_last
      have lo2 : (R'.reverse.map fz ++ [fz r]).length < sizeLine := Nat.lt_of_le_of_lt (by simp at hl9 ⊢; omega) sl
      rw [e1, a5, e2, e3]
      have ix : ixD (.ref h1.length) (.int (-1)) (H (R'.reverse.map fz ++ [fz r])) = .ok (fz r) (H (R'.reverse.map fz ++ [fz r])) := by
        simp only [ixD, listAt, gm, a1]
      unfold L_law_told_at_0
      refine (exs_nx (ex_exp (d := .non) (h1 := H ((R'.reverse.map fz ++ [fz r]) ++ [fz (zadd b (zmul r z))])) ?_)).trans ?_
      · simp only [ev, evs, List.getElem?_cons_zero, List.getElem?_cons_succ, HS.R.bind_ok, lstOk, gm, ix, q1, q2, app, lo2, if_true, sm]
      · rw [exs]
    obtain ⟨x4, e4⟩ := told_innerG hΦ (gs := [(h1.length + 1, (A.map fz).reverse)]) (tg := fun d ρ h => asn Δ gl (.nm 4) d ρ h) (bd := fun ρ h => exs Δ gl (L_law_told_at_0 k l) ρ h) (St := fun x4 => [some (.tup (P.map fr)), some (fz z), some (.ref q), some (.ref f), x4, some (.ref h1.length)]) (H := H) (C := C)
      (fun xs p hp => by simp at hp; subst hp; simp [listAt, gq]) (fun d z4 h => by simp [asn, List.set]) inner A.length A [a] z4 rfl (by simp) hBD hl
    have e5 : sy z [a] = [a] := rfl
    rw [e5, hv] at e4
    have e6 : ((v :: Q).reverse.map fz) = Q.reverse.map fz ++ [fz v] := by simp
    rw [e6] at e4
    have lQ : Q.length = A.length := by
      have := sy_len z (A ++ [a])
      rw [hv] at this
      simpa using this
    have gf : ∀ xs, (H xs)[f]? = some (.lst (acc.map fz)) := fun xs => by
      simp only [H]
      rw [List.getElem?_append_left fl, hf]
    have al : atI ((A ++ [a]).map fz) (-1) = some (fz a) := by rw [List.map_append]; exact atI_last
    have al2 : atI (Q.reverse.map fz ++ [fz v]) (-1) = some (fz v) := atI_last
    have fne : f ≠ h1.length := by omega
    let h3 : Hh := (H (Q.reverse.map fz ++ [fz v])).set f (.lst (acc.map fz ++ [fz v]))
    have g3 : h3[h1.length]? = some (.lst (Q.reverse.map fz ++ [fz v])) := by
      show ((H _).set f _)[h1.length]? = _
      rw [List.getElem?_set_ne fne, gm]
    have l3 : h3.length = h1.length + 2 := by simp [h3, H]
    have f3 : h3[f]? = some (.lst (acc.map fz ++ [fz v])) := by
      show ((H _).set f _)[f]? = _
      rw [List.getElem?_set_self (by simp [H]; omega)]
    have pre3 : h <+: h3 := pre_set (List.IsPrefix.trans hpre (List.prefix_append _ _)) (by omega)
    have tk : ((Q.reverse.map fz ++ [fz v]).take A.length).reverse = Q.map fz := by
      rw [List.take_append_of_le_length (by simp [lQ]), List.take_of_length_le (by simp [lQ])]
      simp
    have tk0 : (((A ++ [a]).map fz).take A.length).reverse = (A.map fz).reverse := by
      rw [List.map_append, List.take_append_of_le_length (by simp), List.take_of_length_le (by simp)]
    have acl : (acc.map fz).length < sizeLine := Nat.lt_of_le_of_lt (by simp; omega) sl
    refine ⟨h1.length + 2, x4, some (.ref h1.length), h3 ++ [.lst (Q.map fz)], ?_, ?_, ?_, by omega, List.IsPrefix.trans pre3 (List.prefix_append _ _)⟩
    · unfold L_law_told_at_1
      refine (exs_nx (ex_asg (d := .ref h1.length) (h1 := h1 ++ [.lst [fz a]]) ?_)).trans ?_
      · have ix : ixD (.ref q) (.int (-1)) h1 = .ok (fz a) h1 := by simp only [ixD, listAt, hq, al]
        simp only [ev, evs, St, List.getElem?_cons_zero, List.getElem?_cons_succ, HS.R.bind_ok, ix, alloc, List.length_cons, List.length_nil]
        rw [if_pos (by decide)]
      refine (exs_nx (ex_for (p := (A.map fz).reverse) (gs := [(h1.length + 1, (A.map fz).reverse)]) (h1 := H [fz a]) ?_ e4)).trans ?_
      · have hq2 : (h1 ++ [HS.C.lst [fz a]])[q]? = some (.lst ((A ++ [a]).map fz)) := by rw [List.getElem?_append_left ((List.getElem?_eq_some_iff.mp hq).1), hq]
        have r2 : rIx ((A ++ [a]).map fz).length (some (-2)) = A.length := by simp only [List.length_map, List.length_append, List.length_cons, List.length_nil]; exact rIx2 _
        have hh : h1 ++ [HS.C.lst [fz a]] ++ [HS.C.lst (A.map fz).reverse] = H [fz a] := by simp [H]
        simp only [evi, ev, evo, getI, St, List.getElem?_cons_zero, List.getElem?_cons_succ, HS.R.bind_ok, rslD, listAt, hq2, r2, tk0, alloc, hh, itemsD]
        have : (h1 ++ [HS.C.lst [fz a]]).length = h1.length + 1 := by simp
        rw [this]
        simp only [gq]
      refine (exs_nx (ex_exp (d := .non) (h1 := h3) ?_)).trans ?_
      · have ix : ixD (.ref h1.length) (.int (-1)) (H (Q.reverse.map fz ++ [fz v])) = .ok (fz v) (H (Q.reverse.map fz ++ [fz v])) := by simp only [ixD, listAt, gm, al2]
        simp only [ev, St, List.getElem?_cons_zero, List.getElem?_cons_succ, HS.R.bind_ok, lstOk, gf, ix, app, acl, if_true]
        rfl
      refine (exs_nx (ex_asg (d := .ref (h1.length + 2)) (h1 := h3 ++ [.lst (Q.map fz)]) ?_)).trans ?_
      · have r2 : rIx (Q.reverse.map fz ++ [fz v]).length (some (-2)) = A.length := by simp only [List.length_map, List.length_append, List.length_cons, List.length_nil, List.length_reverse, lQ]; exact rIx2 _
        simp only [ev, evo, getI, St, List.getElem?_cons_zero, List.getElem?_cons_succ, HS.R.bind_ok, rslD, listAt, g3, r2, tk, alloc, l3]
      · rw [exs]
        rfl
    · rw [List.getElem?_append_right (by omega), l3]
      simp
    · rw [List.getElem?_append_left (by simp [l3]; omega), f3]
      simp
  obtain ⟨l', y4, y5, h', w1, w2, w3⟩ := told_loopG hΦ (c := fun ρ h => (ev Δ gl (.cmp .NotEq (.var 2) (.lst .nil)) ρ h).bind asBl) (bd := fun ρ h => exs Δ gl (L_law_told_at_1 k l) ρ h) (St := St) (h0 := h) (f := f) (by omega)
    (fun q rest z4 z5 h1 hq => by
      have q1 : (h1 ++ [HS.C.lst []])[q]? = some (.lst (rest.map fz)) := by rw [List.getElem?_append_left ((List.getElem?_eq_some_iff.mp hq).1), hq]
      have q2 : (h1 ++ [HS.C.lst []])[h1.length]? = some (.lst []) := by simp
      have eq := eqD_nilz q1 q2
      have l0 : lineOk ([] : List D).length = true := by decide
      simp only [ev, evs, St, List.getElem?_cons_zero, List.getElem?_cons_succ, HS.R.bind_ok, l0, if_true, alloc, cmpD, eq, asBl]
      by_cases hr : rest = [] <;> simp [hr]) body P.length 0 (lft P) [] h.length none none (h ++ [.lst ((lft P).map fz), .lst []]) ln (by simp) (by simp [f]) (by omega) h0 (by omega) (by simp; omega) (List.prefix_append _ _)
  have wl := whL_of w1
  simp only [List.nil_append] at w2
  obtain ⟨E, rfl⟩ := w3
  have key : exs Δ gl (B_law_told_at k l) [some (.tup (P.map fr)), some (fz z), none, none, none, none] h = .ok (.rt (.ref f)) (h ++ E) := by
    unfold B_law_told_at
    refine (exs_nx (ρ1 := St h.length none none) (h1 := h ++ [.lst ((lft P).map fz), .lst []]) ?_).trans ?_
    · have mp : (P.map fr).map (fun d => D.tup [d, fr 0]) = (lft P).map fz := by
        unfold lft
        rw [List.map_map, List.map_map]; rfl
      have lm := lc_map (gs := []) (el := fun d h => ((asn Δ gl (.nm 4) d (wipeD [some (.tup (P.map fr)), some (fz z), none, none, none, none] [4]) h).bind fun ρ1 h => (evt Δ gl .no ρ1 h).bind fun b h => if b = true then (ev Δ gl (.tup (.cons (.var 4) (.cons (.tup (.cons (.int 0) (.cons (.int 1) .nil))) .nil))) ρ1 h).bind fun y h => .ok (some y) h else .ok none h).calm) (h := h) (gsOk_nil h) (fun d => D.tup [d, fr 0]) (P.map fr) [] (fun d hd => by
          simp [asn, wipeD, List.set, evt, ev, evs, lineOk, sizeLine, R.calm]
          rfl) (by simp; omega)
      rw [mp, List.nil_append] at lm
      have eA : ev Δ gl (.lc (.tup (.cons (.var 4) (.cons (.tup (.cons (.int 0) (.cons (.int 1) .nil))) .nil))) (.nm 4) (.pln (.var 0)) .no [4]) [some (.tup (P.map fr)), some (fz z), none, none, none, none] h = .ok (.ref h.length) (h ++ [.lst ((lft P).map fz)]) := by
        rw [ev, evi, ev]
        simp only [List.getElem?_cons_zero, R.bind_ok, itemsD]
        exact lm
      have l0 : lineOk ([] : List D).length = true := by decide
      rw [ex, ev, evs, eA]
      simp [evs, ev, alloc, lineOk, sizeLine, asn, asns, R.calm, List.set, R.toF, St, f]
    refine (exs_nx (ρ1 := St l' y4 y5) (h1 := h ++ E) ?_).trans ?_
    · rw [ex]
      exact wl
    · refine exs_rt ?_
      simp only [ev, St, List.getElem?_cons_zero, List.getElem?_cons_succ]
  simp only [run, F_law_told_at, List.length_cons, List.length_nil, if_true, List.map_cons, List.map_nil, List.replicate, List.cons_append, List.nil_append]
  rw [key]
  exact tidy_ref w2 (flats_fz _) (by simp [f])
end
end HS

/-! Sizes of a step at a point. -/
namespace HS
open PySem L2
theorem fr_mul (a b u d : Rat) (hu : u ≠ 0) (hd : d ≠ 0) : (a / (u * d)) * (b / u) = a * b / (u * u * d) := by
  have h1 := mne hu hd
  have h2 := mne (mne hu hu) hd
  generalize hx : u * d = x at *
  generalize hy : u * u * d = y at *
  have e : y = x * u := by grind
  grind
theorem fr_sq (b u : Rat) (hu : u ≠ 0) : (b / u) * (b / u) = b * b / (u * u) := by
  have h2 := mne hu hu
  grind
theorem add_div2 (a b c : Rat) : a / c + b / c = (a + b) / c := by rw [Rat.div_def, Rat.div_def, Rat.div_def]; grind
theorem sub_div2 (a b c : Rat) : a / c - b / c = (a - b) / c := by rw [Rat.div_def, Rat.div_def, Rat.div_def]; grind
theorem neg_div2 (a c : Rat) : -(a / c) = (-a) / c := by rw [Rat.div_def, Rat.div_def]; grind
theorem quo (X S u d : Rat) (hu : u ≠ 0) (hd : d ≠ 0) (hS : S ≠ 0) : (X / (u * u * d)) / (S / (u * u)) = X / (d * S) := by
  have h1 := mne hu hu
  generalize u * u = v at *
  have h2 := mne h1 hd
  have h3 := mne hd hS
  have h4 : S / v ≠ 0 := by rw [Rat.div_def]; exact mne hS (by grind)
  grind
theorem dsub (p X S d : Rat) (hd : d ≠ 0) (hS : S ≠ 0) : p / d - X / (d * S) = (p * S - X) / (d * S) := by
  have h3 := mne hd hS
  have e : p / d = p * S / (d * S) := by grind
  rw [e, sub_div2]
def zsub (a b : Z2) : Z2 := ⟨a.re - b.re, a.im - b.im⟩
def zdiv (a b : Z2) : Z2 := ⟨(zmul a (conj b)).re / zsq b, (zmul a (conj b)).im / zsq b⟩
def Gf (c D e M : Nat) (q : Rat) : Prop := ∃ p : Int, p.natAbs ≤ M ∧ q = (p : Rat) / ic (c * D ^ e)
theorem Gf.add {c D e M N : Nat} {p q : Rat} (h : Gf c D e M p) (g : Gf c D e N q) : Gf c D e (M + N) (p + q) := by
  obtain ⟨a, ha, rfl⟩ := h
  obtain ⟨b, hb, rfl⟩ := g
  exact ⟨a + b, by omega, by rw [Rat.intCast_add, add_div2]⟩
theorem Gf.sub {c D e M N : Nat} {p q : Rat} (h : Gf c D e M p) (g : Gf c D e N q) : Gf c D e (M + N) (p - q) := by
  obtain ⟨a, ha, rfl⟩ := h
  obtain ⟨b, hb, rfl⟩ := g
  exact ⟨a - b, by omega, by rw [Rat.intCast_sub, sub_div2]⟩
theorem Gf.mono {c D e M N : Nat} {q : Rat} (h : Gf c D e M q) (l : M ≤ N) : Gf c D e N q := by
  obtain ⟨a, ha, e1⟩ := h
  exact ⟨a, by omega, e1⟩
theorem Gf.pt {c D e M N : Nat} {p q : Rat} (hc : 0 < c) (hD : 0 < D) (h : Gf c D e M p) (g : ∃ a : Int, a.natAbs ≤ N ∧ q = (a : Rat) / ic D) : Gf c D (e + 1) (M * N) (p * q) := by
  obtain ⟨a, ha, rfl⟩ := h
  obtain ⟨b, hb, rfl⟩ := g
  refine ⟨a * b, by rw [Int.natAbs_mul]; exact Nat.mul_le_mul ha hb, ?_⟩
  have n1 : ic (c * D ^ e) ≠ 0 := ic_ne (Nat.mul_pos hc (Nat.pow_pos hD))
  have n2 : ic D ≠ 0 := ic_ne hD
  have e1 : ic (c * D ^ (e + 1)) = ic (c * D ^ e) * ic D := by rw [← ic_mul, Nat.pow_succ, Nat.mul_assoc]
  rw [e1, Rat.intCast_mul]
  generalize ic (c * D ^ e) = x at *
  generalize ic D = y at *
  have n3 := mne n1 n2
  grind
theorem Gf.sz {c D e M B : Nat} {q : Rat} (hc : 0 < c) (hD : 0 < D) (h : Gf c D e M q) (hM : M < 2 ^ B) (he : c * D ^ e < 2 ^ B) : Sz B q := by
  obtain ⟨a, ha, rfl⟩ := h
  have p : 0 < c * D ^ e := Nat.mul_pos hc (Nat.pow_pos hD)
  have s := sz_divInt (a := a) (b := ((c * D ^ e : Nat) : Int)) (B := B) (by omega) (by unfold Bt; omega) (by unfold Bt; omega)
  rw [Rat.divInt_eq_div] at s
  exact s
/-- the parts, by a common denominator, at a pass -/
def BE (c D K M s : Nat) : List Z2 → Prop
  | [] => True
  | a :: Q => (Gf c D Q.length (K * (D + 2 * M * s) ^ Q.length) a.re ∧ Gf c D Q.length (K * (D + 2 * M * s) ^ Q.length) a.im) ∧ BE c D K M s Q
theorem pow_growE (K C M m : Nat) : K * C ^ (m + 1) + (K * (C + 2 * M) ^ m * M + K * (C + 2 * M) ^ m * M) ≤ K * (C + 2 * M) ^ (m + 1) := by
  have a : C ^ m ≤ (C + 2 * M) ^ m := Nat.pow_le_pow_left (by omega) m
  rw [Nat.pow_succ, Nat.pow_succ]
  generalize C ^ m = x at *
  generalize (C + 2 * M) ^ m = y at *
  have b : x * C ≤ y * C := Nat.mul_le_mul_right _ a
  have c : K * (x * C) ≤ K * (y * C) := Nat.mul_le_mul_left _ b
  have d : K * (y * (C + 2 * M)) = K * (y * C) + (K * y * M + K * y * M) := by grind
  omega
theorem sy_BE {c D K M s : Nat} {z : Z2} (hc : 0 < c) (hD : 0 < D) (h1 : ∃ a : Int, a.natAbs ≤ M ∧ z.re = (a : Rat) / ic D) (h2 : ∃ a : Int, a.natAbs ≤ M ∧ z.im = (a : Rat) / ic D) : ∀ {L : List Z2}, BE c D K M s L → BE c D K M (s + 1) (sy z L)
  | [], _ => trivial
  | a :: Q, h => by
    have ih := sy_BE hc hD h1 h2 h.2
    have l := sy_len z Q
    have eC : D + 2 * M * (s + 1) = D + 2 * M * s + 2 * M := by rw [Nat.mul_add, Nat.mul_one]; omega
    rw [sy_cons]
    cases e : sy z Q with
    | nil =>
      rw [e] at l
      have : Q = [] := List.eq_nil_of_length_eq_zero l.symm
      subst this
      exact ⟨⟨h.1.1.mono (by simp), h.1.2.mono (by simp)⟩, trivial⟩
    | cons r R =>
      rw [e] at ih l
      obtain ⟨⟨i1, i2⟩, i3⟩ := ih
      have lq : Q.length = R.length + 1 := by simpa using l.symm
      obtain ⟨⟨a1, a2⟩, _⟩ := h
      rw [lq] at a1 a2
      rw [eC] at i1 i2
      have g := pow_growE K (D + 2 * M * s) M R.length
      refine ⟨⟨?_, ?_⟩, ⟨by rw [eC]; exact i1, by rw [eC]; exact i2⟩, i3⟩
      · exact (a1.add ((i1.pt hc hD h1).sub (i2.pt hc hD h2))).mono (by rw [eC]; exact g)
      · exact (a2.add ((i1.pt hc hD h2).add (i2.pt hc hD h1))).mono (by rw [eC]; exact g)
theorem BE.tail {c D K M s : Nat} : ∀ {L R : List Z2}, BE c D K M s (L ++ R) → BE c D K M s R
  | [], _, h => h
  | _ :: L, R, h => BE.tail (L := L) h.2
theorem lft_BE {c D K M : Nat} (hc : 0 < c) (hD : 0 < D) : ∀ {P : List Rat} (k : Nat), (∀ q ∈ P, ∃ a : Int, a.natAbs ≤ K ∧ q = (a : Rat) / ic c) → BE c D K M 0 (lft P ++ List.replicate k ⟨0, 0⟩)
  | [], 0, _ => trivial
  | [], k + 1, h => by
    have ih := lft_BE (K := K) (M := M) hc hD (P := []) k (by simp)
    have z0 : Gf c D (List.replicate k (⟨0, 0⟩ : Z2)).length (K * (D + 2 * M * 0) ^ (List.replicate k (⟨0, 0⟩ : Z2)).length) 0 := ⟨0, by simp, by show (0 : Rat) = (0 : Rat) / _; rw [Rat.div_def, Rat.zero_mul]⟩
    exact ⟨⟨z0, z0⟩, ih⟩
  | q :: P, k, h => by
    have ih := lft_BE (K := K) (M := M) hc hD (P := P) k fun x hx => h x (List.mem_cons_of_mem _ hx)
    obtain ⟨p, hp, eq⟩ := h q (by simp)
    refine ⟨⟨?_, ?_⟩, ih⟩
    · change Gf c D (lft P ++ List.replicate k (⟨0, 0⟩ : Z2)).length (K * (D + 2 * M * 0) ^ (lft P ++ List.replicate k (⟨0, 0⟩ : Z2)).length) q
      generalize (lft P ++ List.replicate k (⟨0, 0⟩ : Z2)).length = m
      refine ⟨p * ((D ^ m : Nat) : Int), by rw [Int.natAbs_mul, Int.natAbs_natCast]; exact Nat.mul_le_mul hp (by simp), ?_⟩
      show q = _
      have n1 : ic c ≠ 0 := ic_ne hc
      have n2 : ic (D ^ m) ≠ 0 := ic_ne (Nat.pow_pos hD)
      rw [eq, ic_mul, Rat.intCast_mul]
      show _ = (p : Rat) * ic (D ^ m) / _
      generalize ic c = x at *
      generalize ic (D ^ m) = y at *
      have n3 := mne n1 n2
      grind
    · exact ⟨0, by simp, by show (0 : Rat) = (0 : Rat) / _; rw [Rat.div_def, Rat.zero_mul]⟩
/-- the parts' size, the point's size -/
def CB (κ : Nat) (P : List Rat) : Prop := ∃ c : Nat, 0 < c ∧ c ≤ 2 ^ κ ∧ ∀ q ∈ P, ∃ a : Int, a.natAbs ≤ 2 ^ κ ∧ q = (a : Rat) / ic c
def PB (b : Nat) (z : Z2) : Prop := ∃ (D : Nat) (p q : Int), 0 < D ∧ D ≤ 2 ^ b ∧ p.natAbs ≤ 2 ^ b ∧ q.natAbs ≤ 2 ^ b ∧ z = ⟨(p : Rat) / ic D, (q : Rat) / ic D⟩
theorem PB.mono {b c : Nat} {z : Z2} (h : PB b z) (l : b ≤ c) : PB c z := by
  obtain ⟨D, p, q, h1, h2, h3, h4, e⟩ := h
  have := Nat.pow_le_pow_right (show 0 < 2 by decide) l
  exact ⟨D, p, q, h1, by omega, by omega, by omega, e⟩
theorem divI_sz {p : Int} {D b : Nat} (hD : 0 < D) (h1 : D ≤ 2 ^ b) (h2 : p.natAbs ≤ 2 ^ b) : Sz (b + 1) ((p : Rat) / ic D) := by
  have e : 2 ^ (b + 1) = 2 * 2 ^ b := by rw [Nat.pow_succ, Nat.mul_comm]
  have e0 : 0 < 2 ^ b := Nat.pow_pos (by decide)
  have s := sz_divInt (a := p) (b := (D : Int)) (B := b + 1) (by omega) (by unfold Bt; omega) (by unfold Bt; omega)
  rw [Rat.divInt_eq_div] at s
  exact s
theorem PB.zs {b : Nat} {z : Z2} (h : PB b z) : Zs (b + 1) z := by
  obtain ⟨D, p, q, h1, h2, h3, h4, rfl⟩ := h
  exact ⟨divI_sz h1 h2 h3, divI_sz h1 h2 h4⟩
theorem ptw {κ b k m C : Nat} (hC : C ≤ 2 ^ (b + k)) : 2 ^ κ * C ^ m ≤ 2 ^ (κ + (b + k) * m) := by
  rw [Nat.pow_add]
  refine Nat.mul_le_mul_left _ ?_
  rw [Nat.pow_mul]
  exact Nat.pow_le_pow_left hC m
theorem lt_succ_pow {x a : Nat} (h : x ≤ 2 ^ a) : x < 2 ^ (a + 1) := by
  have e0 : 0 < 2 ^ a := Nat.pow_pos (by decide)
  rw [Nat.pow_succ]
  omega
theorem hz_of {κ b N : Nat} {P : List Rat} {z : Z2} (cb : CB κ P) (pb : PB b z) (hN : max P.length 2 ≤ N) (hb : κ + (b + 5) * N + 1 ≤ 2000) (hb2 : b ≤ 1900) :
    ∃ Φ, Hz Φ z (κ + (b + 5) * N + 1) (b + 1) ∧ Φ 0 (pad P) ∧ Φ 0 (lft P) := by
  obtain ⟨c, hc, hcK, hP⟩ := cb
  have pz := pb.zs
  obtain ⟨D, p, q, hD, hDb, hp, hq, rfl⟩ := pb
  have z1 : ∃ a : Int, a.natAbs ≤ 2 ^ b ∧ (⟨(p : Rat) / ic D, (q : Rat) / ic D⟩ : Z2).re = (a : Rat) / ic D := ⟨p, hp, rfl⟩
  have z2 : ∃ a : Int, a.natAbs ≤ 2 ^ b ∧ (⟨(p : Rat) / ic D, (q : Rat) / ic D⟩ : Z2).im = (a : Rat) / ic D := ⟨q, hq, rfl⟩
  have cC : ∀ s, s ≤ 10 → D + 2 * 2 ^ b * s ≤ 2 ^ (b + 5) := fun s hs => by
    have : 2 * 2 ^ b * s ≤ 2 * 2 ^ b * 10 := Nat.mul_le_mul_left _ hs
    rw [Nat.pow_add]
    omega
  have ex : ∀ m, m ≤ N → κ + (b + 5) * m ≤ κ + (b + 5) * N := fun m hm => Nat.add_le_add_left (Nat.mul_le_mul_left _ hm) _
  have gs : ∀ {s m : Nat} {x : Rat}, s ≤ 10 → m ≤ N → Gf c D m (2 ^ κ * (D + 2 * 2 ^ b * s) ^ m) x → Sz (κ + (b + 5) * N + 1) x := fun {s m x} hs hm g => by
    refine g.sz hc hD (lt_succ_pow (Nat.le_trans (ptw (cC s hs)) (Nat.pow_le_pow_right (by decide) (ex m hm)))) (lt_succ_pow ?_)
    have d1 : D ≤ 2 ^ (b + 5) := Nat.le_trans hDb (Nat.pow_le_pow_right (by decide) (by omega))
    exact Nat.le_trans (Nat.mul_le_mul_right _ hcK) (Nat.le_trans (ptw d1) (Nat.pow_le_pow_right (by decide) (ex m hm)))
  refine ⟨fun s L => BE c D (2 ^ κ) (2 ^ b) s L ∧ L.length ≤ N, ⟨fun s A R h => ⟨h.1.tail, by have := h.2; simp at this; omega⟩, fun s L h => ⟨sy_BE hc hD z1 z2 h.1, by rw [sy_len]; exact h.2⟩, fun s a R h hs hl => ?_, fun s r R h hs hl => ?_, pz, hb, by omega⟩, ?_, ?_⟩
  · have l := h.2
    rw [List.length_cons] at l
    exact ⟨gs (by omega) (by omega) h.1.1.1, gs (by omega) (by omega) h.1.1.2⟩
  · have l := h.2
    rw [List.length_cons] at l
    have g := pow_growE (2 ^ κ) (D + 2 * 2 ^ b * s) (2 ^ b) R.length
    have eC : D + 2 * 2 ^ b * (s + 1) = D + 2 * 2 ^ b * s + 2 * 2 ^ b := by rw [Nat.mul_add, Nat.mul_one]; omega
    have m1 : 2 ^ κ * (D + 2 * 2 ^ b * s) ^ R.length ≤ 2 ^ κ * (D + 2 * 2 ^ b * s + 2 * 2 ^ b) ^ R.length := Nat.mul_le_mul_left _ (Nat.pow_le_pow_left (by omega) _)
    have i1 := h.1.1.1.mono m1
    have i2 := h.1.1.2.mono m1
    exact ⟨gs (s := s + 1) (m := R.length + 1) (by omega) (by omega) (((i1.pt hc hD z1).sub (i2.pt hc hD z2)).mono (by rw [eC]; omega)), gs (s := s + 1) (m := R.length + 1) (by omega) (by omega) (((i1.pt hc hD z2).add (i2.pt hc hD z1)).mono (by rw [eC]; omega))⟩
  · exact ⟨lft_BE hc hD _ hP, by simp [pad, lft]; omega⟩
  · have := lft_BE (M := 2 ^ b) hc hD 0 hP
    exact ⟨by simpa using this, by simp [lft]; omega⟩
theorem step_sz {κ b n : Nat} {P : List Rat} {z g0 g1 : Z2} {gs : List Z2} (cb : CB κ P) (pb : PB b z) (hn : P.length = n + 2) (eg : gr z P.length (lft P) = g0 :: g1 :: gs) :
    Zs (κ + (b + 3) * (n + 1) + 1) g0 ∧ Zs (κ + (b + 3) * (n + 1) + 1) g1 ∧ (zsq g1 ≠ 0 → Zs (3 + 2 * κ + (b + 3) * (2 * n + 1)) (zdiv g0 g1) ∧ PB (2 + 2 * κ + (b + 3) * (2 * n + 1)) (zsub z (zdiv g0 g1))) := by
  obtain ⟨c, hc, hcK, hP⟩ := cb
  obtain ⟨D, p, q, hD, hDb, hp, hq, rfl⟩ := pb
  generalize hzz : (⟨(p : Rat) / ic D, (q : Rat) / ic D⟩ : Z2) = z at *
  have z1 : ∃ a : Int, a.natAbs ≤ 2 ^ b ∧ z.re = (a : Rat) / ic D := ⟨p, hp, by rw [← hzz]⟩
  have z2 : ∃ a : Int, a.natAbs ≤ 2 ^ b ∧ z.im = (a : Rat) / ic D := ⟨q, hq, by rw [← hzz]⟩
  have b0 := lft_BE (M := 2 ^ b) hc hD 0 hP
  simp only [List.replicate, List.append_nil] at b0
  have b1 := sy_BE hc hD z1 z2 b0
  have l1 := sy_len z (lft P)
  have ln : (lft P).length = P.length := List.length_map _
  rw [hn, gr] at eg
  cases e1 : sy z (lft P) with
  | nil => rw [e1] at eg; simp at eg
  | cons v Q =>
    rw [e1] at eg b1 l1
    simp only [List.cons.injEq] at eg
    obtain ⟨rfl, eg⟩ := eg
    have lQ : Q.length = n + 1 := by simp at l1; omega
    have b2 := sy_BE hc hD z1 z2 b1.2
    have l2 := sy_len z Q
    rw [gr] at eg
    cases e2 : sy z Q with
    | nil => rw [e2] at eg; simp at eg
    | cons w R =>
      rw [e2] at eg b2 l2
      simp only [List.cons.injEq] at eg
      obtain ⟨rfl, _⟩ := eg
      have lR : R.length = n := by simp at l2; omega
      obtain ⟨⟨A1, A2⟩, _⟩ := b1
      obtain ⟨⟨B1, B2⟩, _⟩ := b2
      rw [lQ] at A1 A2
      rw [lR] at B1 B2
      have c1 : D + 2 * 2 ^ b * (0 + 1) ≤ 2 ^ (b + 3) := by rw [Nat.pow_add]; omega
      have c2 : D + 2 * 2 ^ b * (0 + 1 + 1) ≤ 2 ^ (b + 3) := by rw [Nat.pow_add]; omega
      have d1 : D ≤ 2 ^ (b + 3) := Nat.le_trans hDb (Nat.pow_le_pow_right (by decide) (by omega))
      have A1 := A1.mono (ptw (κ := κ) (m := n + 1) c1)
      have A2 := A2.mono (ptw (κ := κ) (m := n + 1) c1)
      have B1 := B1.mono (ptw (κ := κ) (m := n) c2)
      have B2 := B2.mono (ptw (κ := κ) (m := n) c2)
      have den : ∀ m, m ≤ n + 1 → c * D ^ m < 2 ^ (κ + (b + 3) * (n + 1) + 1) := fun m hm =>
        lt_succ_pow (Nat.le_trans (Nat.mul_le_mul_right _ hcK) (Nat.le_trans (ptw d1) (Nat.pow_le_pow_right (by decide) (Nat.add_le_add_left (Nat.mul_le_mul_left _ hm) _))))
      have num : 2 ^ (κ + (b + 3) * n) < 2 ^ (κ + (b + 3) * (n + 1) + 1) := Nat.pow_lt_pow_right (by decide) (by rw [Nat.mul_add]; omega)
      refine ⟨⟨A1.sz hc hD (lt_succ_pow (Nat.le_refl _)) (den _ (by omega)), A2.sz hc hD (lt_succ_pow (Nat.le_refl _)) (den _ (by omega))⟩, ⟨B1.sz hc hD num (den _ (by omega)), B2.sz hc hD num (den _ (by omega))⟩, fun hz => ?_⟩
      obtain ⟨a1, ha1, ea1⟩ := A1
      obtain ⟨a2, ha2, ea2⟩ := A2
      obtain ⟨y1, hy1, ey1⟩ := B1
      obtain ⟨y2, hy2, ey2⟩ := B2
      have nu : ic (c * D ^ n) ≠ 0 := ic_ne (Nat.mul_pos hc (Nat.pow_pos hD))
      have nd : ic D ≠ 0 := ic_ne hD
      have eu : ic (c * D ^ (n + 1)) = ic (c * D ^ n) * ic D := by rw [← ic_mul, Nat.pow_succ, Nat.mul_assoc]
      rw [eu] at ea1 ea2
      generalize ic (c * D ^ n) = u at *
      let S : Nat := y1.natAbs * y1.natAbs + y2.natAbs * y2.natAbs
      have eS : ((S : Int) : Rat) = (y1 : Rat) * y1 + (y2 : Rat) * y2 := by
        have e : (S : Int) = y1 * y1 + y2 * y2 := by
          show ((y1.natAbs * y1.natAbs + y2.natAbs * y2.natAbs : Nat) : Int) = _
          rw [Int.natCast_add, Int.natCast_mul, Int.natCast_mul, Int.natAbs_mul_self', Int.natAbs_mul_self']
        rw [e, Rat.intCast_add, Rat.intCast_mul, Rat.intCast_mul]
      have sqe : zsq w = ((S : Int) : Rat) / (u * u) := by
        unfold zsq
        rw [ey1, ey2, fr_sq _ _ nu, fr_sq _ _ nu, add_div2, eS]
      have S0 : 0 < S := by
        rcases Nat.eq_zero_or_pos S with z | z
        · exfalso
          apply hz
          rw [sqe, z]
          show (0 : Rat) / _ = 0
          rw [Rat.div_def, Rat.zero_mul]
        · exact z
      have nS : ((S : Int) : Rat) ≠ 0 := ic_ne S0
      have q1 : (zdiv v w).re = ((a1 * y1 + a2 * y2 : Int) : Rat) / (ic D * ((S : Int) : Rat)) := by
        show (v.re * w.re - v.im * -w.im) / zsq w = _
        have m : v.re * w.re - v.im * -w.im = v.re * w.re + v.im * w.im := by grind
        rw [m, ea1, ea2, ey1, ey2, fr_mul _ _ _ _ nu nd, fr_mul _ _ _ _ nu nd, add_div2, sqe, quo _ _ _ _ nu nd nS, Rat.intCast_add, Rat.intCast_mul, Rat.intCast_mul]
      have q2 : (zdiv v w).im = ((a2 * y1 - a1 * y2 : Int) : Rat) / (ic D * ((S : Int) : Rat)) := by
        show (v.re * -w.im + v.im * w.re) / zsq w = _
        have m : v.re * -w.im + v.im * w.re = v.im * w.re - v.re * w.im := by grind
        rw [m, ea1, ea2, ey1, ey2, fr_mul _ _ _ _ nu nd, fr_mul _ _ _ _ nu nd, sub_div2, sqe, quo _ _ _ _ nu nd nS, Rat.intCast_sub, Rat.intCast_mul, Rat.intCast_mul]
      have eDS : ic D * ((S : Int) : Rat) = ic (D * S) := (ic_mul D S).symm
      -- the bounds
      let T : Nat := 2 ^ (2 * κ + (b + 3) * (2 * n + 1))
      have hT : ∀ {x y : Int}, x.natAbs ≤ 2 ^ (κ + (b + 3) * (n + 1)) → y.natAbs ≤ 2 ^ (κ + (b + 3) * n) → (x * y).natAbs ≤ T := fun {x y} hx hy => by
        rw [Int.natAbs_mul]
        refine Nat.le_trans (Nat.mul_le_mul hx hy) ?_
        rw [← Nat.pow_add]
        refine Nat.pow_le_pow_right (by decide) ?_
        have : (b + 3) * (2 * n + 1) = (b + 3) * (n + 1) + (b + 3) * n := by rw [← Nat.mul_add]; congr 1; omega
        omega
      have hSS : S ≤ 2 * 2 ^ (2 * κ + 2 * ((b + 3) * n)) := by
        have k1 : y1.natAbs * y1.natAbs ≤ 2 ^ (2 * κ + 2 * ((b + 3) * n)) := by
          refine Nat.le_trans (Nat.mul_le_mul hy1 hy1) ?_
          rw [← Nat.pow_add]
          exact Nat.pow_le_pow_right (by decide) (by omega)
        have k2 : y2.natAbs * y2.natAbs ≤ 2 ^ (2 * κ + 2 * ((b + 3) * n)) := by
          refine Nat.le_trans (Nat.mul_le_mul hy2 hy2) ?_
          rw [← Nat.pow_add]
          exact Nat.pow_le_pow_right (by decide) (by omega)
        show y1.natAbs * y1.natAbs + y2.natAbs * y2.natAbs ≤ _
        omega
      have hMS : ∀ m, m ≤ 2 ^ b → m * S ≤ T := fun m hm => by
        refine Nat.le_trans (Nat.mul_le_mul hm hSS) ?_
        have pe : ∀ E, 2 ^ b * (2 * 2 ^ E) = 2 ^ (b + 1 + E) := fun E => by rw [Nat.pow_add, Nat.pow_succ, Nat.mul_assoc]
        rw [pe]
        refine Nat.pow_le_pow_right (by decide) ?_
        have : (b + 3) * (2 * n + 1) = 2 * ((b + 3) * n) + (b + 3) := by rw [Nat.mul_add, Nat.mul_one]; grind
        omega
      have hX1 : (a1 * y1 + a2 * y2).natAbs ≤ 2 * T := by
        have := hT ha1 hy1
        have := hT ha2 hy2
        omega
      have hX2 : (a2 * y1 - a1 * y2).natAbs ≤ 2 * T := by
        have := hT ha1 hy2
        have := hT ha2 hy1
        omega
      have e4 : 2 ^ (2 + 2 * κ + (b + 3) * (2 * n + 1)) = 4 * T := by
        show _ = 4 * 2 ^ _
        rw [show 2 + 2 * κ + (b + 3) * (2 * n + 1) = 2 + (2 * κ + (b + 3) * (2 * n + 1)) by omega, Nat.pow_add]
      have hDS : D * S ≤ 4 * T := by
        have := hMS D hDb
        omega
      have DS0 : 0 < D * S := Nat.mul_pos hD S0
      constructor
      · have s1 := divI_sz (b := 2 + 2 * κ + (b + 3) * (2 * n + 1)) (p := a1 * y1 + a2 * y2) DS0 (by rw [e4]; exact hDS) (by rw [e4]; omega)
        have s2 := divI_sz (b := 2 + 2 * κ + (b + 3) * (2 * n + 1)) (p := a2 * y1 - a1 * y2) DS0 (by rw [e4]; exact hDS) (by rw [e4]; omega)
        rw [← eDS, ← q1] at s1
        rw [← eDS, ← q2] at s2
        exact ⟨s1.mono (by omega), s2.mono (by omega)⟩
      · refine ⟨D * S, p * S - (a1 * y1 + a2 * y2), q * S - (a2 * y1 - a1 * y2), DS0, by rw [e4]; exact hDS, ?_, ?_, ?_⟩
        · have k := hMS p.natAbs hp
          have k2 : (p * (S : Int)).natAbs = p.natAbs * S := by rw [Int.natAbs_mul, Int.natAbs_natCast]
          rw [e4]
          omega
        · have k := hMS q.natAbs hq
          have k2 : (q * (S : Int)).natAbs = q.natAbs * S := by rw [Int.natAbs_mul, Int.natAbs_natCast]
          rw [e4]
          omega
        · show (⟨z.re - (zdiv v w).re, z.im - (zdiv v w).im⟩ : Z2) = _
          rw [q1, q2, ← hzz, dsub _ _ _ _ nd nS, dsub _ _ _ _ nd nS, eDS]
          simp only [Rat.intCast_sub, Rat.intCast_mul]
end HS

/-! k39: a step at a point. -/
namespace HS
open PySem L2
def B_ratio_back : Ss :=
  (.cons (.ret (.tup (.cons (.neg (.idx (.var 0) (.int 0))) (.cons (.idx (.var 0) (.int 1)) .nil)))) .nil)
def F_ratio_back : Df := ⟨1, 1, B_ratio_back⟩
def B_point_less (f_ratio_less : Nat) : Ss :=
  (.cons (.ret (.tup (.cons (.call f_ratio_less (.cons (.idx (.var 0) (.int 0)) (.cons (.idx (.var 1) (.int 0)) .nil))) (.cons (.call f_ratio_less (.cons (.idx (.var 0) (.int 1)) (.cons (.idx (.var 1) (.int 1)) .nil))) .nil)))) .nil)
def F_point_less (f_ratio_less : Nat) : Df := ⟨2, 2, B_point_less f_ratio_less⟩
def B_point_over (f_point_product f_ratio_back f_square_of f_ratio_over : Nat) : Ss :=
  (.cons (.asg (.tup (.cons (.nm 2) (.cons (.nm 3) .nil))) (.tup (.cons (.call f_point_product (.cons (.var 0) (.cons (.tup (.cons (.idx (.var 1) (.int 0)) (.cons (.call f_ratio_back (.cons (.idx (.var 1) (.int 1)) .nil)) .nil))) .nil))) (.cons (.call f_square_of (.cons (.var 1) .nil)) .nil)))) 
  (.cons (.ret (.tup (.cons (.call f_ratio_over (.cons (.idx (.var 2) (.int 0)) (.cons (.var 3) .nil))) (.cons (.call f_ratio_over (.cons (.idx (.var 2) (.int 1)) (.cons (.var 3) .nil))) .nil)))) .nil))
def F_point_over (f_point_product f_ratio_back f_square_of f_ratio_over : Nat) : Df := ⟨2, 4, B_point_over f_point_product f_ratio_back f_square_of f_ratio_over⟩
def B_step_by (f_growths_at f_point_less f_point_over : Nat) : Ss :=
  (.cons (.asg (.nm 2) (.call f_growths_at (.cons (.var 0) (.cons (.var 1) .nil)))) 
  (.cons (.ret (.call f_point_less (.cons (.var 1) (.cons (.call f_point_over (.cons (.idx (.var 2) (.int 0)) (.cons (.idx (.var 2) (.int 1)) .nil))) .nil)))) .nil))
def F_step_by (f_growths_at f_point_less f_point_over : Nat) : Df := ⟨2, 3, B_step_by f_growths_at f_point_less f_point_over⟩
def B_check_slope4 (f_is_flat : Nat) : Ss :=
  (.cons (.ife (.call f_is_flat (.cons (.var 0) (.cons (.var 1) .nil))) (
    (.cons (.rse 4) .nil)) (.nil)) .nil)
def F_check_slope4 (f_is_flat : Nat) : Df := ⟨2, 2, B_check_slope4 f_is_flat⟩
def B_step_at (f_check_start f_check_slope f_step_by : Nat) : Ss :=
  (.cons (.exp (.call f_check_start (.cons (.var 0) (.cons (.var 1) .nil)))) 
  (.cons (.exp (.call f_check_slope (.cons (.var 0) (.cons (.var 1) .nil)))) 
  (.cons (.ret (.call f_step_by (.cons (.var 0) (.cons (.var 1) .nil)))) .nil)))
def F_step_at (f_check_start f_check_slope f_step_by : Nat) : Df := ⟨2, 2, B_step_at f_check_start f_check_slope f_step_by⟩
def B_law_per (f__law_square f__law_times f__law_div : Nat) : Ss :=
  (.cons (.asg (.nm 2) (.call f__law_square (.cons (.var 1) .nil))) 
  (.cons (.asg (.nm 3) (.call f__law_times (.cons (.var 0) (.cons (.tup (.cons (.idx (.var 1) (.int 0)) (.cons (.tup (.cons (.bin .sub (.int 0) (.idx (.idx (.var 1) (.int 1)) (.int 0))) (.cons (.idx (.idx (.var 1) (.int 1)) (.int 1)) .nil))) .nil))) .nil)))) 
  (.cons (.ret (.tup (.cons (.call f__law_div (.cons (.idx (.var 3) (.int 0)) (.cons (.var 2) .nil))) (.cons (.call f__law_div (.cons (.idx (.var 3) (.int 1)) (.cons (.var 2) .nil))) .nil)))) .nil)))
def F_law_per (f__law_square f__law_times f__law_div : Nat) : Df := ⟨2, 4, B_law_per f__law_square f__law_times f__law_div⟩
def B_law_next (f__law_told_at f__law_square f__law_less f__law_per : Nat) : Ss :=
  (.cons (.asg (.nm 2) (.call f__law_told_at (.cons (.var 0) (.cons (.var 1) .nil)))) 
  (.cons (.ife (.or (.cmp .Lt (.blt .len (.cons (.var 2) .nil)) (.int 2)) (.cmp .Eq (.idx (.call f__law_square (.cons (.idx (.var 2) (.int 1)) .nil)) (.int 0)) (.int 0))) (
    (.cons (.ret .non) .nil)) (.nil)) 
  (.cons (.ret (.call f__law_less (.cons (.var 1) (.cons (.call f__law_per (.cons (.idx (.var 2) (.int 0)) (.cons (.idx (.var 2) (.int 1)) .nil))) .nil)))) .nil)))
def F_law_next (f__law_told_at f__law_square f__law_less f__law_per : Nat) : Df := ⟨2, 3, B_law_next f__law_told_at f__law_square f__law_less f__law_per⟩
def S_zsub (f : Fn) : Prop := ∀ (a b : Z2) (B C : Nat) h, Zs B a → Zs C b → B + C ≤ 8999 → f [fz a, fz b] h = .ok (fz (zsub a b)) h
def S_back (f : Fn) : Prop := ∀ (q : Rat) h, f [fr q] h = .ok (fr (-q)) h
def S_zdiv (f : Fn) : Prop := ∀ (a b : Z2) (B : Nat) h, Zs B a → Zs B b → B ≤ 1124 → zsq b ≠ 0 → f [fz a, fz b] h = .ok (fz (zdiv a b)) h
theorem fr_neg (q : Rat) : fr (-q) = .tup [.int (-q.num), .int q.den] := by
  unfold fr
  rw [Rat.neg_num, Rat.neg_den]
theorem Zs.conj {B : Nat} {a : Z2} (h : Zs B a) : Zs B (conj a) := ⟨h.1, h.2.neg⟩
theorem zmul_zs {B C : Nat} {a b : Z2} (h : Zs B a) (g : Zs C b) : Zs (2 * (B + C) + 1) (zmul a b) := ⟨((h.1.mul g.1).sub (h.2.mul g.2)).mono (by omega), ((h.1.mul g.2).add (h.2.mul g.1)).mono (by omega)⟩
/-! ### the next point -/
def nx (P : List Rat) (z : Z2) : Option Z2 := match gr z P.length (lft P) with
  | g0 :: g1 :: _ => if zsq g1 = 0 then none else some (zsub z (zdiv g0 g1))
  | _ => none
def optZ : Option Z2 → D
  | none => .non
  | some z => fz z
def bs (κ n : Nat) : Nat → Nat
  | 0 => 7
  | k + 1 => 2 + 2 * κ + (bs κ n k + 3) * (2 * n - 1)
def Fit (κ n k : Nat) : Prop := κ + (bs κ n k + 5) * (n + 1) + 1 ≤ 2000 ∧ κ + (bs κ n k + 3) * n + 1 ≤ 1124 ∧ bs κ n (k + 1) ≤ 1900 ∧ bs κ n k ≤ 1900
structure Env (κ n : Nat) (P : List Rat) : Prop where
  cb : CB κ P
  len : P.length ≤ n + 1
  n1 : 1 ≤ n
  n5 : n ≤ 5
  ok : P = [] ∨ ∃ Q q, P = Q ++ [q] ∧ q ≠ 0
theorem gr_two {z : Z2} {P : List Rat} (h : 2 ≤ P.length) : ∃ g0 g1 gs, gr z P.length (lft P) = g0 :: g1 :: gs := by
  have l := gr_len z P.length (lft P) (List.length_map _)
  cases c : gr z P.length (lft P) with
  | nil => rw [c] at l; simp at l; omega
  | cons g0 r =>
    cases r with
    | nil => rw [c] at l; simp at l; omega
    | cons g1 gs => exact ⟨g0, g1, gs, rfl⟩
/-- the padded growths tell the same -/
theorem pad_nx (P : List Rat) (z : Z2) : ∃ g0 g1 gs, gr z (pad P).length (pad P) = g0 :: g1 :: gs ∧ (nx P z = if zsq g1 = 0 then none else some (zsub z (zdiv g0 g1))) ∧ (zsq g1 ≠ 0 → 2 ≤ P.length ∧ gr z P.length (lft P) = g0 :: g1 :: gs) := by
  match P with
  | [] =>
    refine ⟨_, ⟨0, 0⟩, [], rfl, ?_, fun h => absurd (zsq_zero.mpr rfl) h⟩
    rw [if_pos (zsq_zero.mpr rfl)]
    rfl
  | [q] =>
    refine ⟨_, ⟨0, 0⟩, [], rfl, ?_, fun h => absurd (zsq_zero.mpr rfl) h⟩
    rw [if_pos (zsq_zero.mpr rfl)]
    rfl
  | p :: q :: R =>
    obtain ⟨g0, g1, gs, e⟩ := gr_two (z := z) (P := p :: q :: R) (by simp)
    have ep : pad (p :: q :: R) = lft (p :: q :: R) := by simp [pad]
    have el : (lft (p :: q :: R)).length = (p :: q :: R).length := List.length_map _
    refine ⟨g0, g1, gs, by rw [ep, el]; exact e, ?_, fun _ => ⟨by simp, e⟩⟩
    unfold nx
    rw [e]
/-- how a step's sizes go -/
structure Szs (κ n k : Nat) (P : List Rat) (z g0 g1 : Z2) : Prop where
  d0 : Zs 1124 g0
  d1 : Zs 1124 g1
  dv : Zs 1917 (zdiv g0 g1)
  pb : PB (bs κ n (k + 1)) (zsub z (zdiv g0 g1))
theorem szs_of {κ n k : Nat} {P : List Rat} {z g0 g1 : Z2} {gs : List Z2} (ev : Env κ n P) (pb : PB (bs κ n k) z) (ft : Fit κ n k) (h2 : 2 ≤ P.length) (e : gr z P.length (lft P) = g0 :: g1 :: gs) (hz : zsq g1 ≠ 0) : Szs κ n k P z g0 g1 := by
  obtain ⟨m, hm⟩ : ∃ m, P.length = m + 2 := ⟨P.length - 2, by omega⟩
  have hl := ev.len
  obtain ⟨s0, s1, s2⟩ := step_sz ev.cb pb hm e
  obtain ⟨s3, s4⟩ := s2 hz
  obtain ⟨f1, f2, f3, f4⟩ := ft
  have a1 : (bs κ n k + 3) * (m + 1) ≤ (bs κ n k + 3) * n := Nat.mul_le_mul_left _ (by omega)
  have a2 : (bs κ n k + 3) * (2 * m + 1) ≤ (bs κ n k + 3) * (2 * n - 1) := Nat.mul_le_mul_left _ (by omega)
  have e3 : bs κ n (k + 1) = 2 + 2 * κ + (bs κ n k + 3) * (2 * n - 1) := rfl
  exact ⟨s0.mono (by omega), s1.mono (by omega), s3.mono (by omega), s4.mono (by omega)⟩
theorem g1_sz {κ n k : Nat} {P : List Rat} {z g0 g1 : Z2} {gs : List Z2} (ev : Env κ n P) (pb : PB (bs κ n k) z) (ft : Fit κ n k) (h2 : 2 ≤ P.length) (e : gr z P.length (lft P) = g0 :: g1 :: gs) : Zs 1124 g1 := by
  obtain ⟨m, hm⟩ : ∃ m, P.length = m + 2 := ⟨P.length - 2, by omega⟩
  have hl := ev.len
  obtain ⟨s0, s1, s2⟩ := step_sz ev.cb pb hm e
  obtain ⟨f1, f2, f3, f4⟩ := ft
  have a1 : (bs κ n k + 3) * (m + 1) ≤ (bs κ n k + 3) * n := Nat.mul_le_mul_left _ (by omega)
  exact s1.mono (by omega)
theorem nx_pb {κ n k : Nat} {P : List Rat} {z w : Z2} (ev : Env κ n P) (pb : PB (bs κ n k) z) (ft : Fit κ n k) (h : nx P z = some w) : PB (bs κ n (k + 1)) w := by
  obtain ⟨g0, g1, gs, e1, e2, e3⟩ := pad_nx P z
  rw [h] at e2
  by_cases hz : zsq g1 = 0
  · rw [if_pos hz] at e2; cases e2
  · rw [if_neg hz] at e2
    cases e2
    obtain ⟨h2, e4⟩ := e3 hz
    exact (szs_of ev pb ft h2 e4 hz).pb
theorem env_hz {κ n k : Nat} {P : List Rat} {z : Z2} (ev : Env κ n P) (pb : PB (bs κ n k) z) (ft : Fit κ n k) : ∃ Φ, Hz Φ z (κ + (bs κ n k + 5) * (n + 1) + 1) (bs κ n k + 1) ∧ Φ 0 (pad P) ∧ Φ 0 (lft P) := by
  have := ev.len
  have := ev.n1
  exact hz_of ev.cb pb (by omega) ft.1 ft.2.2.2
/-! ### the defs -/
def S_start39 (f : Fn) : Prop := ∀ (P : List Rat) (z : Z2) h, P.length ≤ 9 → (P = [] ∨ ∃ Q q, P = Q ++ [q] ∧ q ≠ 0) → f [.tup (P.map fr), fz z] h = .ok .non h
def S_slope4 (f : Fn) : Prop := ∀ (κ n k : Nat) (P : List Rat) (z : Z2) h, Env κ n P → PB (bs κ n k) z → Fit κ n k → f [.tup (P.map fr), fz z] h = if nx P z = none then .ex ⟨4, []⟩ h else .ok .non h
def S_flat4 (f : Fn) : Prop := ∀ (κ n k : Nat) (P : List Rat) (z : Z2) h, Env κ n P → PB (bs κ n k) z → Fit κ n k → f [.tup (P.map fr), fz z] h = .ok (.bl (nx P z).isNone) h
def S_stepBy (f : Fn) : Prop := ∀ (κ n k : Nat) (P : List Rat) (z w : Z2) h, Env κ n P → PB (bs κ n k) z → Fit κ n k → nx P z = some w → f [.tup (P.map fr), fz z] h = .ok (fz w) h
def S_stepAt (f : Fn) : Prop := ∀ (κ n k : Nat) (P : List Rat) (z : Z2) h, Env κ n P → PB (bs κ n k) z → Fit κ n k → f [.tup (P.map fr), fz z] h = match nx P z with | none => .ex ⟨4, []⟩ h | some w => .ok (fz w) h
def S_nextL (f : Fn) : Prop := ∀ (κ n k : Nat) (P : List Rat) (z : Z2) h, Env κ n P → PB (bs κ n k) z → Fit κ n k → f [.tup (P.map fr), fz z] h = .ok (optZ (nx P z)) h
section
variable {Δ : Nat → Fn} {gl : Nat → D}
theorem s_point_less {i : Nat} (ha : S_op (· - ·) (Δ i)) : S_zsub (run Δ gl (F_point_less i)) := by
  intro a b B C h sa sb hB
  have e1 := ha a.re b.re B C h sa.1 sb.1 (by omega)
  have e2 := ha a.im b.im B C h sa.2 sb.2 (by omega)
  simp [run, F_point_less, B_point_less, exs, ex, ev, evs, fz, ix0, ix1, e1, e2, lineOk, sizeLine]
  exact tidy_self rfl
theorem s_ratio_back : S_back (run Δ gl F_ratio_back) := by
  intro q h
  have b0 : ixD (fr q) (.int 0) h = .ok (.int q.num) h := by simp [fr, ixD]
  have b1 : ixD (fr q) (.int 1) h = .ok (.int q.den) h := by simp [fr, ixD]
  rw [fr_neg]
  simp [run, F_ratio_back, B_ratio_back, exs, ex, ev, evs, b0, b1, lineOk, sizeLine]
  exact tidy_self rfl
theorem s_point_over {i j k l : Nat} (hm : S_zmul (Δ i)) (hb : S_back (Δ j)) (hs : S_zsq (Δ k)) (ho : S_over (Δ l)) : S_zdiv (run Δ gl (F_point_over i j k l)) := by
  intro a b B h sa sb hB hz
  have e1 := hb b.im h
  have e2 := hm a (conj b) B B h sa sb.conj (by omega)
  have e2 : Δ i [fz a, .tup [fr b.re, fr (-b.im)]] h = _ := e2
  have e3 := hs b B h sb (by omega)
  have sm := zmul_zs sa sb.conj
  have e4 := ho (zmul a (conj b)).re (zsq b) (4 * B + 1) (4 * B + 1) h (sm.1.mono (by omega)) (zsq_sz sb) (by omega) hz
  have e5 := ho (zmul a (conj b)).im (zsq b) (4 * B + 1) (4 * B + 1) h (sm.2.mono (by omega)) (zsq_sz sb) (by omega) hz
  have a0 : ∀ c : Z2, ixD (fz c) (.int 0) h = .ok (fr c.re) h := fun c => ix0 _ _ _
  have a1 : ∀ c : Z2, ixD (fz c) (.int 1) h = .ok (fr c.im) h := fun c => ix1 _ _ _
  simp [run, F_point_over, B_point_over, exs, ex, ev, evs, asn, asns, R.calm, List.set, a0, a1, e1, e2, e3, e4, e5, lineOk, sizeLine]
  exact tidy_self rfl
theorem s_law_per {i j k : Nat} (hs : S_zsq (Δ i)) (hm : S_zmul (Δ j)) (ho : S_over (Δ k)) : S_zdiv (run Δ gl (F_law_per i j k)) := by
  intro a b B h sa sb hB hz
  have e2 := hm a (conj b) B B h sa sb.conj (by omega)
  have ec : fz (conj b) = .tup [fr b.re, .tup [.int (0 - b.im.num), .int b.im.den]] := by
    show D.tup [fr b.re, fr (-b.im)] = _
    rw [fr_neg, Int.zero_sub]
  rw [ec] at e2
  have e3 := hs b B h sb (by omega)
  have sm := zmul_zs sa sb.conj
  have e4 := ho (zmul a (conj b)).re (zsq b) (4 * B + 1) (4 * B + 1) h (sm.1.mono (by omega)) (zsq_sz sb) (by omega) hz
  have e5 := ho (zmul a (conj b)).im (zsq b) (4 * B + 1) (4 * B + 1) h (sm.2.mono (by omega)) (zsq_sz sb) (by omega) hz
  have a0 : ∀ c : Z2, ixD (fz c) (.int 0) h = .ok (fr c.re) h := fun c => ix0 _ _ _
  have a1 : ∀ c : Z2, ixD (fz c) (.int 1) h = .ok (fr c.im) h := fun c => ix1 _ _ _
  have b0 : ∀ q : Rat, ixD (fr q) (.int 0) h = .ok (.int q.num) h := fun q => by simp [fr, ixD]
  have b1 : ∀ q : Rat, ixD (fr q) (.int 1) h = .ok (.int q.den) h := fun q => by simp [fr, ixD]
  simp only [Int.zero_sub] at e2
  simp [run, F_law_per, B_law_per, exs, ex, ev, evs, asn, asns, R.calm, List.set, a0, a1, b0, b1, bop, e2, e3, e4, e5, lineOk, sizeLine]
  exact tidy_self rfl
theorem s_is_flat4 {i j : Nat} (hg : S_growG (Δ i)) (h0 : gl j = fz ⟨0, 0⟩) : S_flat4 (run Δ gl (F_is_flat i j)) := by
  intro κ n k P z h en pb ft
  obtain ⟨Φ, hΦ, p0, _⟩ := env_hz en pb ft
  obtain ⟨g0, g1, gs, eg, en2, _⟩ := pad_nx P z
  have l6 := en.len
  have n5 := en.n5
  have e1 := hg Φ P z _ _ h hΦ p0 (by omega)
  rw [eg] at e1
  have e9 : (nx P z).isNone = decide (zsq g1 = 0) := by
    rw [en2]
    by_cases hz : zsq g1 = 0 <;> simp [hz]
  rw [e9]
  generalize P.map fr = X at *
  have ix : ixD (.ref h.length) (.int 1) (h ++ [.lst ((g0 :: g1 :: gs).map fz)]) = .ok (fz g1) (h ++ [.lst ((g0 :: g1 :: gs).map fz)]) := by
    simp [ixD, listAt]
  have e2 := eqD_fz0 (h ++ [.lst ((g0 :: g1 :: gs).map fz)]) g1
  simp only [run, F_is_flat, B_is_flat, List.length_cons, List.length_nil, if_true, List.map_cons, List.map_nil, List.replicate, List.cons_append, List.nil_append, exs, ex, ev, evs, List.getElem?_cons_zero, List.getElem?_cons_succ, R.bind_ok, e1] at *
  simp only [ix, h0, R.bind_ok, cmpD, e2]
  exact tidy_pre rfl
theorem s_check_slope4 {i : Nat} (hf : S_flat4 (Δ i)) : S_slope4 (run Δ gl (F_check_slope4 i)) := by
  intro κ n k P z h en pb ft
  have e1 := hf κ n k P z h en pb ft
  generalize P.map fr = X at *
  cases hz : nx P z with
  | none =>
    rw [hz] at e1
    simp only [Option.isNone] at e1
    rw [if_pos rfl]
    simp [run, F_check_slope4, B_check_slope4, exs, ex, ev, evs, e1, asBl]
  | some w =>
    rw [hz] at e1
    simp only [Option.isNone] at e1
    rw [if_neg (by simp)]
    simp [run, F_check_slope4, B_check_slope4, exs, ex, ev, evs, e1, asBl]
    exact tidy_self rfl
theorem s_step_by {i j k : Nat} (hg : S_growG (Δ i)) (hl : S_zsub (Δ j)) (ho : S_zdiv (Δ k)) : S_stepBy (run Δ gl (F_step_by i j k)) := by
  intro κ n k' P z w h en pb ft hw
  obtain ⟨Φ, hΦ, p0, _⟩ := env_hz en pb ft
  obtain ⟨g0, g1, gs, eg, en2, e3⟩ := pad_nx P z
  have l6 := en.len
  have n5 := en.n5
  have e1 := hg Φ P z _ _ h hΦ p0 (by omega)
  rw [eg] at e1
  rw [hw] at en2
  by_cases hz : zsq g1 = 0
  · rw [if_pos hz] at en2; cases en2
  rw [if_neg hz] at en2
  cases en2
  obtain ⟨h2, e4⟩ := e3 hz
  have s := szs_of en pb ft h2 e4 hz
  have q1 := fun h => ho g0 g1 1124 h s.d0 s.d1 (by decide) hz
  have q2 := fun h => hl z (zdiv g0 g1) (bs κ n k' + 1) 1917 h pb.zs s.dv (by have := ft.2.2.2; omega)
  generalize P.map fr = X at *
  have i0 : ixD (.ref h.length) (.int 0) (h ++ [.lst ((g0 :: g1 :: gs).map fz)]) = .ok (fz g0) (h ++ [.lst ((g0 :: g1 :: gs).map fz)]) := by
    simp [ixD, listAt]
  have i1 : ixD (.ref h.length) (.int 1) (h ++ [.lst ((g0 :: g1 :: gs).map fz)]) = .ok (fz g1) (h ++ [.lst ((g0 :: g1 :: gs).map fz)]) := by
    simp [ixD, listAt]
  have key : exs Δ gl (B_step_by i j k) [some (.tup X), some (fz z), none] h = .ok (.rt (fz (zsub z (zdiv g0 g1)))) (h ++ [.lst ((g0 :: g1 :: gs).map fz)]) := by
    unfold B_step_by
    refine (exs_nx (ex_asg (d := .ref h.length) (h1 := h ++ [.lst ((g0 :: g1 :: gs).map fz)]) ?_)).trans ?_
    · simp only [ev, evs, List.getElem?_cons_zero, List.getElem?_cons_succ, R.bind_ok, e1]
    simp only [List.set]
    refine exs_rt ?_
    simp only [ev, evs, List.getElem?_cons_zero, List.getElem?_cons_succ, R.bind_ok, i0, i1, q1, q2]
  exact (run_rt (f := F_step_by i j k) rfl key).trans (tidy_pre rfl)
theorem s_step_at {i j k : Nat} (h1 : S_start39 (Δ i)) (h2 : S_slope4 (Δ j)) (h3 : S_stepBy (Δ k)) : S_stepAt (run Δ gl (F_step_at i j k)) := by
  intro κ n k' P z h en pb ft
  have l6 := en.len
  have n5 := en.n5
  have e1 := h1 P z h (by omega) en.ok
  have e2 := h2 κ n k' P z h en pb ft
  have e3 := fun w => h3 κ n k' P z w h en pb ft
  generalize P.map fr = X at *
  cases hz : nx P z with
  | none =>
    rw [hz, if_pos rfl] at e2
    simp [run, F_step_at, B_step_at, exs, ex, ev, evs, e1, e2, R.toF]
  | some w =>
    rw [hz, if_neg (by simp)] at e2
    have e3 := e3 w hz
    simp [run, F_step_at, B_step_at, exs, ex, ev, evs, e1, e2, e3, R.toF]
    exact tidy_self rfl
theorem s_law_next {i j k l : Nat} (ht : S_toldG (Δ i)) (hs : S_zsq (Δ j)) (hl : S_zsub (Δ k)) (ho : S_zdiv (Δ l)) : S_nextL (run Δ gl (F_law_next i j k l)) := by
  intro κ n k' P z h en pb ft
  obtain ⟨Φ, hΦ, _, p0⟩ := env_hz en pb ft
  have l6 := en.len
  have n5 := en.n5
  have e1 := ht Φ P z _ _ h hΦ p0 (by omega)
  have gl2 := gr_len z P.length (lft P) (List.length_map _)
  have zz : ∀ (q : Rat) h, ixD (fr q) (.int 0) h = .ok (.int q.num) h := fun q h => by simp [fr, ixD]
  by_cases h2 : 2 ≤ P.length
  · obtain ⟨g0, g1, gs, eg⟩ := gr_two (z := z) h2
    have en2 : nx P z = if zsq g1 = 0 then none else some (zsub z (zdiv g0 g1)) := by unfold nx; rw [eg]
    have sg1 := g1_sz en pb ft h2 eg
    rw [eg] at e1
    have q0 := fun h => hs g1 1124 h sg1 (by decide)
    let h1 : Hh := h ++ [.lst ((g0 :: g1 :: gs).map fz)]
    have gh1 : h1[h.length]? = some (.lst ((g0 :: g1 :: gs).map fz)) := by simp [h1]
    have i0 : ixD (.ref h.length) (.int 0) h1 = .ok (fz g0) h1 := by simp [ixD, listAt, gh1]
    have i1 : ixD (.ref h.length) (.int 1) h1 = .ok (fz g1) h1 := by simp [ixD, listAt, gh1]
    have l2 : decide ((((g0 :: g1 :: gs).map fz).length : Int) < 2) = false := by simp; omega
    have szs := szs_of en pb ft h2 eg
    generalize P.map fr = X at *
    have cnd : ev Δ gl (.or (.cmp .Lt (.blt .len (.cons (.var 2) .nil)) (.int 2)) (.cmp .Eq (.idx (.call j (.cons (.idx (.var 2) (.int 1)) .nil)) (.int 0)) (.int 0))) [some (.tup X), some (fz z), some (.ref h.length)] h1 = .ok (.bl (decide ((zsq g1).num = 0))) h1 := by
      simp only [ev, evs, List.getElem?_cons_zero, List.getElem?_cons_succ, R.bind_ok, bltD, listAt, gh1, cmpD, l2, i1, q0, zz, eqD]
    have st1 : ∀ (ss : Ss) (r : R F), exs Δ gl ss [some (.tup X), some (fz z), some (.ref h.length)] h1 = r → exs Δ gl (.cons (.asg (.nm 2) (.call i (.cons (.var 0) (.cons (.var 1) .nil)))) ss) [some (.tup X), some (fz z), none] h = r := fun ss r q => by
      refine (exs_nx (ex_asg (d := .ref h.length) (h1 := h1) ?_)).trans ?_
      · simp only [ev, evs, List.getElem?_cons_zero, List.getElem?_cons_succ, R.bind_ok, e1]
        rfl
      · simpa only [List.set] using q
    rw [en2]
    by_cases hz : zsq g1 = 0
    · rw [if_pos hz]
      rw [decide_eq_true (by rw [hz]; rfl)] at cnd
      have key : exs Δ gl (B_law_next i j k l) [some (.tup X), some (fz z), none] h = .ok (.rt .non) h1 := by
        unfold B_law_next
        refine st1 _ _ ?_
        rw [exs, ex, cnd]
        simp [asBl, exs, ex, ev, R.toF]
      exact (run_rt (f := F_law_next i j k l) rfl key).trans (tidy_pre rfl)
    · rw [if_neg hz]
      rw [decide_eq_false (fun z => hz (Rat.num_eq_zero.mp z))] at cnd
      have s := szs hz
      have q1 := fun h => ho g0 g1 1124 h s.d0 s.d1 (by decide) hz
      have q2 := fun h => hl z (zdiv g0 g1) (bs κ n k' + 1) 1917 h pb.zs s.dv (by have := ft.2.2.2; omega)
      have key : exs Δ gl (B_law_next i j k l) [some (.tup X), some (fz z), none] h = .ok (.rt (fz (zsub z (zdiv g0 g1)))) h1 := by
        unfold B_law_next
        refine st1 _ _ ?_
        refine (exs_nx (ex_no cnd)).trans ?_
        refine exs_rt ?_
        simp only [ev, evs, List.getElem?_cons_zero, List.getElem?_cons_succ, R.bind_ok, i0, i1, q1, q2]
      exact (run_rt (f := F_law_next i j k l) rfl key).trans (tidy_pre rfl)
  · have en2 : nx P z = none := by
      unfold nx
      cases c : gr z P.length (lft P) with
      | nil => rfl
      | cons g0 r =>
        cases r with
        | nil => rfl
        | cons g1 gs => rw [c] at gl2; simp at gl2; omega
    rw [en2]
    generalize gr z P.length (lft P) = G at *
    have l2 : decide (((G.map fz).length : Int) < 2) = true := by simp; omega
    generalize P.map fr = X at *
    let h1 : Hh := h ++ [.lst (G.map fz)]
    have gh1 : h1[h.length]? = some (.lst (G.map fz)) := by simp [h1]
    have key : exs Δ gl (B_law_next i j k l) [some (.tup X), some (fz z), none] h = .ok (.rt .non) h1 := by
      unfold B_law_next
      refine (exs_nx (ex_asg (d := .ref h.length) (h1 := h1) ?_)).trans ?_
      · simp only [ev, evs, List.getElem?_cons_zero, List.getElem?_cons_succ, R.bind_ok, e1]
        rfl
      simp only [List.set]
      have cnd : ev Δ gl (.or (.cmp .Lt (.blt .len (.cons (.var 2) .nil)) (.int 2)) (.cmp .Eq (.idx (.call j (.cons (.idx (.var 2) (.int 1)) .nil)) (.int 0)) (.int 0))) [some (.tup X), some (fz z), some (.ref h.length)] h1 = .ok (.bl true) h1 := by
        simp only [ev, evs, List.getElem?_cons_zero, List.getElem?_cons_succ, R.bind_ok, bltD, listAt, gh1, cmpD, l2]
      rw [exs, ex, cnd]
      simp [asBl, exs, ex, ev, R.toF]
    exact (run_rt (f := F_law_next i j k l) rfl key).trans (tidy_pre rfl)
end
end HS

/-! k39: runs at a point, what the law draws. -/
namespace HS
open PySem L2
def L_run_at_0 (f_check_slope f_step_by : Nat) : Ss :=
    (.cons (.exp (.call f_check_slope (.cons (.var 0) (.cons (.idx (.var 3) (.neg (.int 1))) .nil)))) 
    (.cons (.exp (.app (.var 3) (.call f_step_by (.cons (.var 0) (.cons (.idx (.var 3) (.neg (.int 1))) .nil))))) .nil))
def B_run_at (f_check_start f_check_number g_MOST_STEPS f_check_slope f_step_by : Nat) : Ss :=
  (.cons (.exp (.call f_check_start (.cons (.var 0) (.cons (.var 1) .nil)))) 
  (.cons (.exp (.call f_check_number (.cons (.var 2) (.cons (.int 0) (.cons (.glb g_MOST_STEPS) .nil))))) 
  (.cons (.asg (.nm 3) (.lst (.cons (.var 1) .nil))) 
  (.cons (.fr (.nm 4) (.rng (.cons (.var 2) .nil)) (L_run_at_0 f_check_slope f_step_by)) 
  (.cons (.ret (.blt .tuple (.cons (.var 3) .nil))) .nil)))))
def F_run_at (f_check_start f_check_number g_MOST_STEPS f_check_slope f_step_by : Nat) : Df := ⟨3, 5, B_run_at f_check_start f_check_number g_MOST_STEPS f_check_slope f_step_by⟩
def B_law_flat (f__law_part f__law_mul f__law_sub : Nat) : Ss :=
  (.cons (.asg (.tup (.cons (.nm 2) (.cons (.nm 3) (.cons (.nm 4) .nil)))) (.tup (.cons (.call f__law_part (.cons (.var 0) .nil)) (.cons (.call f__law_part (.cons (.var 0) .nil)) (.cons (.idx (.var 1) (.int 0)) .nil))))) 
  (.cons (.asg (.nm 3) (.ife (.cmp .NotEq (.idx (.var 3) (.int 0)) (.int 0)) (.var 3) (.tup (.cons (.int 1) (.cons (.int 1) .nil))))) 
  (.cons (.asg (.nm 5) (.call f__law_mul (.cons (.var 4) (.cons (.var 4) .nil)))) 
  (.cons (.ret (.tup (.cons (.call f__law_sub (.cons (.var 2) (.cons (.call f__law_mul (.cons (.var 3) (.cons (.var 5) .nil))) .nil))) (.cons (.call f__law_mul (.cons (.call f__law_mul (.cons (.tup (.cons (.int 2) (.cons (.int 1) .nil))) (.cons (.var 3) .nil))) (.cons (.var 4) .nil))) (.cons (.tup (.cons (.bin .sub (.int 0) (.idx (.var 3) (.int 0))) (.cons (.idx (.var 3) (.int 1)) .nil))) .nil))))) .nil))))
def F_law_flat (f__law_part f__law_mul f__law_sub : Nat) : Df := ⟨2, 6, B_law_flat f__law_part f__law_mul f__law_sub⟩

def S_poly5 (f : Fn) : Prop := ∀ (n N : Nat) h, UAt n N h → N ≤ 800000 → ∃ (p : Rat) (Q : List Rat) (q : Rat) (h' : Hh), f [.ref n, .int 5] h = .ok (.tup (((p :: Q) ++ [q]).map fr)) h' ∧ q ≠ 0 ∧ (∀ x ∈ (p :: Q) ++ [q], Pt x) ∧ Q.length ≤ 4 ∧ Up n (N + 30) h h'
def S_flatL (f : Fn) : Prop := ∀ (n N : Nat) (x : Rat) h, UAt n N h → N ≤ 800000 → Pt x → ∃ (a b : Rat) (h' : Hh), Pt a ∧ Pt b ∧ b ≠ 0 ∧ f [.ref n, fz ⟨x, 0⟩] h = .ok (.tup ([a - b * (x * x), 2 * b * x, -b].map fr)) h' ∧ Up n (N + 10) h h'
def OkP (P : List Rat) : Prop := P = [] ∨ ∃ Q q, P = Q ++ [q] ∧ q ≠ 0
def S_parts39 (f : Fn) : Prop := ∀ (P : List Rat) h, P.length ≤ 9 → OkP P → f [.tup (P.map fr)] h = .ok (.bl true) h
def S_cpoly39 (f : Fn) : Prop := ∀ (P : List Rat) h, P.length ≤ 9 → OkP P → f [.tup (P.map fr)] h = .ok .non h
/-! ### runs -/
def runZ (P : List Rat) : Nat → Z2 → Option (List Z2)
  | 0, _ => some []
  | k + 1, z => match nx P z with
    | none => none
    | some w => (runZ P k w).map (w :: ·)
theorem runZ_len {P : List Rat} : ∀ (k : Nat) (z : Z2) (l : List Z2), runZ P k z = some l → l.length = k
  | 0, z, l, h => by cases h; rfl
  | k + 1, z, l, h => by
    unfold runZ at h
    cases e : nx P z with
    | none => rw [e] at h; cases h
    | some w =>
      rw [e] at h
      obtain ⟨l', h', rfl⟩ := Option.map_eq_some_iff.mp h
      rw [List.length_cons, runZ_len k w l' h']
def unbk : F → F
  | .bk ρ => .nx ρ
  | f => f
theorem run_loop {tg : D → En → Hh → R En} {bd : En → Hh → R F} {St : Option D → Option D → En} {outF : Option D → Option D → F} {P : List Rat} {κ n : Nat} (en : Env κ n P) (h : Hh)
    (htg : ∀ d y x h, tg d (St y x) h = .ok (St (some d) x) h)
    (hb1 : ∀ (acc : List Z2) (z : Z2) (k : Nat) (y x : Option D), PB (bs κ n k) z → Fit κ n k → acc.length < 100 → nx P z = none → ∃ y' x', bd (St y x) (h ++ [.lst ((acc ++ [z]).map fz)]) = .ok (outF y' x') (h ++ [.lst ((acc ++ [z]).map fz)]))
    (hb2 : ∀ (acc : List Z2) (z w : Z2) (k : Nat) (y x : Option D), PB (bs κ n k) z → Fit κ n k → acc.length < 100 → nx P z = some w → ∃ x', bd (St y x) (h ++ [.lst ((acc ++ [z]).map fz)]) = .ok (.nx (St y x')) (h ++ [.lst (((acc ++ [z]) ++ [w]).map fz)]))
    (ho : ∀ y x, (∃ d, outF y x = .rt d) ∨ (∃ e ρ, outF y x = .xc e ρ) ∨ ∃ ρ, outF y x = .bk ρ) :
    ∀ (items : List D) (acc : List Z2) (k : Nat) (z : Z2) (y x : Option D), PB (bs κ n k) z → (∀ j, k ≤ j → j < k + items.length → Fit κ n j) → acc.length + items.length < 100 →
      (∀ l, runZ P items.length z = some l → ∃ y' x', forL [] tg bd items (St y x) (h ++ [.lst ((acc ++ [z]).map fz)]) = .ok (.nx (St y' x')) (h ++ [.lst ((acc ++ z :: l).map fz)])) ∧
      (runZ P items.length z = none → ∃ y' x' c, forL [] tg bd items (St y x) (h ++ [.lst ((acc ++ [z]).map fz)]) = .ok (unbk (outF y' x')) (h ++ [c]))
  | [], acc, k, z, y, x, pb, ft, hl => ⟨fun l e => by
      cases e
      exact ⟨y, x, by simp [forL, gsOk_nil]⟩, fun e => by cases e⟩
  | d :: items, acc, k, z, y, x, pb, ft, hl => by
    simp only [List.length_cons] at ft hl
    have f0 := ft k (Nat.le_refl _) (by omega)
    cases e : nx P z with
    | none =>
      obtain ⟨y', x', e1⟩ := hb1 acc z k (some d) x pb f0 (by omega) e
      refine ⟨fun l q => ?_, fun _ => ⟨y', x', .lst ((acc ++ [z]).map fz), ?_⟩⟩
      · rw [List.length_cons, runZ, e] at q
        cases q
      · unfold forL
        rw [if_pos (gsOk_nil _), htg]
        simp only [R.calm_ok, R.bind_ok, e1]
        rcases ho y' x' with ⟨d, q⟩ | ⟨e, ρ, q⟩ | ⟨ρ, q⟩ <;> rw [q] <;> rfl
    | some w =>
      obtain ⟨x', e1⟩ := hb2 acc z w k (some d) x pb f0 (by omega) e
      have pw := nx_pb en pb f0 e
      obtain ⟨g1, g2⟩ := run_loop en h htg hb1 hb2 ho items (acc ++ [z]) (k + 1) w (some d) x' pw (fun j h1 h2 => ft j (by omega) (by omega)) (by simp; omega)
      refine ⟨fun l q => ?_, fun q => ?_⟩
      · rw [List.length_cons, runZ, e] at q
        obtain ⟨l', q', rfl⟩ := Option.map_eq_some_iff.mp q
        obtain ⟨y2, x2, e2⟩ := g1 l' q'
        refine ⟨y2, x2, ?_⟩
        unfold forL
        rw [if_pos (gsOk_nil _), htg]
        simp only [R.calm_ok, R.bind_ok, e1, e2]
        simp
      · rw [List.length_cons, runZ, e] at q
        have q : (runZ P items.length w).map (w :: ·) = none := q
        have q' : runZ P items.length w = none := Option.map_eq_none_iff.mp q
        obtain ⟨y2, x2, c, e2⟩ := g2 q'
        refine ⟨y2, x2, c, ?_⟩
        unfold forL
        rw [if_pos (gsOk_nil _), htg]
        simp only [R.calm_ok, R.bind_ok, e1, e2]
def S_run (f : Fn) : Prop := ∀ (κ n cnt : Nat) (P : List Rat) (z : Z2) h, Env κ n P → PB 7 z → (∀ j, j < cnt → Fit κ n j) → cnt ≤ 6 →
  (∀ l, runZ P cnt z = some l → f [.tup (P.map fr), fz z, .int cnt] h = .ok (.tup ((z :: l).map fz)) h) ∧ (runZ P cnt z = none → ∃ c, f [.tup (P.map fr), fz z, .int cnt] h = .ex ⟨4, []⟩ (h ++ [c]))
theorem Pt.sz {q : Rat} (h : Pt q) : Sz 7 q := Gq.sz h (by decide) (by decide)
section
variable {Δ : Nat → Fn} {gl : Nat → D}
theorem s_is_parts39 {i j k : Nat} (hr : S_areR (Δ i)) (h9 : gl j = .int 9) (h0 : gl k = fr 0) : S_parts39 (run Δ gl (F_is_parts i j k)) := by
  intro P h hl ok
  rcases ok with rfl | ⟨Q, q, rfl, hq⟩
  · have e1 := hr [] h (by decide)
    have e2 := eqD_frs h []
    have e1 : Δ i [.tup []] h = _ := e1
    have e2 : eqD h (.tup []) (.tup []) = _ := e2
    have l0 : lineOk 0 = true := by decide
    have key : exs Δ gl (B_is_parts i j k) [some (.tup [])] h = .ok (.rt (.bl true)) h := by
      unfold B_is_parts
      refine exs_rt ?_
      simp [ev, evs, e1, bltD, h9, cmpD, l0, e2]
    exact (run_rt (f := F_is_parts i j k) rfl key).trans (tidy_self rfl)
  · exact s_is_parts hr h9 h0 Q q h (by simp at hl; omega) hq
theorem s_check_poly39 {i : Nat} (hr : S_parts39 (Δ i)) : S_cpoly39 (run Δ gl (F_check_polynomial i)) := by
  intro P h hl ok
  have e1 := hr P h hl ok
  generalize P.map fr = X at *
  simp [run, F_check_polynomial, B_check_polynomial, exs, ex, ev, evs, e1, asBl]
  exact tidy_self rfl
theorem s_check_start39 {i j : Nat} (h1 : S_cpoly39 (Δ i)) (h2 : S_cpoint (Δ j)) : S_start39 (run Δ gl (F_check_start2 i j)) := by
  intro P z h hl ok
  have e1 := h1 P h hl ok
  have e2 := h2 z h
  generalize P.map fr = X at *
  simp [run, F_check_start2, B_check_start2, exs, ex, ev, evs, e1, e2]
  exact tidy_self rfl
theorem s_law_poly5 {i j : Nat} (hn : S_nip (Δ i)) (hp : S_part (Δ j)) : S_poly5 (run Δ gl (F_law_poly i j)) := by
  intro n N h ua hN
  have nl := ua.lt
  let m := h.length
  obtain ⟨v, h2, e2, v0, v1, u2⟩ := hn n N 5 (h ++ [.lst []]) ua.app (by omega) (by decide) (by decide)
  obtain ⟨k, rfl⟩ : ∃ k : Nat, v = k := ⟨v.toNat, by omega⟩
  have gm2 : h2[m]? = some (.lst (([] : List Rat).map fr)) := by
    rw [u2.oth m (by omega) (by simp [m])]
    simp [m]
  have u02 : Up n (N + 1) h h2 := ((Up.refl ua).app (t := [.lst []])).trans u2
  have sl : 1000 < sizeLine := by decide
  obtain ⟨Q2, z', h3, e3, g3, l3, p3, u3⟩ := poly_loop (tg := fun d ρ h => asn Δ gl (.nm 3) d ρ h) (bd := fun ρ h => exs Δ gl (L_law_poly_0 j) ρ h) (St := fun z => [some (.ref n), some (.int 5), some (.ref m), z, none]) (n := n) (m := m) (by omega) (h0 := h) (Nat.le_refl _) (fun d z h => by simp [asn, List.set])
    (fun N Q z h ua hN hq hl => by
      obtain ⟨q, h1, e1, pq, u1⟩ := hp n N h ua hN
      refine ⟨q, h1, ?_, pq, u1⟩
      have g1 : h1[m]? = some (.lst (Q.map fr)) := by
        rw [u1.oth m (by omega) (List.getElem?_eq_some_iff.mp hq).1, hq]
      have ql : (Q.map fr).length < sizeLine := Nat.lt_of_le_of_lt (by simp; omega) sl
      have e9 : (Q ++ [q]).map fr = Q.map fr ++ [fr q] := by simp
      rw [e9]
      unfold L_law_poly_0
      refine (exs_nx (ex_exp (d := .non) (h1 := h1.set m (.lst (Q.map fr ++ [fr q]))) ?_)).trans ?_
      · simp only [ev, evs, List.getElem?_cons_zero, List.getElem?_cons_succ, R.bind_ok, lstOk, hq, e1, app, g1, ql, if_true]
      · rw [exs]) (upFrom 0 (k + 1)) (N + 1) [] none h2 u02 (by simp [upFrom]; omega) gm2 (by simp [upFrom]; omega)
  have lu : (upFrom 0 (k + 1)).length = k + 1 := by simp [upFrom]
  rw [lu] at l3 u3
  simp only [List.nil_append] at g3
  obtain ⟨q, h4, e4, pq, u4⟩ := hp n (N + 1 + 3 * (k + 1)) h3 u3.at_ (by omega)
  have ml3 : m < h3.length := (List.getElem?_eq_some_iff.mp g3).1
  have g4 : h4[m]? = some (.lst (Q2.map fr)) := by rw [u4.oth m (by omega) ml3, g3]
  have u04 := u3.trans u4
  -- the last part
  obtain ⟨q9, hq9, pq9, eq9⟩ : ∃ q9 : Rat, q9 ≠ 0 ∧ Pt q9 ∧ ev Δ gl (.ife (.cmp .NotEq (.idx (.var 4) (.int 0)) (.int 0)) (.var 4) (.tup (.cons (.int 1) (.cons (.int 1) .nil)))) [some (.ref n), some (.int 5), some (.ref m), z', some (fr q)] h4 = .ok (fr q9) h4 := by
    have zz : ixD (fr q) (.int 0) h4 = .ok (.int q.num) h4 := by simp [fr, ixD]
    by_cases hz : q.num = 0
    · refine ⟨1, by decide, Pt.one, ?_⟩
      simp [ev, evs, zz, cmpD, eqD, hz, lineOk, sizeLine]
      rfl
    · refine ⟨q, fun z => hz (by rw [z]; rfl), pq, ?_⟩
      simp [ev, evs, zz, cmpD, eqD, hz]
  obtain ⟨p, Q, rfl⟩ : ∃ p Q, Q2 = p :: Q := by
    cases Q2 with
    | nil => simp at l3
    | cons p Q => exact ⟨p, Q, rfl⟩
  let h5 : Hh := h4 ++ [.lst [fr q9], .lst ((p :: Q ++ [q9]).map fr)]
  have l4 : h4.length ≥ m + 1 := by have := u4.len; omega
  have u05 : Up n (N + 30) h h5 := (u04.app (t := [.lst [fr q9], .lst ((p :: Q ++ [q9]).map fr)])).mono (by omega)
  have sm : small62 (((k + 1 : Nat)) : Int) = true := small_nat (by omega)
  have key : exs Δ gl (B_law_poly i j) [some (.ref n), some (.int 5), none, none, none] h = .ok (.rt (.tup ((p :: Q ++ [q9]).map fr))) h5 := by
    unfold B_law_poly
    refine (exs_nx (ex_asg (d := .ref m) (h1 := h ++ [.lst []]) ?_)).trans ?_
    · simp [ev, evs, alloc, lineOk, sizeLine, m]
    simp only [List.set]
    refine (exs_nx (ex_for (p := upFrom 0 (k + 1)) (gs := []) (h1 := h2) ?_ e3)).trans ?_
    · refine evi_rng1 (k := k + 1) ?_ sm
      have : (1 : Int) + (k : Int) = ((k + 1 : Nat) : Int) := by omega
      simp only [evs, ev, List.getElem?_cons_zero, List.getElem?_cons_succ, R.bind_ok, e2, bop, this]
    refine (exs_nx (ex_asg (d := fr q) (h1 := h4) ?_)).trans ?_
    · simp only [ev, evs, List.getElem?_cons_zero, R.bind_ok, e4]
    simp only [List.set]
    refine exs_rt ?_
    have t1 : ev Δ gl (.lst (.cons (.ife (.cmp .NotEq (.idx (.var 4) (.int 0)) (.int 0)) (.var 4) (.tup (.cons (.int 1) (.cons (.int 1) .nil)))) .nil)) [some (.ref n), some (.int 5), some (.ref m), z', some (fr q)] h4 = .ok (.ref h4.length) (h4 ++ [.lst [fr q9]]) := by
      rw [ev, evs, eq9]
      simp only [evs, R.bind_ok, alloc]
      simp [lineOk, sizeLine]
    have g5 : (h4 ++ [HS.C.lst [fr q9]])[m]? = some (.lst ((p :: Q).map fr)) := by rw [List.getElem?_append_left (by omega), g4]
    have g6 : (h4 ++ [HS.C.lst [fr q9]])[h4.length]? = some (.lst [fr q9]) := get_end
    have lo : lineOk (((p :: Q).map fr).length + [fr q9].length) = true := by simp [lineOk, sizeLine] at l3 ⊢; omega
    have t2 : bop .add (.ref m) (.ref h4.length) (h4 ++ [HS.C.lst [fr q9]]) = .ok (.ref (h4.length + 1)) h5 := by
      simp only [bop, g5, g6, lo, if_true, alloc]
      simp [h5]
    have g7 : h5[h4.length + 1]? = some (.lst ((p :: Q ++ [q9]).map fr)) := by simp [h5]
    rw [ev, evs, ev, ev]
    simp only [List.getElem?_cons_zero, List.getElem?_cons_succ, R.bind_ok, t1, t2, evs, bltD, listAt, g7]
  obtain ⟨h9, t1, t2⟩ := tidy_up (d := .tup ((p :: Q ++ [q9]).map fr)) (flat_frs _) ua (show N ≤ N + 30 by omega) u05
  refine ⟨p, Q, q9, h9, ?_, hq9, fun x hx => ?_, by simp at l3; omega, t2⟩
  · simp only [run, F_law_poly, List.length_cons, List.length_nil, if_true, List.map_cons, List.map_nil, List.replicate, List.cons_append, List.nil_append]
    rw [key]
    exact t1
  · rcases List.mem_append.mp hx with hx | hx
    · exact p3 x hx
    · rw [List.mem_singleton.mp hx]
      exact pq9

theorem s_law_flat {i j k : Nat} (hp : S_part (Δ i)) (hm : S_op (· * ·) (Δ j)) (hs : S_op (· - ·) (Δ k)) : S_flatL (run Δ gl (F_law_flat i j k)) := by
  intro n N x h ua hN px
  obtain ⟨a, h1, e1, pa, u1⟩ := hp n N h ua (by omega)
  obtain ⟨b0, h2, e2, pb0, u2⟩ := hp n (N + 3) h1 u1.at_ (by omega)
  have zz : ∀ (q : Rat) h, ixD (fr q) (.int 0) h = .ok (.int q.num) h := fun q h => by simp [fr, ixD]
  have z1 : ∀ (q : Rat) h, ixD (fr q) (.int 1) h = .ok (.int q.den) h := fun q h => by simp [fr, ixD]
  obtain ⟨b, hb, pb, eb⟩ : ∃ b : Rat, b ≠ 0 ∧ Pt b ∧ ev Δ gl (.ife (.cmp .NotEq (.idx (.var 3) (.int 0)) (.int 0)) (.var 3) (.tup (.cons (.int 1) (.cons (.int 1) .nil)))) [some (.ref n), some (fz ⟨x, 0⟩), some (fr a), some (fr b0), some (fr x), none] h2 = .ok (fr b) h2 := by
    by_cases hz : b0.num = 0
    · refine ⟨1, by decide, Pt.one, ?_⟩
      simp [ev, evs, zz, cmpD, eqD, hz, lineOk, sizeLine]
      rfl
    · refine ⟨b0, fun z => hz (by rw [z]; rfl), pb0, ?_⟩
      simp [ev, evs, zz, cmpD, eqD, hz]
  have sa := pa.sz
  have sb := pb.sz
  have sx := px.sz
  have m1 := hm x x 7 7 h2 sx sx (by decide)
  have m2 := hm b (x * x) 7 14 h2 sb (sx.mul sx) (by decide)
  have m3 := hs a (b * (x * x)) 7 21 h2 sa (sb.mul (sx.mul sx)) (by decide)
  have m4 := hm 2 b 2 7 h2 sz2 sb (by decide)
  have m4 : Δ j [.tup [.int 2, .int 1], fr b] h2 = _ := m4
  have m5 := hm (2 * b) x 9 7 h2 (sz2.mul sb) sx (by decide)
  have fb : fr (-b) = .tup [.int (0 - b.num), .int b.den] := by rw [fr_neg, Int.zero_sub]
  have u := (u1.trans u2).mono (show N + 3 + 3 ≤ N + 10 by omega)
  obtain ⟨h9, t1, t2⟩ := tidy_up (d := .tup ([a - b * (x * x), 2 * b * x, -b].map fr)) (flat_frs _) ua (show N ≤ N + 10 by omega) u
  refine ⟨a, b, h9, pa, pb, hb, ?_, t2⟩
  have i0 : ixD (fz ⟨x, 0⟩) (.int 0) h2 = .ok (fr x) h2 := ix0 _ _ _
  have key : exs Δ gl (B_law_flat i j k) [some (.ref n), some (fz ⟨x, 0⟩), none, none, none, none] h = .ok (.rt (.tup ([a - b * (x * x), 2 * b * x, -b].map fr))) h2 := by
    unfold B_law_flat
    refine (exs_nx (ρ1 := [some (.ref n), some (fz ⟨x, 0⟩), some (fr a), some (fr b0), some (fr x), none]) (h1 := h2) ?_).trans ?_
    · simp [ex, ev, evs, asn, asns, R.calm, List.set, e1, e2, i0, lineOk, sizeLine]
    refine (exs_nx (ex_asg eb)).trans ?_
    simp only [List.set]
    refine (exs_nx (ex_asg (d := fr (x * x)) (h1 := h2) ?_)).trans ?_
    · simp only [ev, evs, List.getElem?_cons_zero, List.getElem?_cons_succ, R.bind_ok, m1]
    simp only [List.set]
    refine exs_rt ?_
    simp only [List.map_cons, List.map_nil, fb]
    simp [ev, evs, m2, m3, m4, m5, zz, z1, bop, lineOk, sizeLine]
  simp only [run, F_law_flat, List.length_cons, List.length_nil, if_true, List.map_cons, List.map_nil, List.replicate, List.cons_append, List.nil_append]
  rw [key]
  exact t1
set_option maxHeartbeats 1000000 in
theorem s_run_at {i j k l m : Nat} (hs : S_start39 (Δ i)) (hg : S_num (Δ j)) (h6 : gl k = .int 6) (hsl : S_slope4 (Δ l)) (hst : S_stepBy (Δ m)) : S_run (run Δ gl (F_run_at i j k l m)) := by
  intro κ n cnt P z0 h en pb ft hc
  have l6 := en.len
  have n5 := en.n5
  have lu : (upFrom 0 cnt).length = cnt := by simp [upFrom]
  have c1 := hs P z0 h (by omega) en.ok
  have c2 := hg cnt 0 6 h (by omega) (by omega)
  have e4 : small62 (cnt : Int) = true := small_nat (by omega)
  have sl : 1000 < sizeLine := by decide
  have slp := fun (k : Nat) (z : Z2) (pz : PB (bs κ n k) z) (f : Fit κ n k) h => hsl κ n k P z h en pz f
  have stp := fun (k : Nat) (z w : Z2) (pz : PB (bs κ n k) z) (f : Fit κ n k) (e : nx P z = some w) h => hst κ n k P z w h en pz f e
  generalize hX : P.map fr = X at *
  obtain ⟨g1, g2⟩ := run_loop (tg := fun d ρ h => asn Δ gl (.nm 4) d ρ h) (bd := fun ρ h => exs Δ gl (L_run_at_0 l m) ρ h) (St := fun y x => [some (.tup X), some (fz z0), some (.int cnt), some (.ref h.length), y])
    (outF := fun y x => .xc ⟨4, []⟩ [some (.tup X), some (fz z0), some (.int cnt), some (.ref h.length), y]) en h (fun d y x h => by simp [asn, List.set])
    (fun acc z k y x pz f ha e => by
      refine ⟨y, x, ?_⟩
      have a1 : atI ((acc ++ [z]).map fz) (-1) = some (fz z) := by rw [List.map_append]; exact atI_last
      have s1 := fun h => slp k z pz f h
      simp only [e, if_true] at s1
      generalize (acc ++ [z]).map fz = Y at *
      simp [L_run_at_0, exs, ex, ev, evs, ixD, listAt, get_end, a1, s1, R.toF])
    (fun acc z w k y x pz f ha e => by
      refine ⟨x, ?_⟩
      have a1 : atI ((acc ++ [z]).map fz) (-1) = some (fz z) := by rw [List.map_append]; exact atI_last
      have s1 := fun h => slp k z pz f h
      simp only [e] at s1
      have s2 := fun h => stp k z w pz f e h
      have yl : ((acc ++ [z]).map fz).length < sizeLine := Nat.lt_of_le_of_lt (by simp; omega) sl
      have ye : ((acc ++ [z]) ++ [w]).map fz = (acc ++ [z]).map fz ++ [fz w] := by simp
      rw [ye]
      generalize (acc ++ [z]).map fz = Y at *
      simp [L_run_at_0, exs, ex, ev, evs, ixD, listAt, get_end, a1, s1, s2, R.toF, lstOk, app, yl])
    (fun y x => .inr (.inl ⟨_, _, rfl⟩)) (upFrom 0 cnt) [] 0 z0 none none pb (fun j h1 h2 => ft j (by rw [lu] at h2; omega)) (by rw [lu]; simp; omega)
  rw [lu] at g1 g2
  simp only [List.nil_append, List.map_cons, List.map_nil] at g1 g2
  have st : ∀ (ss : Ss) (r : R F), exs Δ gl ss [some (.tup X), some (fz z0), some (.int cnt), some (.ref h.length), none] (h ++ [.lst [fz z0]]) = r →
      exs Δ gl (.cons (.exp (.call i (.cons (.var 0) (.cons (.var 1) .nil)))) (.cons (.exp (.call j (.cons (.var 2) (.cons (.int 0) (.cons (.glb k) .nil))))) (.cons (.asg (.nm 3) (.lst (.cons (.var 1) .nil))) ss))) [some (.tup X), some (fz z0), some (.int cnt), none, none] h = r := fun ss r q => by
    refine (exs_nx (ex_exp (d := .non) (h1 := h) ?_)).trans ?_
    · simp [ev, evs, c1]
    refine (exs_nx (ex_exp (d := .non) (h1 := h) ?_)).trans ?_
    · simp [ev, evs, h6, c2]
    refine (exs_nx (ex_asg (d := .ref h.length) (h1 := h ++ [.lst [fz z0]]) ?_)).trans ?_
    · simp [ev, evs, lineOk, sizeLine, alloc]
    simpa only [List.set] using q
  refine ⟨fun lz q => ?_, fun q => ?_⟩
  · obtain ⟨y, x, e1⟩ := g1 lz q
    have key : exs Δ gl (B_run_at i j k l m) [some (.tup X), some (fz z0), some (.int cnt), none, none] h = .ok (.rt (.tup ((z0 :: lz).map fz))) (h ++ [.lst ((z0 :: lz).map fz)]) := by
      unfold B_run_at
      refine st _ _ ?_
      refine (exs_nx (ex_for (evi_rng1 (k := cnt) (by simp [evs, ev]) e4) e1)).trans ?_
      refine exs_rt ?_
      simp [ev, evs, bltD, listAt]
    exact (run_rt (f := F_run_at i j k l m) rfl key).trans (tidy_pre (flats_fz _))
  · obtain ⟨y, x, c, e1⟩ := g2 q
    have key : exs Δ gl (B_run_at i j k l m) [some (.tup X), some (fz z0), some (.int cnt), none, none] h = .ok (.xc ⟨4, []⟩ [some (.tup X), some (fz z0), some (.int cnt), some (.ref h.length), y]) (h ++ [c]) := by
      unfold B_run_at
      refine st _ _ ?_
      rw [exs, ex_for (evi_rng1 (k := cnt) (by simp [evs, ev]) e4) e1]
      rfl
    refine ⟨c, ?_⟩
    simp only [run, F_run_at, List.length_cons, List.length_nil, if_true, List.map_cons, List.map_nil, List.replicate, List.cons_append, List.nil_append]
    rw [key]
end
end HS

/-! k03: worths, growths, Taylor. -/
namespace HS
def hor (x : Rat) (P : List Rat) : Rat := P.foldr (fun a acc => acc * x + a) 0
def mulIx : Nat → List Rat → List Rat
  | _, [] => []
  | k, a :: l => a * (k : Rat) :: mulIx (k + 1) l
def der : List Rat → List Rat
  | [] => []
  | _ :: Q => mulIx 1 Q
def coef (l : List Rat) (i : Nat) : Rat := l.getD i 0
theorem hor_cons (x a : Rat) (P : List Rat) : hor x (a :: P) = hor x P * x + a := rfl
theorem hor_nil (x : Rat) : hor x [] = 0 := rfl
theorem coef_nil (i : Nat) : coef [] i = 0 := rfl
theorem coef_0 (a : Rat) (l : List Rat) : coef (a :: l) 0 = a := rfl
theorem coef_s (a : Rat) (l : List Rat) (i : Nat) : coef (a :: l) (i + 1) = coef l i := rfl
theorem nc_succ (n : Nat) : ((n + 1 : Nat) : Rat) = (n : Rat) + 1 := by
  have := Rat.natCast_add n 1
  simp
theorem nc_add (a b : Nat) : ((a + b : Nat) : Rat) = (a : Rat) + (b : Rat) := Rat.natCast_add a b
theorem coef_mulIx : ∀ (l : List Rat) (k i : Nat), coef (mulIx k l) i = coef l i * ((k : Rat) + i)
  | [], k, i => by rw [mulIx, coef_nil]; grind
  | a :: l, k, 0 => by
    rw [mulIx, coef_0, coef_0]
    have : ((0 : Nat) : Rat) = 0 := rfl
    rw [this]; grind
  | a :: l, k, i + 1 => by
    rw [mulIx, coef_s, coef_s, coef_mulIx l (k + 1) i, nc_succ, nc_succ]
    grind
theorem coef_der (l : List Rat) (i : Nat) : coef (der l) i = coef l (i + 1) * ((i : Rat) + 1) := by
  cases l with
  | nil => rw [der, coef_nil, coef_nil]; grind
  | cons a Q =>
    rw [der, coef_mulIx, coef_s]
    have : ((1 : Nat) : Rat) = 1 := rfl
    rw [this]; grind
theorem hor_zero (x : Rat) : ∀ (B : List Rat), (∀ i, coef B i = 0) → hor x B = 0
  | [], _ => rfl
  | b :: B, h => by
    have h0 := h 0
    rw [coef_0] at h0
    rw [hor_cons, hor_zero x B (fun i => h (i + 1)), h0]
    grind
theorem hor_lin (x c : Rat) : ∀ (L A B : List Rat), (∀ i, coef L i = c * coef A i + coef B i) → hor x L = c * hor x A + hor x B := by
  intro L
  induction L with
  | nil =>
    intro A
    induction A with
    | nil =>
      intro B h
      rw [hor_nil, hor_zero x B (fun i => by have := h i; rw [coef_nil] at this; grind)]
      grind
    | cons a A ih =>
      intro B h
      cases B with
      | nil =>
        have h0 := h 0
        simp only [coef_nil, coef_0] at h0
        have := ih [] (fun i => by have := h (i + 1); simp only [coef_nil, coef_s] at this ⊢; exact this)
        simp only [hor_nil] at this
        rw [hor_cons, hor_nil]
        grind
      | cons b B =>
        have h0 := h 0
        rw [coef_nil, coef_0, coef_0] at h0
        have := ih B (fun i => by have := h (i + 1); rw [coef_nil, coef_s, coef_s] at this; rw [coef_nil]; exact this)
        rw [hor_nil] at this
        rw [hor_nil, hor_cons, hor_cons]
        grind
  | cons l L ih =>
    intro A B h
    have h0 := h 0
    rw [coef_0] at h0
    cases A with
    | nil =>
      cases B with
      | nil =>
        have := ih [] [] (fun i => by have := h (i + 1); rw [coef_s, coef_nil] at this; rw [coef_nil]; exact this)
        rw [hor_nil] at this
        rw [coef_nil] at h0
        rw [hor_cons, hor_nil]
        grind
      | cons b B =>
        have := ih [] B (fun i => by have := h (i + 1); rw [coef_s, coef_nil, coef_s] at this; rw [coef_nil]; exact this)
        rw [hor_nil] at this
        rw [coef_nil, coef_0] at h0
        rw [hor_cons, hor_nil, hor_cons]
        grind
    | cons a A =>
      cases B with
      | nil =>
        have := ih A [] (fun i => by have := h (i + 1); rw [coef_s, coef_s, coef_nil] at this; rw [coef_nil]; exact this)
        rw [hor_nil] at this
        rw [coef_0, coef_nil] at h0
        rw [hor_cons, hor_cons, hor_nil]
        grind
      | cons b B =>
        have := ih A B (fun i => by have := h (i + 1); rw [coef_s, coef_s, coef_s] at this; exact this)
        rw [coef_0, coef_0] at h0
        rw [hor_cons, hor_cons, hor_cons]
        grind
def dI : Nat → List Rat → List Rat
  | 0, l => l
  | j + 1, l => der (dI j l)
theorem leib (a : Rat) (Q : List Rat) : ∀ (j i : Nat), coef (dI (j + 1) (a :: Q)) i = ((j : Rat) + 1) * coef (dI j Q) i + coef (0 :: dI (j + 1) Q) i
  | 0, i => by
    show coef (der (a :: Q)) i = _
    rw [coef_der, coef_s]
    have z : ((0 : Nat) : Rat) = 0 := rfl
    cases i with
    | zero =>
      rw [coef_0, z]
      show _ = _ * coef Q 0 + _
      grind
    | succ i =>
      rw [coef_s, z]
      show _ = _ * coef Q (i + 1) + coef (der Q) i
      rw [coef_der, nc_succ]
      grind
  | j + 1, i => by
    show coef (der (dI (j + 1) (a :: Q))) i = _
    rw [coef_der, leib a Q j (i + 1), coef_s]
    have d : coef (dI (j + 1) Q) i = coef (dI j Q) (i + 1) * ((i : Rat) + 1) := coef_der _ _
    cases i with
    | zero =>
      have z : ((0 : Nat) : Rat) = 0 := rfl
      rw [coef_0, z, nc_succ]
      rw [z] at d
      grind
    | succ i =>
      rw [coef_s]
      have e : coef (dI (j + 1 + 1) Q) i = coef (dI (j + 1) Q) (i + 1) * ((i : Rat) + 1) := coef_der _ _
      rw [e, nc_succ, nc_succ]
      rw [nc_succ] at d
      grind
theorem dI_len (Q : List Rat) : ∀ j, (dI j Q).length = Q.length - j
  | 0 => rfl
  | j + 1 => by
    have ml : ∀ (l : List Rat) (k : Nat), (mulIx k l).length = l.length := fun l => by
      induction l with
      | nil => intro k; rfl
      | cons a l ih => intro k; rw [mulIx, List.length_cons, List.length_cons, ih]
    have h := dI_len Q j
    show (der (dI j Q)).length = _
    cases e : dI j Q with
    | nil => rw [e] at h; simp [der] at h ⊢; omega
    | cons a R => rw [e] at h; simp [der, ml] at h ⊢; omega
def byN (y : Rat) : Nat → Rat
  | 0 => 1
  | j + 1 => byN y j * y / ((j : Rat) + 1)
def sumV (x y : Rat) (P : List Rat) : Nat → Rat
  | 0 => 0
  | n + 1 => sumV x y P n + byN y n * hor x (dI n P)
theorem nc_ne (j : Nat) : (j : Rat) + 1 ≠ 0 := by
  have : (0 : Rat) ≤ (j : Rat) := Rat.natCast_nonneg
  grind
theorem by_step (y : Rat) (j : Nat) : byN y (j + 1) * ((j : Rat) + 1) = byN y j * y := by
  have := nc_ne j
  rw [byN]
  generalize (j : Rat) + 1 = d at *
  grind
theorem v_succ (x a : Rat) (Q : List Rat) (j : Nat) : hor x (dI (j + 1) (a :: Q)) = ((j : Rat) + 1) * hor x (dI j Q) + x * hor x (dI (j + 1) Q) := by
  have h := hor_lin x ((j : Rat) + 1) (dI (j + 1) (a :: Q)) (dI j Q) (0 :: dI (j + 1) Q) (leib a Q j)
  rw [h, hor_cons]
  grind
theorem sum_cons (x y a : Rat) (Q : List Rat) : ∀ n, sumV x y (a :: Q) (n + 1) = a + x * sumV x y Q (n + 1) + y * sumV x y Q n
  | 0 => by
    show 0 + 1 * hor x (a :: Q) = a + x * (0 + 1 * hor x Q) + y * 0
    rw [hor_cons]
    grind
  | n + 1 => by
    have ih := sum_cons x y a Q n
    have bs := by_step y n
    have vs := v_succ x a Q n
    have e1 : sumV x y (a :: Q) (n + 1 + 1) = sumV x y (a :: Q) (n + 1) + byN y (n + 1) * hor x (dI (n + 1) (a :: Q)) := rfl
    have e2 : sumV x y Q (n + 1 + 1) = sumV x y Q (n + 1) + byN y (n + 1) * hor x (dI (n + 1) Q) := rfl
    have e3 : sumV x y Q (n + 1) = sumV x y Q n + byN y n * hor x (dI n Q) := rfl
    rw [e1, ih, vs, e2]
    generalize hor x (dI (n + 1) Q) = A at *
    generalize hor x (dI n Q) = B at *
    generalize byN y (n + 1) = C at *
    generalize byN y n = D at *
    generalize sumV x y Q (n + 1) = S at *
    generalize sumV x y Q n = T at *
    grind
theorem taylor (x y : Rat) : ∀ P : List Rat, sumV x y P P.length = hor (x + y) P
  | [] => rfl
  | a :: Q => by
    have h := sum_cons x y a Q Q.length
    have z : dI Q.length Q = [] := List.eq_nil_of_length_eq_zero (by rw [dI_len]; omega)
    have e : sumV x y Q (Q.length + 1) = sumV x y Q Q.length := by
      show _ + byN y Q.length * hor x (dI Q.length Q) = _
      rw [z, hor_nil]; grind
    show sumV x y (a :: Q) (Q.length + 1) = _
    rw [h, e, taylor x y Q, hor_cons]
    grind
/-- the polynomial with one more root -/
def gw (x : Rat) : Rat → List Rat → List Rat
  | c, [] => [c]
  | c, p :: P => (c - p * x) :: gw x p P
theorem coef_gw (x : Rat) : ∀ (P : List Rat) (c : Rat) (i : Nat), coef (gw x c P) i = coef (c :: P) i - coef P i * x
  | [], c, 0 => by rw [gw, coef_0, coef_nil]; grind
  | [], c, i + 1 => by simp only [gw, coef_s, coef_nil]; grind
  | p :: P, c, 0 => by rw [gw, coef_0, coef_0, coef_0]
  | p :: P, c, i + 1 => by rw [gw, coef_s, coef_s, coef_gw x P p i, coef_s]
theorem gw_root (x : Rat) (P : List Rat) : hor x (gw x 0 P) = 0 := by
  have h := hor_lin x (-x) (gw x 0 P) P (0 :: P) (fun i => by rw [coef_gw]; grind)
  rw [h, hor_cons]
  grind
theorem gw_der (x : Rat) (P : List Rat) : hor x (der (gw x 0 P)) = hor x P := by
  have h1 := hor_lin x 1 P P [] (fun i => by rw [coef_nil]; grind)
  have h := hor_lin x (-x) (der (gw x 0 P)) (der P) (mulIx 1 P) (fun i => by
    rw [coef_der, coef_gw, coef_s, coef_der, coef_mulIx]
    have : ((1 : Nat) : Rat) = 1 := rfl
    rw [this]
    grind)
  have h2 := hor_lin x 1 (mulIx 1 P) P (0 :: der P) (fun i => by
    rw [coef_mulIx]
    have : ((1 : Nat) : Rat) = 1 := rfl
    rw [this]
    cases i with
    | zero =>
      have z : ((0 : Nat) : Rat) = 0 := rfl
      rw [coef_0, z]; grind
    | succ i => rw [coef_s, coef_der, nc_succ]; grind)
  rw [h, h2, hor_cons]
  grind
end HS

/-! k03: the defs of worths and growths. -/
namespace HS
open PySem L2
def L_worth_of_0 (f_ratio_sum f_ratio_product : Nat) : Ss :=
    (.cons (.asg (.nm 2) (.call f_ratio_sum (.cons (.call f_ratio_product (.cons (.var 2) (.cons (.var 1) .nil))) (.cons (.var 3) .nil)))) .nil)
def B_worth_of (g_ZERO f_ratio_sum f_ratio_product : Nat) : Ss :=
  (.cons (.asg (.nm 2) (.glb g_ZERO)) 
  (.cons (.fr (.nm 3) (.rev (.var 0)) (L_worth_of_0 f_ratio_sum f_ratio_product)) 
  (.cons (.ret (.var 2)) .nil)))
def F_worth_of (g_ZERO f_ratio_sum f_ratio_product : Nat) : Df := ⟨2, 4, B_worth_of g_ZERO f_ratio_sum f_ratio_product⟩
def B_growth_of (f_ratio_product : Nat) : Ss :=
  (.cons (.ret (.blt .tuple (.cons (.slc (.lc (.call f_ratio_product (.cons (.var 2) (.cons (.tup (.cons (.var 1) (.cons (.int 1) .nil))) .nil))) (.tup (.cons (.nm 1) (.cons (.nm 2) .nil))) (.enm (.var 0)) .no [1, 2]) (.so (.int 1)) .no) .nil))) .nil)
def F_growth_of (f_ratio_product : Nat) : Df := ⟨1, 3, B_growth_of f_ratio_product⟩
def B_check_fraction (f_is_ratio : Nat) : Ss :=
  (.cons (.ife (.not (.call f_is_ratio (.cons (.var 0) .nil))) (
    (.cons .never .nil)) (.nil)) .nil)
def F_check_fraction (f_is_ratio : Nat) : Df := ⟨1, 1, B_check_fraction f_is_ratio⟩
def B_worth_at (f_check_polynomial f_check_fraction f_worth_of : Nat) : Ss :=
  (.cons (.exp (.call f_check_polynomial (.cons (.var 0) .nil))) 
  (.cons (.exp (.call f_check_fraction (.cons (.var 1) .nil))) 
  (.cons (.ret (.call f_worth_of (.cons (.var 0) (.cons (.var 1) .nil)))) .nil)))
def F_worth_at (f_check_polynomial f_check_fraction f_worth_of : Nat) : Df := ⟨2, 2, B_worth_at f_check_polynomial f_check_fraction f_worth_of⟩
def B_growth (f_check_polynomial f_growth_of : Nat) : Ss :=
  (.cons (.exp (.call f_check_polynomial (.cons (.var 0) .nil))) 
  (.cons (.ret (.call f_growth_of (.cons (.var 0) .nil))) .nil))
def F_growth (f_check_polynomial f_growth_of : Nat) : Df := ⟨1, 1, B_growth f_check_polynomial f_growth_of⟩
def L_law_at_0 (f__law_plus f__law_times : Nat) : Ss :=
    (.cons (.asg (.nm 2) (.call f__law_plus (.cons (.call f__law_times (.cons (.var 2) (.cons (.var 1) .nil))) (.cons (.var 3) .nil)))) .nil)
def B_law_at (f__law_plus f__law_times : Nat) : Ss :=
  (.cons (.asg (.nm 2) (.tup (.cons (.int 0) (.cons (.int 1) .nil)))) 
  (.cons (.fr (.nm 3) (.rev (.var 0)) (L_law_at_0 f__law_plus f__law_times)) 
  (.cons (.ret (.var 2)) .nil)))
def F_law_at (f__law_plus f__law_times : Nat) : Df := ⟨2, 4, B_law_at f__law_plus f__law_times⟩
def B_law_growth (f__law_times : Nat) : Ss :=
  (.cons (.ret (.slc (.lc (.call f__law_times (.cons (.tup (.cons (.var 1) (.cons (.int 1) .nil))) (.cons (.var 2) .nil))) (.tup (.cons (.nm 1) (.cons (.nm 2) .nil))) (.enm (.var 0)) .no [1, 2]) (.so (.int 1)) .no)) .nil)
def F_law_growth (f__law_times : Nat) : Df := ⟨1, 3, B_law_growth f__law_times⟩
/-! ### sizes -/
theorem sz0 {B : Nat} (h : 1 ≤ B) : Sz B 0 := (show Sz 1 0 from ⟨bts (by decide), bts (by decide)⟩).mono h
theorem hor_sz {E X : Nat} {x : Rat} (sx : Sz X x) : ∀ {P : List Rat}, (∀ p ∈ P, Sz E p) → Sz ((E + X + 1) * P.length + 1) (hor x P)
  | [], _ => sz0 (by omega)
  | a :: P, h => by
    have ih := hor_sz (E := E) sx (P := P) fun p hp => h p (List.mem_cons_of_mem _ hp)
    rw [hor_cons]
    refine ((ih.mul sx).add (h a (by simp))).mono ?_
    rw [List.length_cons, Nat.mul_add]
    omega
theorem sz_nat {k : Nat} (h : k < 16) : Sz 4 (k : Rat) := by
  constructor
  · show Bt 4 (k : Rat).num
    rw [Rat.num_natCast]
    exact bts (by omega)
  · show Bt 4 ((k : Rat).den : Int)
    rw [Rat.den_natCast]
    exact bts (by decide)
theorem mulIx_sz {E : Nat} : ∀ {P : List Rat} {k : Nat}, (∀ p ∈ P, Sz E p) → k + P.length ≤ 16 → ∀ p ∈ mulIx k P, Sz (E + 4) p
  | [], _, _, _, p, hp => by cases hp
  | a :: P, k, h, hl, p, hp => by
    rw [List.length_cons] at hl
    rw [mulIx] at hp
    rcases List.mem_cons.mp hp with rfl | hp
    · exact (h a (by simp)).mul (sz_nat (by omega))
    · exact mulIx_sz (fun p hp => h p (List.mem_cons_of_mem _ hp)) (by omega) p hp
theorem der_sz {E : Nat} {P : List Rat} (h : ∀ p ∈ P, Sz E p) (hl : P.length ≤ 15) : ∀ p ∈ der P, Sz (E + 4) p := by
  cases P with
  | nil => intro p hp; cases hp
  | cons a Q =>
    intro p hp
    exact mulIx_sz (P := Q) (k := 1) (fun p hp => h p (List.mem_cons_of_mem _ hp)) (by simp at hl; omega) p hp
theorem fr_nat (k : Nat) : fr (k : Rat) = .tup [.int k, .int 1] := by
  unfold fr
  rw [Rat.num_natCast, Rat.den_natCast]
  rfl
/-- items with their places -/
def enumFr : Nat → List Rat → List D
  | _, [] => []
  | k, p :: P => .tup [.int k, fr p] :: enumFr (k + 1) P
theorem numbered_fr (P : List Rat) : numbered (P.map fr) = enumFr 0 P := by
  have g : ∀ (P : List Rat) (k : Nat), ((P.map fr).zipIdx k).map (fun p => D.tup [.int p.2, p.1]) = enumFr k P := fun P => by
    induction P with
    | nil => intro k; rfl
    | cons p P ih =>
      intro k
      rw [List.map_cons, List.zipIdx_cons, List.map_cons, ih]
      rfl
  exact g P 0
theorem lc_enum {gs : Gs} {el : D → Hh → R (Option D)} {h : Hh} (hg : gsOk gs h) : ∀ (P : List Rat) (k : Nat) (acc : List D), (∀ (i : Nat) (p : Rat), p ∈ P → i < k + P.length → el (.tup [.int i, fr p]) h = .ok (some (fr (p * (i : Rat)))) h) → acc.length + P.length < sizeLine → lcL gs el (enumFr k P) acc h = alloc (.lst (acc ++ (mulIx k P).map fr)) h
  | [], k, acc, _, hl => by
    simp at hl
    simp [enumFr, mulIx, lcL, hg, Nat.le_of_lt hl]
  | p :: P, k, acc, hel, hl => by
    simp at hl
    rw [enumFr]
    unfold lcL
    rw [if_pos ⟨hg, by omega⟩, hel k p (by simp) (by simp)]
    simp only [R.bind_ok]
    rw [lc_enum hg P (k + 1) (acc ++ [fr (p * (k : Rat))]) (fun i q hq hi => hel i q (List.mem_cons_of_mem _ hq) (by simp at hi ⊢; omega)) (by simp; omega)]
    simp [mulIx]
theorem cut1 (a : D) (l : List D) : cutD (a :: l) (some 1) none = l := by
  have e1 : HT.sIx (a :: l).length 0 (some 1) = 1 := by
    unfold HT.sIx
    simp
    try omega
  have e2 : HT.sIx (a :: l).length (a :: l).length none = (a :: l).length := rfl
  unfold cutD
  rw [e1, e2]
  simp
theorem cut1_nil : cutD [] (some 1) none = [] := by
  unfold cutD
  simp
theorem cut_der (P : List Rat) : cutD ((mulIx 0 P).map fr) (some 1) none = (der P).map fr := by
  cases P with
  | nil => exact cut1_nil
  | cons a Q => exact cut1 _ _
def S_worthOf (f : Fn) : Prop := ∀ (E X : Nat) (P : List Rat) (x : Rat) h, (∀ p ∈ P, Sz E p) → Sz X x → (E + X + 1) * P.length + X + E + 2 ≤ 8999 → f [.tup (P.map fr), fr x] h = .ok (fr (hor x P)) h
def S_lawAt (f : Fn) : Prop := ∀ (E X : Nat) (P : List Rat) (x : Rat) (m : Nat) h, h[m]? = some (.lst (P.map fr)) → (∀ p ∈ P, Sz E p) → Sz X x → (E + X + 1) * P.length + X + E + 2 ≤ 8999 → f [.ref m, fr x] h = .ok (fr (hor x P)) h
def S_growOf (f : Fn) : Prop := ∀ (E : Nat) (P : List Rat) h, (∀ p ∈ P, Sz E p) → P.length ≤ 15 → E ≤ 8000 → f [.tup (P.map fr)] h = .ok (.tup ((der P).map fr)) h
def S_lawGrow (f : Fn) : Prop := ∀ (E : Nat) (P : List Rat) (m : Nat) h, h[m]? = some (.lst (P.map fr)) → (∀ p ∈ P, Sz E p) → P.length ≤ 15 → E ≤ 8000 → f [.ref m] h = .ok (.ref h.length) (h ++ [.lst ((der P).map fr)])
def S_cfrac (f : Fn) : Prop := ∀ (q : Rat) h, f [fr q] h = .ok .non h
def S_worthAt (f : Fn) : Prop := ∀ (E X : Nat) (P : List Rat) (x : Rat) h, OkP P → P.length ≤ 9 → (∀ p ∈ P, Sz E p) → Sz X x → (E + X + 1) * P.length + X + E + 2 ≤ 8999 → f [.tup (P.map fr), fr x] h = .ok (fr (hor x P)) h
def S_growth (f : Fn) : Prop := ∀ (E : Nat) (P : List Rat) h, OkP P → P.length ≤ 9 → (∀ p ∈ P, Sz E p) → E ≤ 8000 → f [.tup (P.map fr)] h = .ok (.tup ((der P).map fr)) h
theorem hor_loop {gs : Gs} {tg : D → En → Hh → R En} {bd : En → Hh → R F} {St : D → Option D → En} {h : Hh} {x : Rat} {E X : Nat} (sx : Sz X x) (hgs : gsOk gs h) (htg : ∀ d a z, tg d (St a z) h = .ok (St a (some d)) h)
    (hb : ∀ (a : Rat) (R : List Rat), Sz E a → Sz ((E + X + 1) * R.length + 1) (hor x R) → (E + X + 1) * R.length + X + E + 2 ≤ 8999 → bd (St (fr (hor x R)) (some (fr a))) h = .ok (.nx (St (fr (hor x (a :: R))) (some (fr a)))) h) :
    ∀ (n : Nat) (A R : List Rat) (z : Option D), A.length = n → (∀ p ∈ A ++ R, Sz E p) → (E + X + 1) * (A ++ R).length + X + E + 2 ≤ 8999 → ∃ z', forL gs tg bd (A.map fr).reverse (St (fr (hor x R)) z) h = .ok (.nx (St (fr (hor x (A ++ R))) z')) h
  | 0, A, R, z, hA, hs, hl => by
    have : A = [] := List.eq_nil_of_length_eq_zero hA
    subst this
    exact ⟨z, by simp [forL, hgs]⟩
  | n + 1, A, R, z, hA, hs, hl => by
    obtain ⟨A', a, rfl⟩ : ∃ A' a, A = A' ++ [a] := ⟨A.dropLast, A.getLast (by intro z; subst z; simp at hA), (List.dropLast_concat_getLast _).symm⟩
    have lR : (E + X + 1) * R.length ≤ (E + X + 1) * (A' ++ [a] ++ R).length := Nat.mul_le_mul_left _ (by simp; omega)
    have e1 := hb a R (hs a (by simp)) (hor_sz sx fun p hp => hs p (by simp [hp])) (by omega)
    obtain ⟨z', e2⟩ := hor_loop sx hgs htg hb n A' (a :: R) (some (fr a)) (by simpa using hA) (fun p hp => hs p (by simpa using hp)) (by simpa using hl)
    refine ⟨z', ?_⟩
    have e3 : ((A' ++ [a]).map fr).reverse = fr a :: (A'.map fr).reverse := by simp
    have e6 : A' ++ [a] ++ R = A' ++ a :: R := by simp
    rw [e3, e6]
    unfold forL
    rw [if_pos hgs, htg]
    simp only [HS.R.calm_ok, HS.R.bind_ok, e1]
    exact e2
section
variable {Δ : Nat → Fn} {gl : Nat → D}
theorem hor_body {i j : Nat} (ha : S_op (· + ·) (Δ i)) (hm : S_op (· * ·) (Δ j)) {x : Rat} {E X : Nat} (sx : Sz X x) (v : Option D) (a : Rat) (R : List Rat) (h : Hh) (sa : Sz E a) (sr : Sz ((E + X + 1) * R.length + 1) (hor x R)) (hl : (E + X + 1) * R.length + X + E + 2 ≤ 8999) :
    exs Δ gl (L_worth_of_0 i j) [v, some (fr x), some (fr (hor x R)), some (fr a)] h = .ok (.nx [v, some (fr x), some (fr (hor x (a :: R))), some (fr a)]) h := by
  have e1 := hm (hor x R) x _ X h sr sx (by omega)
  have e2 := ha (hor x R * x) a _ E h (sr.mul sx) sa (by omega)
  rw [hor_cons]
  simp [L_worth_of_0, exs, ex, ev, evs, asn, HS.R.calm, List.set, e1, e2]
theorem s_worth_of {k i j : Nat} (h0 : gl k = fr 0) (ha : S_op (· + ·) (Δ i)) (hm : S_op (· * ·) (Δ j)) : S_worthOf (run Δ gl (F_worth_of k i j)) := by
  intro E X P x h hs sx hl
  obtain ⟨z, e1⟩ := hor_loop (gs := []) (tg := fun d ρ h => asn Δ gl (.nm 3) d ρ h) (bd := fun ρ h => exs Δ gl (L_worth_of_0 i j) ρ h) (St := fun a z => [some (.tup (P.map fr)), some (fr x), some a, z]) (h := h) sx (gsOk_nil h) (fun d a z => by simp [asn, List.set])
    (fun a R sa sr hl => hor_body ha hm sx _ a R h sa sr hl) P.length P [] none rfl (by simpa using hs) (by simpa using hl)
  simp only [List.append_nil, hor_nil] at e1
  have key : exs Δ gl (B_worth_of k i j) [some (.tup (P.map fr)), some (fr x), none, none] h = .ok (.rt (fr (hor x P))) h := by
    unfold B_worth_of
    refine (exs_nx (ex_asg (d := fr 0) (h1 := h) ?_)).trans ?_
    · simp [ev, h0]
    simp only [List.set]
    refine (exs_nx (ex_for (p := (P.map fr).reverse) (gs := []) (h1 := h) ?_ e1)).trans ?_
    · simp only [evi, ev, List.getElem?_cons_zero, HS.R.bind_ok, itemsD]
    refine exs_rt ?_
    simp [ev]
  exact (run_rt (f := F_worth_of k i j) rfl key).trans (tidy_self (fr_flat _))
theorem s_law_at {i j : Nat} (ha : S_op (· + ·) (Δ i)) (hm : S_op (· * ·) (Δ j)) : S_lawAt (run Δ gl (F_law_at i j)) := by
  intro E X P x m h hm' hs sx hl
  obtain ⟨z, e1⟩ := hor_loop (gs := [(m, P.map fr)]) (tg := fun d ρ h => asn Δ gl (.nm 3) d ρ h) (bd := fun ρ h => exs Δ gl (L_law_at_0 i j) ρ h) (St := fun a z => [some (.ref m), some (fr x), some a, z]) (h := h) sx (fun p hp => by simp at hp; subst hp; simp [listAt, hm']) (fun d a z => by simp [asn, List.set])
    (fun a R sa sr hl => hor_body ha hm sx _ a R h sa sr hl) P.length P [] none rfl (by simpa using hs) (by simpa using hl)
  simp only [List.append_nil, hor_nil] at e1
  have key : exs Δ gl (B_law_at i j) [some (.ref m), some (fr x), none, none] h = .ok (.rt (fr (hor x P))) h := by
    unfold B_law_at
    refine (exs_nx (ex_asg (d := fr 0) (h1 := h) ?_)).trans ?_
    · simp [ev, evs, lineOk, sizeLine]
      rfl
    simp only [List.set]
    refine (exs_nx (ex_for (p := (P.map fr).reverse) (gs := [(m, P.map fr)]) (h1 := h) ?_ e1)).trans ?_
    · simp only [evi, ev, List.getElem?_cons_zero, HS.R.bind_ok, itemsD, listAt, hm']
    refine exs_rt ?_
    simp [ev]
  exact (run_rt (f := F_law_at i j) rfl key).trans (tidy_self (fr_flat _))
theorem s_growth_of {i : Nat} (hm : S_op (· * ·) (Δ i)) : S_growOf (run Δ gl (F_growth_of i)) := by
  intro E P h hs hl hE
  have sl : 1000 < sizeLine := by decide
  have lm := lc_enum (gs := []) (el := fun d h => ((asn Δ gl (.tup (.cons (.nm 1) (.cons (.nm 2) .nil))) d (wipeD [some (.tup (P.map fr)), none, none] [1, 2]) h).bind fun ρ1 h => (evt Δ gl .no ρ1 h).bind fun b h => if b = true then (ev Δ gl (.call i (.cons (.var 2) (.cons (.tup (.cons (.var 1) (.cons (.int 1) .nil))) .nil))) ρ1 h).bind fun y h => .ok (some y) h else .ok none h).calm) (h := h) (gsOk_nil h) P 0 [] (fun k p hp hk => by
      have e := hm p (k : Rat) E 4 h (hs p hp) (sz_nat (by omega)) (by omega)
      rw [fr_nat] at e
      simp [asn, asns, wipeD, List.set, evt, ev, evs, e, lineOk, sizeLine, R.calm]) (by simp; omega)
  rw [List.nil_append] at lm
  have eA : ev Δ gl (.lc (.call i (.cons (.var 2) (.cons (.tup (.cons (.var 1) (.cons (.int 1) .nil))) .nil))) (.tup (.cons (.nm 1) (.cons (.nm 2) .nil))) (.enm (.var 0)) .no [1, 2]) [some (.tup (P.map fr)), none, none] h = .ok (.ref h.length) (h ++ [.lst ((mulIx 0 P).map fr)]) := by
    rw [ev, evi, ev]
    simp only [List.getElem?_cons_zero, R.bind_ok, itemsD, numbered_fr]
    exact lm
  have key : exs Δ gl (B_growth_of i) [some (.tup (P.map fr)), none, none] h = .ok (.rt (.tup ((der P).map fr))) (h ++ [.lst ((mulIx 0 P).map fr), .lst ((der P).map fr)]) := by
    unfold B_growth_of
    refine exs_rt ?_
    have g1 : (h ++ [C.lst ((mulIx 0 P).map fr)])[h.length]? = some (.lst ((mulIx 0 P).map fr)) := get_end
    have g2 : (h ++ [C.lst ((mulIx 0 P).map fr), C.lst ((der P).map fr)])[h.length + 1]? = some (.lst ((der P).map fr)) := by simp
    rw [ev, evs, ev, eA]
    simp [evs, ev, evo, getI, slD, listAt, g1, cut_der, alloc, bltD, g2]
  exact (run_rt (f := F_growth_of i) rfl key).trans (tidy_pre (flat_frs _))
theorem s_law_growth {i : Nat} (hm : S_op (· * ·) (Δ i)) : S_lawGrow (run Δ gl (F_law_growth i)) := by
  intro E P m h hm' hs hl hE
  have sl : 1000 < sizeLine := by decide
  have lm := lc_enum (gs := [(m, P.map fr)]) (el := fun d h => ((asn Δ gl (.tup (.cons (.nm 1) (.cons (.nm 2) .nil))) d (wipeD [some (.ref m), none, none] [1, 2]) h).bind fun ρ1 h => (evt Δ gl .no ρ1 h).bind fun b h => if b = true then (ev Δ gl (.call i (.cons (.tup (.cons (.var 1) (.cons (.int 1) .nil))) (.cons (.var 2) .nil))) ρ1 h).bind fun y h => .ok (some y) h else .ok none h).calm) (h := h) (fun p hp => by simp at hp; subst hp; simp [listAt, hm']) P 0 [] (fun k p hp hk => by
      have e := hm (k : Rat) p 4 E h (sz_nat (by omega)) (hs p hp) (by omega)
      have e : Δ i [.tup [.int k, .int 1], fr p] h = .ok (fr (p * (k : Rat))) h := by
        rw [← fr_nat, Rat.mul_comm p]
        exact e
      simp [asn, asns, wipeD, List.set, evt, ev, evs, e, lineOk, sizeLine, R.calm]) (by simp; omega)
  rw [List.nil_append] at lm
  have eA : ev Δ gl (.lc (.call i (.cons (.tup (.cons (.var 1) (.cons (.int 1) .nil))) (.cons (.var 2) .nil))) (.tup (.cons (.nm 1) (.cons (.nm 2) .nil))) (.enm (.var 0)) .no [1, 2]) [some (.ref m), none, none] h = .ok (.ref h.length) (h ++ [.lst ((mulIx 0 P).map fr)]) := by
    rw [ev, evi, ev]
    simp only [List.getElem?_cons_zero, R.bind_ok, itemsD, listAt, hm', numbered_fr]
    exact lm
  have g2 : (h ++ [C.lst ((mulIx 0 P).map fr), C.lst ((der P).map fr)])[h.length + 1]? = some (.lst ((der P).map fr)) := by simp
  have key : exs Δ gl (B_law_growth i) [some (.ref m), none, none] h = .ok (.rt (.ref (h.length + 1))) (h ++ [.lst ((mulIx 0 P).map fr), .lst ((der P).map fr)]) := by
    unfold B_law_growth
    refine exs_rt ?_
    have g1 : (h ++ [C.lst ((mulIx 0 P).map fr)])[h.length]? = some (.lst ((mulIx 0 P).map fr)) := get_end
    rw [ev, eA]
    simp [ev, evo, getI, slD, listAt, g1, cut_der, alloc]
  exact (run_rt (f := F_law_growth i) rfl key).trans (tidy_ref g2 (flats_fr _) (by omega))
theorem s_check_fraction {i : Nat} (hr : S_ratio (Δ i)) : S_cfrac (run Δ gl (F_check_fraction i)) := by
  intro q h
  have e1 := hr q h
  simp [run, F_check_fraction, B_check_fraction, exs, ex, ev, evs, e1, asBl]
  exact tidy_self rfl
theorem s_worth_at {i j k : Nat} (h1 : S_cpoly39 (Δ i)) (h2 : S_cfrac (Δ j)) (h3 : S_worthOf (Δ k)) : S_worthAt (run Δ gl (F_worth_at i j k)) := by
  intro E X P x h ok hl hs sx hb
  have e1 := h1 P h hl ok
  have e2 := h2 x h
  have e3 := h3 E X P x h hs sx hb
  generalize P.map fr = Y at *
  simp [run, F_worth_at, B_worth_at, exs, ex, ev, evs, e1, e2, e3]
  exact tidy_self (fr_flat _)
theorem s_growth {i j : Nat} (h1 : S_cpoly39 (Δ i)) (h2 : S_growOf (Δ j)) : S_growth (run Δ gl (F_growth i j)) := by
  intro E P h ok hl hs hE
  have e1 := h1 P h hl ok
  have e2 := h2 E P h hs (by omega) hE
  have ff := flat_frs (der P)
  generalize P.map fr = Y at *
  generalize (der P).map fr = Z at *
  simp [run, F_growth, B_growth, exs, ex, ev, evs, e1, e2]
  exact tidy_self ff
end
end HS

/-! k03: the law's sack, its fractions. -/
namespace HS
open PySem L2
def L_law_sack_0 : Ss :=
    (.cons (.asg (.nm 2) (.bin .mod (.blt .int (.cons (.bin .add (.bin .add (.bin .mul (.var 2) (.int 48611)) (.blt .int (.cons (.var 4) .nil))) (.int 29)) .nil)) (.int 2147483587))) 
    (.cons (.asg (.nm 3) (.bin .mod (.blt .int (.cons (.bin .add (.bin .add (.bin .mul (.var 3) (.int 30011)) (.bin .mod (.blt .int (.cons (.var 4) .nil)) (.int 1999999973))) (.bin .fdiv (.var 2) (.int 16))) .nil)) (.int 1999999973))) .nil))
def B_law_sack : Ss :=
  (.cons (.asg (.tup (.cons (.nm 2) (.cons (.nm 3) .nil))) (.tup (.cons (.bin .add (.int 70001) (.bin .mul (.int 5003) (.var 1))) (.cons (.bin .add (.int 40009) (.bin .mul (.int 7) (.var 1))) .nil)))) 
  (.cons (.fr (.nm 4) (.pln (.slc (.var 0) .no (.so (.int 12)))) (L_law_sack_0)) 
  (.cons (.asg (.nm 5) (.ife (.cmp .Lt (.var 1) (.blt .len (.cons (.var 0) .nil))) (.blt .abs (.cons (.blt .int (.cons (.idx (.var 0) (.var 1)) .nil)) .nil)) (.int 0))) 
  (.cons (.ret (.lst (.cons (.ife (.cmp .GtE (.var 5) (.bin .pow (.int 10) (.int 18))) (.var 5) (.int 0)) (.cons (.bin .mod (.blt .int (.cons (.bin .add (.var 2) (.bin .mul (.bin .mod (.blt .int (.cons (.var 5) .nil)) (.int 2147483587)) (.int 6911))) .nil)) (.int 2147483587)) (.cons (.var 3) .nil))))) .nil))))
def F_law_sack : Df := ⟨2, 6, B_law_sack⟩
def B_law_pull : Ss :=
  (.cons (.ife (.cmp .Gt (.idx (.var 0) (.int 0)) (.int 0)) (
    (.cons (.asg (.tup (.cons (.sub (.var 0) (.int 0)) (.cons (.nm 2) .nil))) (.blt .divmod (.cons (.idx (.var 0) (.int 0)) (.cons (.var 1) .nil)))) 
    (.cons (.ret (.var 2)) .nil))) (.nil)) 
  (.cons (.asg (.sub (.var 0) (.int 2)) (.bin .mod (.blt .int (.cons (.bin .add (.bin .mul (.idx (.var 0) (.int 2)) (.int 69069)) (.int 7)) .nil)) (.int 1999999973))) 
  (.cons (.asg (.sub (.var 0) (.int 1)) (.bin .mod (.blt .int (.cons (.bin .add (.bin .add (.bin .mul (.idx (.var 0) (.int 1)) (.int 40503)) (.bin .fdiv (.idx (.var 0) (.int 2)) (.int 8))) (.int 1)) .nil)) (.int 2147483587))) 
  (.cons (.ret (.bin .mod (.blt .int (.cons (.bin .add (.bin .fdiv (.idx (.var 0) (.int 1)) (.int 64)) (.bin .fdiv (.idx (.var 0) (.int 2)) (.int 128))) .nil)) (.var 1))) .nil))))
def F_law_pull : Df := ⟨2, 3, B_law_pull⟩
def L_law_f_0 : Ss :=
    (.cons (.asg (.tup (.cons (.nm 2) (.cons (.nm 3) .nil))) (.tup (.cons (.var 3) (.cons (.bin .mod (.blt .int (.cons (.var 2) .nil)) (.var 3)) .nil)))) .nil)
def B_law_f : Ss :=
  (.cons (.ife (.cmp .Lt (.var 1) (.int 0)) (
    (.cons (.asg (.tup (.cons (.nm 0) (.cons (.nm 1) .nil))) (.tup (.cons (.neg (.var 0)) (.cons (.neg (.var 1)) .nil)))) .nil)) (.nil)) 
  (.cons (.asg (.tup (.cons (.nm 2) (.cons (.nm 3) .nil))) (.tup (.cons (.blt .abs (.cons (.var 0) .nil)) (.cons (.var 1) .nil)))) 
  (.cons (.whl (.cmp .Gt (.var 3) (.int 0)) (L_law_f_0)) 
  (.cons (.ret (.tup (.cons (.bin .fdiv (.var 0) (.var 2)) (.cons (.bin .fdiv (.var 1) (.var 2)) .nil)))) .nil))))
def F_law_f : Df := ⟨2, 4, B_law_f⟩
def B_law_small (f__law_f f__law_pull : Nat) : Ss :=
  (.cons (.ret (.call f__law_f (.cons (.bin .sub (.call f__law_pull (.cons (.var 0) (.cons (.int 9) .nil))) (.int 4)) (.cons (.bin .add (.int 1) (.call f__law_pull (.cons (.var 0) (.cons (.int 3) .nil)))) .nil)))) .nil)
def F_law_small (f__law_f f__law_pull : Nat) : Df := ⟨1, 1, B_law_small f__law_f f__law_pull⟩
def N0 : Nat := 1999999972
def S_pull (f : Fn) : Prop := ∀ (n : Nat) (m : Int) h, UAt n N0 h → 0 < m → m < 1000000 → ∃ v h', f [.ref n, .int m] h = .ok (.int v) h' ∧ 0 ≤ v ∧ v < m ∧ Up n N0 h h'
def S_sack (f : Fn) : Prop := ∀ (ns : List Int) (turn : Int) h, ns.length ≤ 63 → 0 ≤ turn → turn < 1000 → ∃ xs, Ur N0 xs ∧ f [.fz (ns.map D.int), .int turn] h = .ok (.ref h.length) (h ++ [.lst xs])
def S_small (f : Fn) : Prop := ∀ (n : Nat) h, UAt n N0 h → ∃ q h', f [.ref n] h = .ok (fr q) h' ∧ Sz 3 q ∧ Up n N0 h h'
theorem gcd_loop2 {c : En → Hh → R Bool} {bd : En → Hh → R F} {h : Hh} {St : Int → Int → En} (hc : ∀ (a b : Nat), c (St a b) h = .ok (decide (0 < b)) h)
    (hb : ∀ (a b : Nat), 0 < b → bd (St a b) h = .ok (.nx (St b ((a % b : Nat) : Int))) h) :
    ∀ (b a : Nat), ∃ n, whN c bd n (St a b) h = some (.ok (.nx (St (Nat.gcd a b : Nat) 0)) h) := by
  intro b
  induction b using Nat.strongRecOn with
  | _ b ih =>
    intro a
    by_cases hz : b = 0
    · subst hz
      refine ⟨1, ?_⟩
      have := hc a 0
      simp only [Int.natCast_zero] at this
      simp [whN, this]
    · have hp : 0 < b := by omega
      obtain ⟨n, e⟩ := ih (a % b) (Nat.mod_lt _ hp) b
      refine ⟨n + 1, ?_⟩
      rw [Nat.gcd_comm, ← Nat.gcd_rec, Nat.gcd_comm] at e
      simp only [whN, hc a b, hb a b hp, hp, decide_true]
      exact e
section
variable {Δ : Nat → Fn} {gl : Nat → D}
theorem f_tail (u l : Int) (B : Nat) (h : Hh) (hl : 0 < l) (hb : Bt B l) (hB : B ≤ 8999) :
    exs Δ gl (.cons (.asg (.tup (.cons (.nm 2) (.cons (.nm 3) .nil))) (.tup (.cons (.blt .abs (.cons (.var 0) .nil)) (.cons (.var 1) .nil)))) 
  (.cons (.whl (.cmp .Gt (.var 3) (.int 0)) (L_law_f_0)) 
  (.cons (.ret (.tup (.cons (.bin .fdiv (.var 0) (.var 2)) (.cons (.bin .fdiv (.var 1) (.var 2)) .nil)))) .nil))) [some (.int u), some (.int l), none, none] h = .ok (.rt (fr (Rat.divInt u l))) h := by
  have l0 : l ≠ 0 := by omega
  obtain ⟨k, rfl⟩ : ∃ k : Nat, l = k := ⟨l.toNat, by omega⟩
  have ab : ∀ x : Int, (if x < 0 then -x else x) = ((x.natAbs : Nat) : Int) := fun x => by split <;> omega
  obtain ⟨n, e⟩ := gcd_loop2 (h := h) (c := fun ρ h => (ev Δ gl (.cmp .Gt (.var 3) (.int 0)) ρ h).bind asBl) (bd := fun ρ h => exs Δ gl L_law_f_0 ρ h) (St := fun a b => [some (.int u), some (.int k), some (.int a), some (.int b)])
    (fun a b => by simp [ev, cmpD, asBl]) (fun a b hb => by
      have hb0 : b ≠ 0 := by omega
      have e : Int.fmod (a : Int) (b : Int) = ((a % b : Nat) : Int) := by rw [Int.fmod_eq_emod_of_nonneg _ (by omega)]; simp
      simp [L_law_f_0, exs, ex, ev, evs, asn, asns, bltD, bop, hb0, lineOk, sizeLine, R.calm, List.set, e]) k u.natAbs
  have w := whL_of e
  have g0 : ((Int.gcd u (k : Int) : Nat) : Int) ≠ 0 := by
    intro z
    exact l0 (Int.gcd_eq_zero_iff.mp (Int.ofNat.inj z)).2
  have hg := gcd_bt (a := u) hb l0
  have p1 := fun x => pylong_of (a := x) hg hB
  have eg : Nat.gcd u.natAbs k = Int.gcd u (k : Int) := rfl
  rw [eg] at w
  rw [fr_divInt l0, if_pos hl]
  refine (exs_nx (ρ1 := [some (.int u), some (.int k), some (.int u.natAbs), some (.int k)]) (h1 := h) ?_).trans ?_
  · simp [ex, ev, evs, asn, asns, bltD, lineOk, sizeLine, R.calm, List.set, ab]
  refine (exs_nx (ρ1 := [some (.int u), some (.int k), some (.int (Int.gcd u (k : Int) : Nat)), some (.int 0)]) (h1 := h) ?_).trans ?_
  · rw [ex]
    exact w
  refine exs_rt ?_
  have k0 : u = 0 → ¬ k = 0 := fun _ => by omega
  have k1 : ¬ k = 0 := by omega
  simp [ev, evs, bop, g0, k0, k1, p1, lineOk, sizeLine]
theorem s_law_f : S_with (run Δ gl F_law_f) := by
  intro a b B h h0 hb hB
  by_cases hp : 0 < b
  · have t := f_tail (Δ := Δ) (gl := gl) a b B h hp hb hB
    have key : exs Δ gl B_law_f [some (.int a), some (.int b), none, none] h = .ok (.rt (fr (Rat.divInt a b))) h := by
      unfold B_law_f
      refine (exs_nx (ex_no (h1 := h) ?_)).trans t
      have : ¬ b < 0 := by omega
      simp [ev, cmpD, this]
    exact (run_rt (f := F_law_f) rfl key).trans (tidy_self (fr_flat _))
  · have t := f_tail (Δ := Δ) (gl := gl) (-a) (-b) B h (by omega) hb.neg hB
    rw [Rat.neg_divInt_neg] at t
    have key : exs Δ gl B_law_f [some (.int a), some (.int b), none, none] h = .ok (.rt (fr (Rat.divInt a b))) h := by
      unfold B_law_f
      refine (exs_nx (ρ1 := [some (.int (-a)), some (.int (-b)), none, none]) (h1 := h) ?_).trans t
      have : b < 0 := by omega
      simp [ex, exs, ev, evs, cmpD, this, asBl, asn, asns, lineOk, sizeLine, R.calm, R.toF, List.set]
    exact (run_rt (f := F_law_f) rfl key).trans (tidy_self (fr_flat _))
set_option maxHeartbeats 2000000 in
theorem s_law_pull : S_pull (run Δ gl F_law_pull) := by
  intro n m h ⟨xs, e, a, b, c, ex0, ha, hb1, hb2, hc1, hc2⟩ hm1 hm2
  subst ex0
  have hN : (N0 : Int) = 1999999972 := rfl
  have hl : n < h.length := (List.getElem?_eq_some_iff.mp e).1
  have hm0 : m ≠ 0 := by omega
  by_cases h0 : 0 < a
  · have up : Up n N0 h (h.set n (.lst [.int (a / m), .int b, .int c])) := .set hl ⟨a / m, b, c, rfl, Int.ediv_nonneg ha (by omega), hb1, hb2, hc1, hc2⟩
    obtain ⟨h2, t1, t2⟩ := tidy_up (d := .int (a % m)) rfl ⟨_, e, a, b, c, rfl, ha, hb1, hb2, hc1, hc2⟩ (Nat.le_refl N0) up
    refine ⟨a % m, h2, ?_, Int.emod_nonneg _ hm0, Int.emod_lt_of_pos _ hm1, t2⟩
    have hm3 : m < 1073741824 := by omega
    simp [run, F_law_pull, B_law_pull, exs, ex, ev, evs, asn, asns, asBl, listAt, e, ixD, cmpD, h0, bltD, hm1, hm3, setI, ixN, List.set, R.calm, t1]
  · have hs : ∀ z, (h.set n z)[n]? = some z := fun z => List.getElem?_set_self hl
    have m1 : mulOk c 69069 = true := mulOk_of (bt31 hc1 (by omega)) (bt_of (B := 17) (by decide)) (by decide)
    generalize ec : Int.fmod (c * 69069 + 7) 1999999973 = c2
    have c1' : 0 ≤ c2 := by rw [← ec]; exact Int.fmod_nonneg_of_pos _ (by decide)
    have c2' : c2 < 1999999973 := by rw [← ec]; exact Int.fmod_lt_of_pos _ (by decide)
    have m2 : mulOk b 40503 = true := mulOk_of (bt31 hb1 hb2) (bt_of (B := 16) (by decide)) (by decide)
    generalize eb : Int.fmod (b * 40503 + Int.fdiv c2 8 + 1) 2147483587 = b2
    have b1' : 0 ≤ b2 := by rw [← eb]; exact Int.fmod_nonneg_of_pos _ (by decide)
    have b2' : b2 < 2147483587 := by rw [← eb]; exact Int.fmod_lt_of_pos _ (by decide)
    have p1 : ∀ x, Builtin.divisionGoesByPylong x 8 = false := fun x => pylong_of (B := 4) (bt_of (by decide)) (by decide)
    have p2 : ∀ x, Builtin.divisionGoesByPylong x 64 = false := fun x => pylong_of (B := 7) (bt_of (by decide)) (by decide)
    have p3 : ∀ x, Builtin.divisionGoesByPylong x 128 = false := fun x => pylong_of (B := 8) (bt_of (by decide)) (by decide)
    have up : Up n N0 h (h.set n (.lst [.int a, .int b2, .int c2])) := .set hl ⟨a, b2, c2, rfl, ha, b1', by omega, c1', by omega⟩
    obtain ⟨h2, t1, t2⟩ := tidy_up (d := .int (Int.fmod (Int.fdiv b2 64 + Int.fdiv c2 128) m)) rfl ⟨_, e, a, b, c, rfl, ha, hb1, hb2, hc1, hc2⟩ (Nat.le_refl N0) up
    refine ⟨Int.fmod (Int.fdiv b2 64 + Int.fdiv c2 128) m, h2, ?_, Int.fmod_nonneg_of_pos _ hm1, Int.fmod_lt_of_pos _ hm1, t2⟩
    simp [run, F_law_pull, B_law_pull, exs, ex, ev, evs, asn, asns, asBl, listAt, e, hs, ixD, cmpD, h0, bltD, bop, hm0, setI, ixN, List.set, R.calm, m1, ec, m2, p1, eb, p2, p3, t1]
theorem s_law_small {i j : Nat} (hw : S_with (Δ i)) (hp : S_pull (Δ j)) : S_small (run Δ gl (F_law_small i j)) := by
  intro n h ua
  obtain ⟨v, h1, e1, v0, v1, u1⟩ := hp n 9 h ua (by decide) (by decide)
  obtain ⟨w, h2, e2, w0, w1, u2⟩ := hp n 3 h1 u1.at_ (by decide) (by decide)
  have e3 := hw (v - 4) (1 + w) 3 h2 (by omega) (by unfold Bt; omega) (by decide)
  obtain ⟨h9, t1, t2⟩ := tidy_up (d := fr (Rat.divInt (v - 4) (1 + w))) (fr_flat _) ua (Nat.le_refl N0) (u1.trans u2)
  refine ⟨_, h9, ?_, sz_divInt (B := 3) (a := v - 4) (b := 1 + w) (by omega) (by unfold Bt; omega) (by unfold Bt; omega), t2⟩
  simp [run, F_law_small, B_law_small, exs, ex, ev, evs, bop, e1, e2, e3, t1]
theorem sack_loop {tg : D → En → Hh → R En} {bd : En → Hh → R F} {gs : Gs} (h : Hh) (hgs : gsOk gs h) (St : Int → Int → Option D → En) (htg : ∀ d s t z, tg d (St s t z) h = .ok (St s t (some d)) h)
    (hb : ∀ (s t i : Int), 0 ≤ s → s < 2147483648 → 0 ≤ t → t < 1999999973 → ∃ s' t', 0 ≤ s' ∧ s' < 2147483648 ∧ 0 ≤ t' ∧ t' < 1999999973 ∧ bd (St s t (some (.int i))) h = .ok (.nx (St s' t' (some (.int i)))) h) :
    ∀ (items : List Int) (s t : Int) (z : Option D), 0 ≤ s → s < 2147483648 → 0 ≤ t → t < 1999999973 → ∃ s' t' z', 0 ≤ s' ∧ s' < 2147483648 ∧ 0 ≤ t' ∧ t' < 1999999973 ∧ forL gs tg bd (items.map D.int) (St s t z) h = .ok (.nx (St s' t' z')) h
  | [], s, t, z, h0, h1, h2, h3 => ⟨s, t, z, h0, h1, h2, h3, by simp [forL, hgs]⟩
  | i :: items, s, t, z, h0, h1, h2, h3 => by
    obtain ⟨s1, t1, a, b, c, d, e⟩ := hb s t i h0 h1 h2 h3
    obtain ⟨s2, t2, z2, a2, b2, c2, d2, e2⟩ := sack_loop h hgs St htg hb items s1 t1 (some (.int i)) a b c d
    refine ⟨s2, t2, z2, a2, b2, c2, d2, ?_⟩
    rw [List.map_cons]
    unfold forL
    rw [if_pos hgs, htg, HS.R.calm_ok, HS.R.bind_ok, e, HS.R.bind_ok]
    exact e2
set_option maxHeartbeats 2000000 in
theorem s_law_sack : S_sack (run Δ gl F_law_sack) := by
  intro ns turn h hl h0 h1
  have m1 : mulOk 5003 turn = true := mulOk_of (B := 13) (C := 10) (bts (by decide)) (by unfold Bt; omega) (by decide)
  have m2 : mulOk 7 turn = true := mulOk_of (B := 3) (C := 10) (bts (by decide)) (by unfold Bt; omega) (by decide)
  obtain ⟨ms, ec, lc⟩ := cut_ints ns none (some 12)
  have p16 : ∀ x, Builtin.divisionGoesByPylong x 16 = false := fun x => pylong_of (B := 5) (bt_of (by decide)) (by decide)
  obtain ⟨s, t, z, s0, s1, t0, t1, e1⟩ := sack_loop (gs := [(h.length, ms.map D.int)]) (tg := fun d ρ h => asn Δ gl (.nm 4) d ρ h) (bd := fun ρ h => exs Δ gl L_law_sack_0 ρ h) (h ++ [.lst (ms.map D.int)])
    (fun p hp => by rw [List.mem_singleton.mp hp]; simp [listAt])
    (fun s t z => [some (.fz (ns.map D.int)), some (.int turn), some (.int s), some (.int t), z, none]) (fun d s t z => by simp [asn, List.set])
    (fun s t i h0 h1 h2 h3 => by
      have m3 : mulOk s 48611 = true := mulOk_of (bt31 h0 h1) (bts (B := 16) (by decide)) (by decide)
      have m4 : mulOk t 30011 = true := mulOk_of (bt31 h2 (by omega)) (bts (B := 16) (by decide)) (by decide)
      refine ⟨Int.fmod (s * 48611 + i + 29) 2147483587, Int.fmod (t * 30011 + Int.fmod i 1999999973 + Int.fdiv (Int.fmod (s * 48611 + i + 29) 2147483587) 16) 1999999973, Int.fmod_nonneg_of_pos _ (by decide), by
        have := Int.fmod_lt_of_pos (s * 48611 + i + 29) (show (0 : Int) < 2147483587 by decide)
        omega, Int.fmod_nonneg_of_pos _ (by decide), Int.fmod_lt_of_pos _ (by decide), ?_⟩
      simp [L_law_sack_0, exs, ex, ev, evs, asn, bltD, bop, R.calm, List.set, m3, m4, p16]) ms (70001 + 5003 * turn) (40009 + 7 * turn) none (by omega) (by omega) (by omega) (by omega)
  -- the script's own number
  obtain ⟨own, o0, eo⟩ : ∃ own : Int, 0 ≤ own ∧ ev Δ gl (.ife (.cmp .Lt (.var 1) (.blt .len (.cons (.var 0) .nil))) (.blt .abs (.cons (.blt .int (.cons (.idx (.var 0) (.var 1)) .nil)) .nil)) (.int 0)) [some (.fz (ns.map D.int)), some (.int turn), some (.int s), some (.int t), z, none] (h ++ [.lst (ms.map D.int)]) = .ok (.int own) (h ++ [.lst (ms.map D.int)]) := by
    have ml : ((ns.map D.int).length : Int) = ns.length := by simp
    by_cases hlap : turn < ns.length
    · obtain ⟨k, hk, ek⟩ := atI_some (xs := ns.map D.int) h0 (by rw [ml]; exact hlap)
      have hk' : k < ns.length := by simpa using hk
      have ek : atI (ns.map D.int) turn = some (.int ns[k]) := by
        rw [ek, List.getElem?_map, List.getElem?_eq_getElem hk']
        rfl
      refine ⟨if ns[k] < 0 then -ns[k] else ns[k], by split <;> omega, ?_⟩
      simp only [ev, evs, List.getElem?_cons_zero, List.getElem?_cons_succ, R.bind_ok, bltD, cmpD, ml, decide_eq_true hlap, ixD, ek]
    · refine ⟨0, by decide, ?_⟩
      simp only [ev, evs, List.getElem?_cons_zero, List.getElem?_cons_succ, R.bind_ok, bltD, cmpD, ml, decide_eq_false hlap]
  generalize ew : (if 1000000000000000000 ≤ own then own else 0) = w
  have w0 : 0 ≤ w := by rw [← ew]; split <;> omega
  have b1 := Int.fmod_nonneg_of_pos own (show (0 : Int) < 2147483587 by decide)
  have b2 := Int.fmod_lt_of_pos own (show (0 : Int) < 2147483587 by decide)
  have m5 : mulOk (Int.fmod own 2147483587) 6911 = true := mulOk_of (bt31 b1 (by omega)) (bts (B := 13) (by decide)) (by decide)
  generalize es : Int.fmod (s + Int.fmod own 2147483587 * 6911) 2147483587 = s9
  have c1 : 0 ≤ s9 := by rw [← es]; exact Int.fmod_nonneg_of_pos _ (by decide)
  have c2 : s9 < 2147483587 := by rw [← es]; exact Int.fmod_lt_of_pos _ (by decide)
  have ur : Ur N0 [.int w, .int s9, .int t] := ⟨w, s9, t, rfl, w0, c1, by omega, t0, by have : (N0 : Int) = 1999999972 := rfl; omega⟩
  refine ⟨_, ur, ?_⟩
  have key : exs Δ gl B_law_sack [some (.fz (ns.map D.int)), some (.int turn), none, none, none, none] h = .ok (.rt (.ref (h ++ [C.lst (ms.map D.int)]).length)) (h ++ [.lst (ms.map D.int)] ++ [.lst [.int w, .int s9, .int t]]) := by
    unfold B_law_sack
    refine (exs_nx (ρ1 := [some (.fz (ns.map D.int)), some (.int turn), some (.int (70001 + 5003 * turn)), some (.int (40009 + 7 * turn)), none, none]) (h1 := h) ?_).trans ?_
    · simp [ex, ev, evs, asn, asns, bop, m1, m2, R.calm, List.set, lineOk, sizeLine]
    refine (exs_nx (ex_for (p := ms.map D.int) (gs := [(h.length, ms.map D.int)]) (h1 := h ++ [.lst (ms.map D.int)]) ?_ e1)).trans ?_
    · simp only [evi, ev, evo, getI, List.getElem?_cons_zero, R.bind_ok, slD, ec, alloc, itemsD, listAt, get_end]
    refine (exs_nx (ex_asg eo)).trans ?_
    simp only [List.set]
    refine exs_rt ?_
    have p18 : (10 : Int) ^ (18 : Int).toNat = 1000000000000000000 := by decide
    by_cases ho : 1000000000000000000 ≤ own
    · rw [if_pos ho] at ew
      subst ew
      simp [ev, evs, bop, cmpD, bltD, ho, m5, es, alloc, lineOk, sizeLine]
    · rw [if_neg ho] at ew
      subst ew
      simp [ev, evs, bop, cmpD, bltD, ho, m5, es, alloc, lineOk, sizeLine]
  exact (run_rt (f := F_law_sack) rfl key).trans (tidy_new (b := h) (t := [.lst (ms.map D.int)]) (ur_flats ur))
end
end HS

/-! k02: values of any kind. -/
namespace HS
open PySem L2
def oddS : List Str := ["", "x", "1/2"]
/-- a value of any kind, at most k deep; n is the sack's cell -/
def Good (n : Nat) (h : Hh) : Nat → D → Prop
  | 0, _ => False
  | k + 1, d => match d with
    | .non => True
    | .bl _ => True
    | .int i => Bt 110 i
    | .str s => s ∈ oddS
    | .tup xs => xs.length ≤ 12 ∧ ∀ x ∈ xs, Good n h k x
    | .ref j => j ≠ n ∧ ((∃ xs, h[j]? = some (.lst xs) ∧ xs.length ≤ 12 ∧ ∀ x ∈ xs, Good n h k x) ∨ h[j]? = some (.dic []))
    | _ => False
theorem Good.up {n : Nat} {h : Hh} : ∀ {k : Nat} {d : D}, Good n h k d → Good n h (k + 1) d
  | k + 1, .non, _ => trivial
  | k + 1, .bl _, _ => trivial
  | k + 1, .int i, g => g
  | k + 1, .str s, g => g
  | k + 1, .tup xs, g => ⟨g.1, fun x hx => (g.2 x hx).up⟩
  | k + 1, .ref j, g => by
    obtain ⟨g1, g2⟩ := g
    refine ⟨g1, g2.imp ?_ id⟩
    rintro ⟨xs, e, l, q⟩
    exact ⟨xs, e, l, fun x hx => (q x hx).up⟩
theorem Good.le {n : Nat} {h : Hh} {k k' : Nat} {d : D} (g : Good n h k d) (l : k ≤ k') : Good n h k' d := by
  induction l with
  | refl => exact g
  | step _ ih => exact ih.up
theorem Good.mono {n : Nat} {h h' : Hh} (m : ∀ j, j ≠ n → j < h.length → h'[j]? = h[j]?) : ∀ {k : Nat} {d : D}, Good n h k d → Good n h' k d
  | k + 1, .non, _ => trivial
  | k + 1, .bl _, _ => trivial
  | k + 1, .int i, g => g
  | k + 1, .str s, g => g
  | k + 1, .tup xs, g => ⟨g.1, fun x hx => (g.2 x hx).mono m⟩
  | k + 1, .ref j, g => by
    obtain ⟨g1, g2⟩ := g
    refine ⟨g1, ?_⟩
    rcases g2 with ⟨xs, e, l, q⟩ | e
    · exact .inl ⟨xs, by rw [m j g1 (List.getElem?_eq_some_iff.mp e).1]; exact e, l, fun x hx => (q x hx).mono m⟩
    · exact .inr (by rw [m j g1 (List.getElem?_eq_some_iff.mp e).1]; exact e)
theorem Good.app {n : Nat} {h t : Hh} {k : Nat} {d : D} (g : Good n h k d) : Good n (h ++ t) k d := g.mono fun j _ l => List.getElem?_append_left l
theorem Good.upd {n N : Nat} {h h' : Hh} {k : Nat} {d : D} (u : Up n N h h') (g : Good n h k d) : Good n h' k d := g.mono u.oth
theorem Good.flat {n : Nat} {h h' : Hh} : ∀ {k : Nat} {d : D}, d.flat = true → Good n h k d → Good n h' k d
  | k + 1, .non, _, _ => trivial
  | k + 1, .bl _, _, _ => trivial
  | k + 1, .int i, _, g => g
  | k + 1, .str s, _, g => g
  | k + 1, .tup xs, f, g => ⟨g.1, fun x hx => (g.2 x hx).flat ((D.flats_iff xs).mp (by simpa using f) x hx)⟩
  | k + 1, .ref j, f, _ => by simp at f
theorem good_fr {n : Nat} {h : Hh} {q : Rat} {B : Nat} (s : Sz B q) (hB : B ≤ 110) : Good n h 2 (fr q) := by
  refine ⟨by simp, fun x hx => ?_⟩
  simp only [List.mem_cons, List.not_mem_nil, or_false] at hx
  rcases hx with rfl | rfl
  · exact s.1.mono hB
  · exact s.2.mono hB
/-- what a def hands back may be told anew -/
theorem tidy_good {n N M k : Nat} {d : D} {h h' : Hh} (a : UAt n N h) (l : N ≤ M) (u : Up n M h h') (g : Good n h' k d) : ∃ d2 h2, tidy h d h' = .ok d2 h2 ∧ Good n h2 k d2 ∧ Up n M h h2 := by
  unfold tidy
  by_cases c : d.flat = true ∧ h <+: h'
  · exact ⟨d, h, by rw [if_pos c], g.flat c.1, .refl (a.mono l)⟩
  · rw [if_neg c]
    cases d with
    | ref m =>
      dsimp only
      cases e : h'[m]? with
      | none => exact ⟨_, _, rfl, g, u⟩
      | some cc =>
        cases cc with
        | lst xs =>
          dsimp only
          by_cases c2 : D.flats xs = true ∧ h <+: h' ∧ h.length ≤ m
          · rw [if_pos c2]
            refine ⟨_, _, rfl, ?_, ⟨(a.mono l).app, by simp, fun j _ hj => List.getElem?_append_left hj⟩⟩
            cases k with
            | zero => exact g.elim
            | succ k =>
              obtain ⟨g1, g2⟩ := g
              have nl := a.lt
              refine ⟨by omega, .inl ⟨xs, get_end, ?_⟩⟩
              rcases g2 with ⟨ys, e2, l2, q⟩ | e2
              · rw [e] at e2
                cases e2
                exact ⟨l2, fun x hx => (q x hx).flat ((D.flats_iff xs).mp c2.1 x hx)⟩
              · rw [e] at e2; cases e2
          · rw [if_neg c2]
            exact ⟨_, _, rfl, g, u⟩
        | dic _ => exact ⟨_, _, rfl, g, u⟩
        | ins _ _ => exact ⟨_, _, rfl, g, u⟩
    | non => exact ⟨_, _, rfl, g, u⟩
    | bl _ => exact ⟨_, _, rfl, g, u⟩
    | int _ => exact ⟨_, _, rfl, g, u⟩
    | str _ => exact ⟨_, _, rfl, g, u⟩
    | tup _ => exact ⟨_, _, rfl, g, u⟩
    | fz _ => exact ⟨_, _, rfl, g, u⟩
    | ty _ => exact ⟨_, _, rfl, g, u⟩
    | cls _ => exact ⟨_, _, rfl, g, u⟩
/-! ### what repr tells -/
def Wk : Nat → Nat
  | 0 => 0
  | k + 1 => 12 * (Wk k + 2) + 112
theorem shw_odd {s : Str} (hs : s ∈ oddS) {k : Nat} : Shw (.str s) 112 k := by
  simp only [oddS, List.mem_cons, List.not_mem_nil, or_false] at hs
  rcases hs with rfl | rfl | rfl <;> exact ⟨by decide +kernel, by decide +kernel, by simp [PyData.depth]⟩
theorem shw_dict0 {k : Nat} : Shw (.dict []) 112 (k + 1) := ⟨by decide +kernel, by decide +kernel, by simp [PyData.depth, PyData.depthKv]⟩
theorem good_rq {n : Nat} {h : Hh} : ∀ {k : Nat} {d : D} (m : Nat), k ≤ m → Good n h k d → Rq (deepR h m) d (Wk k) k
  | k + 1, .non, m, _, _ => Rq.non.mono (by simp only [Wk]; omega) (Nat.le_refl _)
  | k + 1, .bl _, m, _, _ => Rq.bl.mono (by simp only [Wk]; omega) (Nat.le_refl _)
  | k + 1, .int i, m, _, g => (Rq.int (B := 110) g (by decide)).mono (by simp only [Wk]; omega) (Nat.le_refl _)
  | k + 1, .str s, m, _, g => ⟨_, rfl, (shw_odd g).mono (by simp only [Wk]; omega) (Nat.le_refl _)⟩
  | k + 1, .tup xs, m, hm, g => by
    refine (Rq.tup (w := 12 * (Wk k + 2)) (Rqs.all (w1 := Wk k) (fun x hx => good_rq m (by omega) (g.2 x hx)) ?_)).mono (by simp only [Wk]; omega) (Nat.le_refl _)
    exact Nat.mul_le_mul_right _ g.1
  | k + 1, .ref j, m, hm, g => by
    obtain ⟨m, rfl⟩ : ∃ m', m = m' + 1 := ⟨m - 1, by omega⟩
    rcases g.2 with ⟨xs, e, l, q⟩ | e
    · refine (Rq.lst (w := 12 * (Wk k + 2)) e (Rqs.all (w1 := Wk k) (fun x hx => good_rq m (by omega) (q x hx)) ?_)).mono (by simp only [Wk]; omega) (Nat.le_refl _)
      exact Nat.mul_le_mul_right _ l
    · refine ⟨.dict [], ?_, shw_dict0.mono (by simp only [Wk]; omega) (Nat.le_refl _)⟩
      show deepR h (m + 1) j = _
      unfold deepR
      rw [e]
theorem good_repr {n : Nat} {h : Hh} {d : D} (g : Good n h 5 d) : bltD .repr [d] h = .ok (.str (shownD h d)) h := repr_ok (good_rq 8 (by decide) g) (by decide) (by decide)
/-- what is not touched is shown alike -/
theorem good_deep {n : Nat} {h h' : Hh} (m0 : ∀ j, j ≠ n → j < h.length → h'[j]? = h[j]?) : ∀ {k : Nat} {d : D} (m : Nat), k ≤ m → Good n h k d → d.deepW (deepR h' m) = d.deepW (deepR h m)
  | k + 1, .non, m, _, _ => rfl
  | k + 1, .bl _, m, _, _ => rfl
  | k + 1, .int i, m, _, g => rfl
  | k + 1, .str s, m, _, g => rfl
  | k + 1, .tup xs, m, hm, g => by
    have e : D.deepsW (deepR h' m) xs = D.deepsW (deepR h m) xs := by
      have g2 := g.2
      clear g
      induction xs with
      | nil => rfl
      | cons x xs ih => simp only [D.deepsW, good_deep m0 m (by omega) (g2 x (by simp)), ih (fun y hy => g2 y (List.mem_cons_of_mem _ hy))]
    simp only [D.deepW, e]
  | k + 1, .ref j, m, hm, g => by
    obtain ⟨m, rfl⟩ : ∃ m', m = m' + 1 := ⟨m - 1, by omega⟩
    show deepR h' (m + 1) j = deepR h (m + 1) j
    unfold deepR
    rcases g.2 with ⟨xs, e, l, q⟩ | e
    · rw [m0 j g.1 (List.getElem?_eq_some_iff.mp e).1, e]
      have e2 : D.deepsW (deepR h' m) xs = D.deepsW (deepR h m) xs := by
        clear e l g
        induction xs with
        | nil => rfl
        | cons x xs ih => simp only [D.deepsW, good_deep m0 m (by omega) (q x (by simp)), ih (fun y hy => q y (List.mem_cons_of_mem _ hy))]
      simp only [e2]
    · rw [m0 j g.1 (List.getElem?_eq_some_iff.mp e).1, e]
theorem good_shown {n : Nat} {h h' : Hh} (m0 : ∀ j, j ≠ n → j < h.length → h'[j]? = h[j]?) {d : D} (g : Good n h 5 d) : shownD h' d = shownD h d := by
  unfold shownD D.deep
  rw [good_deep m0 8 (by decide) g]
/-! ### of what type -/
def isTp : D → Bool
  | .tup _ => true
  | _ => false
def isInt : D → Bool
  | .int _ => true
  | _ => false
def isBl : D → Bool
  | .bl _ => true
  | _ => false
theorem isi_t {n k : Nat} {h : Hh} : ∀ {d : D}, Good n h k d → isiD h d (.b "tuple") = .ok (.bl (isTp d)) h := by
  intro d g
  cases k with
  | zero => exact g.elim
  | succ k =>
    have k1 : kitB "NoneType" "tuple" = some false := by decide +kernel
    have k2 : kitB "bool" "tuple" = some false := by decide +kernel
    have k3 : kitB "int" "tuple" = some false := by decide +kernel
    have k4 : kitB "str" "tuple" = some false := by decide +kernel
    have k5 : kitB "tuple" "tuple" = some true := by decide +kernel
    have k6 : kitB "list" "tuple" = some false := by decide +kernel
    have k7 : kitB "dict" "tuple" = some false := by decide +kernel
    cases d with
    | non => simp [isiD, tyD, k1, isTp]
    | bl _ => simp [isiD, tyD, k2, isTp]
    | int _ => simp [isiD, tyD, k3, isTp]
    | str _ => simp [isiD, tyD, k4, isTp]
    | tup _ => simp [isiD, tyD, k5, isTp]
    | ref j =>
      rcases g.2 with ⟨xs, e, _⟩ | e
      · simp [isiD, tyD, e, k6, isTp]
      · simp [isiD, tyD, e, k7, isTp]
    | fz _ => exact g.elim
    | ty _ => exact g.elim
    | cls _ => exact g.elim
theorem isi_i {n k : Nat} {h : Hh} : ∀ {d : D}, Good n h k d → isiD h d (.b "int") = .ok (.bl (isInt d || isBl d)) h := by
  intro d g
  cases k with
  | zero => exact g.elim
  | succ k =>
    have k1 : kitB "NoneType" "int" = some false := by decide +kernel
    have k2 : kitB "bool" "int" = some true := by decide +kernel
    have k3 : kitB "int" "int" = some true := by decide +kernel
    have k4 : kitB "str" "int" = some false := by decide +kernel
    have k5 : kitB "tuple" "int" = some false := by decide +kernel
    have k6 : kitB "list" "int" = some false := by decide +kernel
    have k7 : kitB "dict" "int" = some false := by decide +kernel
    cases d with
    | non => simp [isiD, tyD, k1, isInt, isBl]
    | bl _ => simp [isiD, tyD, k2, isInt, isBl]
    | int _ => simp [isiD, tyD, k3, isInt, isBl]
    | str _ => simp [isiD, tyD, k4, isInt, isBl]
    | tup _ => simp [isiD, tyD, k5, isInt, isBl]
    | ref j =>
      rcases g.2 with ⟨xs, e, _⟩ | e
      · simp [isiD, tyD, e, k6, isInt, isBl]
      · simp [isiD, tyD, e, k7, isInt, isBl]
    | fz _ => exact g.elim
    | ty _ => exact g.elim
    | cls _ => exact g.elim
theorem isi_b {n k : Nat} {h : Hh} : ∀ {d : D}, Good n h k d → isiD h d (.b "bool") = .ok (.bl (isBl d)) h := by
  intro d g
  cases k with
  | zero => exact g.elim
  | succ k =>
    have k1 : kitB "NoneType" "bool" = some false := by decide +kernel
    have k2 : kitB "bool" "bool" = some true := by decide +kernel
    have k3 : kitB "int" "bool" = some false := by decide +kernel
    have k4 : kitB "str" "bool" = some false := by decide +kernel
    have k5 : kitB "tuple" "bool" = some false := by decide +kernel
    have k6 : kitB "list" "bool" = some false := by decide +kernel
    have k7 : kitB "dict" "bool" = some false := by decide +kernel
    cases d with
    | non => simp [isiD, tyD, k1, isBl]
    | bl _ => simp [isiD, tyD, k2, isBl]
    | int _ => simp [isiD, tyD, k3, isBl]
    | str _ => simp [isiD, tyD, k4, isBl]
    | tup _ => simp [isiD, tyD, k5, isBl]
    | ref j =>
      rcases g.2 with ⟨xs, e, _⟩ | e
      · simp [isiD, tyD, e, k6, isBl]
      · simp [isiD, tyD, e, k7, isBl]
    | fz _ => exact g.elim
    | ty _ => exact g.elim
    | cls _ => exact g.elim
/-! ### fractions among them -/
def isFr : D → Bool
  | .tup [.int a, .int b] => decide (0 < b) && decide (Int.gcd a b = 1)
  | _ => false
def areFr : D → Bool
  | .tup xs => xs.all isFr
  | _ => false
theorem fr_of {d : D} (h : isFr d = true) : ∃ q : Rat, d = fr q := by
  unfold isFr at h
  split at h
  · rename_i a b
    simp only [Bool.and_eq_true, decide_eq_true_eq] at h
    obtain ⟨h1, h2⟩ := h
    obtain ⟨m, rfl⟩ : ∃ m : Nat, b = m := ⟨b.toNat, by omega⟩
    refine ⟨⟨a, m, by omega, ?_⟩, rfl⟩
    have : Nat.gcd a.natAbs (m : Int).natAbs = 1 := h2
    simpa [Nat.Coprime] using this
  · cases h
theorem isFr_fr (q : Rat) : isFr (fr q) = true := by
  have p := den_pos' q
  have e : Int.gcd q.num q.den = 1 := q.reduced
  simp [isFr, fr, e]
  omega
theorem frs_of : ∀ {xs : List D}, xs.all isFr = true → ∃ P : List Rat, xs = P.map fr
  | [], _ => ⟨[], rfl⟩
  | x :: xs, h => by
    simp only [List.all_cons, Bool.and_eq_true] at h
    obtain ⟨q, rfl⟩ := fr_of h.1
    obtain ⟨P, rfl⟩ := frs_of h.2
    exact ⟨q :: P, rfl⟩
theorem areFr_frs (P : List Rat) : (P.map fr).all isFr = true := by
  rw [List.all_eq_true]
  intro x hx
  obtain ⟨q, _, rfl⟩ := List.mem_map.mp hx
  exact isFr_fr q
theorem good_sz {n k : Nat} {h : Hh} {q : Rat} (g : Good n h k (fr q)) : Sz 110 q := by
  cases k with
  | zero => exact g.elim
  | succ k =>
    have g1 := g.2 (.int q.num) (by simp)
    have g2 := g.2 (.int q.den) (by simp)
    cases k with
    | zero => exact g1.elim
    | succ k => exact ⟨g1, g2⟩
/-- the last one is not 0, if there is one -/
def lastNz : List Rat → Bool
  | [] => true
  | [q] => decide (q ≠ 0)
  | _ :: P => lastNz P
theorem lastNz_app (P : List Rat) (q : Rat) : lastNz (P ++ [q]) = decide (q ≠ 0) := by
  induction P with
  | nil => rfl
  | cons a P ih =>
    cases P with
    | nil => rfl
    | cons b P => exact ih
end HS

/-! k02: the package's own words about values of any kind. -/
namespace HS
open PySem L2
def B_is_from_nought (f_is_ratio : Nat) : Ss :=
  (.cons (.ret (.and (.call f_is_ratio (.cons (.var 0) .nil)) (.cmp .GtE (.idx (.var 0) (.int 0)) (.int 0)))) .nil)
def F_is_from_nought (f_is_ratio : Nat) : Df := ⟨1, 1, B_is_from_nought f_is_ratio⟩
def B_are_bounds (f_is_from_nought f_are_ratios g_MOST_POWER g_ZERO : Nat) : Ss :=
  (.cons (.ife (.or (.not (.isi (.var 0) (.b "tuple"))) (.or (.cmp .NotEq (.blt .len (.cons (.var 0) .nil)) (.int 2)) (.or (.not (.call f_is_from_nought (.cons (.idx (.var 0) (.int 0)) .nil))) (.not (.call f_are_ratios (.cons (.idx (.var 0) (.int 1)) .nil)))))) (
    (.cons (.ret (.bl false)) .nil)) (.nil)) 
  (.cons (.ife (.or (.cmp .GtE (.blt .len (.cons (.idx (.var 0) (.int 1)) .nil)) (.glb g_MOST_POWER)) (.not (.blt .all (.cons (.lc (.cmp .GtE (.idx (.var 1) (.int 0)) (.int 0)) (.nm 1) (.pln (.idx (.var 0) (.int 1))) .no [1]) .nil)))) (
    (.cons (.ret (.bl false)) .nil)) (.nil)) 
  (.cons (.ret (.or (.cmp .Eq (.idx (.var 0) (.int 1)) (.tup .nil)) (.cmp .NotEq (.idx (.idx (.var 0) (.int 1)) (.neg (.int 1))) (.glb g_ZERO)))) .nil)))
def F_are_bounds (f_is_from_nought f_are_ratios g_MOST_POWER g_ZERO : Nat) : Df := ⟨1, 2, B_are_bounds f_is_from_nought f_are_ratios g_MOST_POWER g_ZERO⟩
def B_is_bounds (f_are_bounds : Nat) : Ss :=
  (.cons (.ret (.call f_are_bounds (.cons (.var 0) .nil))) .nil)
def F_is_bounds (f_are_bounds : Nat) : Df := ⟨1, 1, B_is_bounds f_are_bounds⟩
def B_is_fraction (f_is_ratio : Nat) : Ss :=
  (.cons (.ret (.call f_is_ratio (.cons (.var 0) .nil))) .nil)
def F_is_fraction (f_is_ratio : Nat) : Df := ⟨1, 1, B_is_fraction f_is_ratio⟩
def B_is_point (f_is_pair : Nat) : Ss :=
  (.cons (.ret (.call f_is_pair (.cons (.var 0) .nil))) .nil)
def F_is_point (f_is_pair : Nat) : Df := ⟨1, 1, B_is_point f_is_pair⟩
def B_is_polynomial (f_is_parts : Nat) : Ss :=
  (.cons (.ret (.call f_is_parts (.cons (.var 0) .nil))) .nil)
def F_is_polynomial (f_is_parts : Nat) : Df := ⟨1, 1, B_is_polynomial f_is_parts⟩
def two : D → Bool
  | .tup [.int _, .int _] => true
  | _ => false
def spot : D → Bool
  | .tup [x, y] => isFr x && isFr y
  | _ => false
/-- the last one's upper number is not 0, if there is one -/
def lastD (xs : List D) : Bool := match xs.getLast? with
  | none => true
  | some (.tup (.int a :: _)) => decide (a ≠ 0)
  | _ => false
theorem lastD_frs (P : List Rat) : lastD (P.map fr) = lastNz P := by
  by_cases hP : P = []
  · subst hP; rfl
  · obtain ⟨Q, q, rfl⟩ : ∃ Q q, P = Q ++ [q] := ⟨P.dropLast, P.getLast hP, (List.dropLast_concat_getLast hP).symm⟩
    rw [lastNz_app]
    unfold lastD
    have e : ((Q ++ [q]).map fr).getLast? = some (fr q) := by simp
    rw [e]
    show decide (q.num ≠ 0) = _
    exact decide_eq_decide.mpr ⟨fun h z => h (by rw [z]; rfl), fun h z => h (Rat.num_eq_zero.mp z)⟩
def ge0 : D → Bool
  | .tup (.int a :: _) => decide (0 ≤ a)
  | _ => false
def polyV : D → Bool
  | .tup xs => xs.all isFr && (decide (xs.length ≤ 9) && lastD xs)
  | _ => false
def bndV : D → Bool
  | .tup [x, .tup ys] => isFr x && (ge0 x && (ys.all isFr && ((decide (ys.length < 8) && ys.all ge0) && lastD ys)))
  | _ => false
def S_wholeD (f : Fn) : Prop := ∀ n k d h, Good n h k d → f [d] h = .ok (.bl (isInt d)) h
def S_wholesD (f : Fn) : Prop := ∀ n k d h, Good n h k d → f [d, .int 2] h = .ok (.bl (two d)) h
def S_redD (f : Fn) : Prop := ∀ (a b : Int) h, f [.tup [.int a, .int b]] h = .ok (.bl (decide (Int.gcd a b = 1))) h
def S_frD (f : Fn) : Prop := ∀ n k d h, Good n h k d → f [d] h = .ok (.bl (isFr d)) h
def S_areD (f : Fn) : Prop := ∀ n k d h, Good n h k d → f [d] h = .ok (.bl (areFr d)) h
def S_spotD (f : Fn) : Prop := ∀ n k d h, Good n h k d → f [d] h = .ok (.bl (spot d)) h
def S_polyD (f : Fn) : Prop := ∀ n k d h, Good n h k d → f [d] h = .ok (.bl (polyV d)) h
def S_bndD (f : Fn) : Prop := ∀ n k d h, Good n h k d → f [d] h = .ok (.bl (bndV d)) h
section
variable {Δ : Nat → Fn} {gl : Nat → D}
theorem Good.item {n k : Nat} {h : Hh} {xs : List D} (g : Good n h k (.tup xs)) : ∃ k', k = k' + 1 ∧ ∀ x ∈ xs, Good n h k' x := by
  cases k with
  | zero => exact g.elim
  | succ k => exact ⟨k, rfl, g.2⟩
theorem Good.len {n k : Nat} {h : Hh} {xs : List D} (g : Good n h k (.tup xs)) : xs.length ≤ 12 := by
  cases k with
  | zero => exact g.elim
  | succ k => exact g.1
theorem s_is_wholeD : S_wholeD (run Δ gl F_is_whole) := by
  intro n k d h g
  have e1 := isi_i g
  have e2 := isi_b g
  cases hi : isInt d with
  | true =>
    have hb : isBl d = false := by cases d <;> first | rfl | (simp [isInt] at hi)
    rw [hi, hb] at e1
    rw [hb] at e2
    simp [run, F_is_whole, B_is_whole, exs, ex, ev, e1, e2]
    exact tidy_self rfl
  | false =>
    cases hb : isBl d with
    | true =>
      rw [hi, hb] at e1
      rw [hb] at e2
      simp [run, F_is_whole, B_is_whole, exs, ex, ev, e1, e2]
      exact tidy_self rfl
    | false =>
      rw [hi, hb] at e1
      simp [run, F_is_whole, B_is_whole, exs, ex, ev, e1]
      exact tidy_self rfl
theorem s_are_wholesD {i : Nat} (hw : S_wholeD (Δ i)) : S_wholesD (run Δ gl (F_are_wholes i)) := by
  intro n k d h g
  have e1 := isi_t g
  cases d with
  | tup xs =>
    have e1 : isiD h (.tup xs) (.b "tuple") = .ok (.bl true) h := e1
    by_cases l2 : xs.length = 2
    · match xs, l2 with
      | [x, y], _ =>
        obtain ⟨k', _, gi⟩ := g.item
        have w1 := hw n k' x h (gi x (by simp))
        have w2 := hw n k' y h (gi y (by simp))
        have t : two (.tup [x, y]) = (isInt x && isInt y) := by
          cases x <;> cases y <;> rfl
        rw [t]
        simp [run, F_are_wholes, B_are_wholes, exs, ex, ev, evs, evi, evt, asn, e1, bltD, cmpD, eqD, itemsD, lcL, gsOk_nil, sizeLine, wipeD, List.set, w1, w2, R.calm, alloc, listAt, blsOf]
        exact tidy_pre rfl
    · have t : two (.tup xs) = false := by
        unfold two
        split
        · rename_i q
          cases q
          simp at l2
        · rfl
      rw [t]
      have l2' : ¬ (xs.length : Int) = 2 := by omega
      simp [run, F_are_wholes, B_are_wholes, exs, ex, ev, evs, e1, bltD, cmpD, eqD, l2']
      exact tidy_self rfl
  | _ =>
    have t : ∀ z, isTp z = false → two z = false := fun z hz => by cases z <;> first | rfl | (simp [isTp] at hz)
    simp only [isTp] at e1
    simp [run, F_are_wholes, B_are_wholes, exs, ex, ev, evs, e1, two]
    exact tidy_self rfl
theorem s_is_reducedD {i : Nat} (hd : S_div (Δ i)) : S_redD (run Δ gl (F_is_reduced i)) := by
  intro a b h
  have w := hd a b h
  have c : ((Int.gcd a b : Nat) : Int) = 1 ↔ Int.gcd a b = 1 := by omega
  by_cases z : Int.gcd a b = 1
  · simp [run, F_is_reduced, B_is_reduced, exs, ex, ev, evs, w, cmpD, eqD, z]
    exact tidy_self rfl
  · simp [run, F_is_reduced, B_is_reduced, exs, ex, ev, evs, w, cmpD, eqD, z, c]
    exact tidy_self rfl
theorem s_is_ratioD {i j : Nat} (hw : S_wholesD (Δ i)) (hr : S_redD (Δ j)) : S_frD (run Δ gl (F_is_ratio i j)) := by
  intro n k d h g
  have w := hw n k d h g
  by_cases t : two d = true
  · obtain ⟨a, b, rfl⟩ : ∃ a b, d = .tup [.int a, .int b] := by
      unfold two at t
      split at t
      · exact ⟨_, _, rfl⟩
      · cases t
    rw [t] at w
    have r := hr a b h
    have e : isFr (.tup [.int a, .int b]) = (decide (0 < b) && decide (Int.gcd a b = 1)) := rfl
    rw [e]
    by_cases p : 0 < b
    · simp [run, F_is_ratio, B_is_ratio, exs, ex, ev, evs, w, r, ixD, cmpD, p]
      exact tidy_self rfl
    · simp [run, F_is_ratio, B_is_ratio, exs, ex, ev, evs, w, r, ixD, cmpD, p]
      exact tidy_self rfl
  · have t : two d = false := by simpa using t
    have e : isFr d = false := by
      unfold isFr
      split
      · simp [two] at t
      · rfl
    rw [t] at w
    rw [e]
    simp [run, F_is_ratio, B_is_ratio, exs, ex, ev, evs, w]
    exact tidy_self rfl
theorem evs2 {a b : E} {ρ : En} {h h1 h2 : Hh} {x y : D} (e1 : ev Δ gl a ρ h = .ok x h1) (e2 : ev Δ gl b ρ h1 = .ok y h2) : evs Δ gl (.cons a (.cons b .nil)) ρ h = .ok [x, y] h2 := by
  rw [evs, e1]
  simp only [R.bind_ok]
  rw [evs, e2]
  simp [evs]
theorem and_tt {a b : E} {ρ : En} {h h1 : Hh} (e : ev Δ gl a ρ h = .ok (.bl true) h1) : ev Δ gl (.and a b) ρ h = ev Δ gl b ρ h1 := by
  rw [ev, e]
  simp [asBl]
theorem or_ff {a b : E} {ρ : En} {h h1 : Hh} (e : ev Δ gl a ρ h = .ok (.bl false) h1) : ev Δ gl (.or a b) ρ h = ev Δ gl b ρ h1 := by
  rw [ev, e]
  simp [asBl]
theorem not_e {a : E} {ρ : En} {h h1 : Hh} {b : Bool} (e : ev Δ gl a ρ h = .ok (.bl b) h1) : ev Δ gl (.not a) ρ h = .ok (.bl (!b)) h1 := by
  rw [ev, e]
  simp [asBl]
theorem blsOf_mapg (g : D → Bool) : ∀ xs : List D, blsOf (xs.map fun x => D.bl (g x)) = some (xs.map g)
  | [] => rfl
  | x :: xs => by simp [blsOf, blsOf_mapg g xs]
theorem len12 {l : Nat} (h : l ≤ 12) : ([] : List D).length + l < sizeLine := Nat.lt_of_lt_of_le (show ([] : List D).length + l < 13 by simp; omega) (by decide)
theorem s_are_ratiosD {i : Nat} (hr : S_frD (Δ i)) : S_areD (run Δ gl (F_are_ratios i)) := by
  intro n k d h g
  have e1 := isi_t g
  cases d with
  | tup xs =>
    have e1 : isiD h (.tup xs) (.b "tuple") = .ok (.bl true) h := e1
    obtain ⟨k', _, gi⟩ := g.item
    have lc : ev Δ gl (.lc (.call i (.cons (.var 1) .nil)) (.nm 1) (.pln (.var 0)) .no [1]) [some (.tup xs), none] h = .ok (.ref h.length) (h ++ [.lst (xs.map fun x => D.bl (isFr x))]) := by
      refine (ev_lc (p := xs) (gs := []) (h1 := h) (by simp [evi, ev, itemsD])).trans ?_
      rw [lc_map (gsOk_nil h) (fun x => D.bl (isFr x)) xs [] (fun x hx => ?_) (len12 g.len)]
      · rfl
      · have := hr n k' x h (gi x hx)
        simp [asn, wipeD, List.set, evt, ev, evs, this, R.calm]
    have b := blsOf_mapg isFr xs
    have key : exs Δ gl (B_are_ratios i) [some (.tup xs), none] h = .ok (.rt (.bl (xs.all isFr))) (h ++ [.lst (xs.map fun x => D.bl (isFr x))]) := by
      unfold B_are_ratios
      refine exs_rt ?_
      rw [and_tt (h1 := h) (by simp [ev, e1]), ev, evs, lc]
      simp only [evs, R.bind_ok, bltD, listAt, get_end, b]
      simp [List.all_map]
    simp only [run, F_are_ratios, List.length_cons, List.length_nil, if_true, List.map_cons, List.map_nil, List.replicate, List.cons_append, List.nil_append]
    rw [key]
    exact tidy_pre rfl
  | _ =>
    simp only [isTp] at e1
    simp [run, F_are_ratios, B_are_ratios, exs, ex, ev, evs, e1, areFr]
    exact tidy_self rfl
theorem s_is_pairD {i : Nat} (hr : S_frD (Δ i)) : S_spotD (run Δ gl (F_is_pair i)) := by
  intro n k d h g
  have e1 := isi_t g
  cases d with
  | tup xs =>
    have e1 : isiD h (.tup xs) (.b "tuple") = .ok (.bl true) h := e1
    by_cases l2 : xs.length = 2
    · match xs, l2 with
      | [x, y], _ =>
        obtain ⟨k', _, gi⟩ := g.item
        have w1 := hr n k' x h (gi x (by simp))
        have w2 := hr n k' y h (gi y (by simp))
        have t : spot (.tup [x, y]) = (isFr x && isFr y) := rfl
        rw [t]
        cases hx : isFr x with
        | false =>
          rw [hx] at w1
          simp [run, F_is_pair, B_is_pair, exs, ex, ev, evs, e1, bltD, cmpD, eqD, ixD, w1]
          exact tidy_self rfl
        | true =>
          rw [hx] at w1
          simp [run, F_is_pair, B_is_pair, exs, ex, ev, evs, e1, bltD, cmpD, eqD, ixD, w1, w2]
          exact tidy_self rfl
    · have t : spot (.tup xs) = false := by
        unfold spot
        split
        · rename_i q
          cases q
          simp at l2
        · rfl
      rw [t]
      have l2' : ¬ (xs.length : Int) = 2 := by omega
      simp [run, F_is_pair, B_is_pair, exs, ex, ev, evs, e1, bltD, cmpD, eqD, l2']
      exact tidy_self rfl
  | _ =>
    simp only [isTp] at e1
    simp [run, F_is_pair, B_is_pair, exs, ex, ev, evs, e1, spot]
    exact tidy_self rfl
/-- value == () or value[-1] != ZERO -/
theorem last_ev {j : Nat} {a : E} {ρ : En} {h : Hh} {P : List Rat} (ea : ev Δ gl a ρ h = .ok (.tup (P.map fr)) h) (h0 : gl j = fr 0) : ev Δ gl (.or (.cmp .Eq a (.tup .nil)) (.cmp .NotEq (.idx a (.neg (.int 1))) (.glb j))) ρ h = .ok (.bl (lastNz P)) h := by
  have l0 : lineOk ([] : List D).length = true := by decide
  have eq := eqD_frs h P
  by_cases hP : P = []
  · subst hP
    simp only [ev, evs, ea, R.bind_ok, l0, if_true, cmpD, eq, asBl]
    simp [lastNz]
  · obtain ⟨Q, q, rfl⟩ : ∃ Q q, P = Q ++ [q] := ⟨P.dropLast, P.getLast hP, (List.dropLast_concat_getLast hP).symm⟩
    have al : atI ((Q ++ [q]).map fr) (-1) = some (fr q) := by
      rw [List.map_append]
      exact atI_last
    have e0 := eqD_fr0 h q
    rw [decide_eq_false hP] at eq
    rw [lastNz_app]
    simp only [ev, evs, ea, R.bind_ok, l0, if_true, cmpD, eq, asBl, ixD, al, h0, e0]
    simp
theorem polyV_no {d : D} (h : areFr d = false) : polyV d = false := by
  cases d <;> first | rfl | skip
  rename_i xs
  have h : xs.all isFr = false := h
  simp [polyV, h]
theorem frs_are {d : D} (h : areFr d = true) : ∃ P : List Rat, d = .tup (P.map fr) := by
  cases d <;> first | (simp [areFr] at h; done) | skip
  rename_i xs
  obtain ⟨P, rfl⟩ := frs_of (show xs.all isFr = true from h)
  exact ⟨P, rfl⟩
theorem s_is_partsD {i j k : Nat} (hr : S_areD (Δ i)) (h9 : gl j = .int 9) (h0 : gl k = fr 0) : S_polyD (run Δ gl (F_is_parts i j k)) := by
  intro n kk d h g
  have e1 := hr n kk d h g
  cases hd : areFr d with
  | false =>
    rw [hd] at e1
    rw [polyV_no hd]
    simp [run, F_is_parts, B_is_parts, exs, ex, ev, evs, e1]
    exact tidy_self rfl
  | true =>
    obtain ⟨P, rfl⟩ := frs_are hd
    rw [hd] at e1
    have lt := last_ev (Δ := Δ) (gl := gl) (j := k) (a := .var 0) (ρ := [some (.tup (P.map fr))]) (h := h) (P := P) (by simp [ev]) h0
    have pv : polyV (.tup (P.map fr)) = (decide (P.length ≤ 9) && lastNz P) := by
      show ((P.map fr).all isFr && (decide ((P.map fr).length ≤ 9) && lastD (P.map fr))) = _
      rw [areFr_frs, lastD_frs, List.length_map, Bool.true_and]
    rw [pv]
    by_cases p : P.length ≤ 9
    · have p' : (P.length : Int) ≤ 9 := by omega
      have key : exs Δ gl (B_is_parts i j k) [some (.tup (P.map fr))] h = .ok (.rt (.bl (lastNz P))) h := by
        unfold B_is_parts
        refine exs_rt ?_
        rw [and_tt (h1 := h) (by simp [ev, evs, e1]), and_tt (h1 := h) (by simp [ev, evs, bltD, h9, cmpD, p'])]
        exact lt
      rw [decide_eq_true p, Bool.true_and]
      simp only [run, F_is_parts, List.length_cons, List.length_nil, if_true, List.map_cons, List.map_nil, List.replicate, List.append_nil, Nat.sub_self]
      rw [key]
      exact tidy_self rfl
    · have p' : ¬ (P.length : Int) ≤ 9 := by omega
      rw [decide_eq_false p, Bool.false_and]
      simp [run, F_is_parts, B_is_parts, exs, ex, ev, evs, e1, bltD, h9, cmpD, p, p', asBl]
      exact tidy_self rfl
theorem s_is_bounds {i : Nat} (h : S_bndD (Δ i)) : S_bndD (run Δ gl (F_is_bounds i)) := by
  intro n k d H g
  have e := h n k d H g
  simp [run, F_is_bounds, B_is_bounds, exs, ex, ev, evs, e]
  exact tidy_self rfl
theorem s_is_fraction {i : Nat} (h : S_frD (Δ i)) : S_frD (run Δ gl (F_is_fraction i)) := by
  intro n k d H g
  have e := h n k d H g
  simp [run, F_is_fraction, B_is_fraction, exs, ex, ev, evs, e]
  exact tidy_self rfl
theorem s_is_point {i : Nat} (h : S_spotD (Δ i)) : S_spotD (run Δ gl (F_is_point i)) := by
  intro n k d H g
  have e := h n k d H g
  simp [run, F_is_point, B_is_point, exs, ex, ev, evs, e]
  exact tidy_self rfl
theorem s_is_polynomial {i : Nat} (h : S_polyD (Δ i)) : S_polyD (run Δ gl (F_is_polynomial i)) := by
  intro n k d H g
  have e := h n k d H g
  simp [run, F_is_polynomial, B_is_polynomial, exs, ex, ev, evs, e]
  exact tidy_self rfl
end
end HS

/-! k02: bounds; the law's own words. -/
namespace HS
open PySem L2
def B_law_is_fraction (f__law_f : Nat) : Ss :=
  (.cons (.ife (.or (.not (.isi (.var 0) (.b "tuple"))) (.cmp .NotEq (.blt .len (.cons (.var 0) .nil)) (.int 2))) (
    (.cons (.ret (.bl false)) .nil)) (.nil)) 
  (.cons (.ife (.cmp .NotEq (.lc (.var 1) (.nm 1) (.pln (.var 0)) (.so (.or (.not (.isi (.var 1) (.b "int"))) (.isi (.var 1) (.b "bool")))) [1]) (.lst .nil)) (
    (.cons (.ret (.bl false)) .nil)) (.nil)) 
  (.cons (.ret (.and (.cmp .Gt (.idx (.var 0) (.int 1)) (.int 0)) (.cmp .Eq (.call f__law_f (.cons (.idx (.var 0) (.int 0)) (.cons (.idx (.var 0) (.int 1)) .nil))) (.var 0)))) .nil)))
def F_law_is_fraction (f__law_f : Nat) : Df := ⟨1, 2, B_law_is_fraction f__law_f⟩
def B_law_are_fractions (f__law_is_fraction : Nat) : Ss :=
  (.cons (.ret (.and (.isi (.var 0) (.b "tuple")) (.cmp .Eq (.lc (.var 1) (.nm 1) (.pln (.var 0)) (.so (.not (.call f__law_is_fraction (.cons (.var 1) .nil)))) [1]) (.lst .nil)))) .nil)
def F_law_are_fractions (f__law_is_fraction : Nat) : Df := ⟨1, 2, B_law_are_fractions f__law_is_fraction⟩
def B_law_is_poly (f__law_are_fractions : Nat) : Ss :=
  (.cons (.ret (.and (.call f__law_are_fractions (.cons (.var 0) .nil)) (.and (.cmp .LtE (.blt .len (.cons (.var 0) .nil)) (.int 9)) (.or (.cmp .Eq (.var 0) (.tup .nil)) (.cmp .NotEq (.idx (.idx (.var 0) (.neg (.int 1))) (.int 0)) (.int 0)))))) .nil)
def F_law_is_poly (f__law_are_fractions : Nat) : Df := ⟨1, 1, B_law_is_poly f__law_are_fractions⟩
def B_law_is_pair (f__law_is_fraction f__law_are_fractions : Nat) : Ss :=
  (.cons (.ife (.or (.not (.isi (.var 0) (.b "tuple"))) (.or (.cmp .NotEq (.blt .len (.cons (.var 0) .nil)) (.int 2)) (.or (.not (.call f__law_is_fraction (.cons (.idx (.var 0) (.int 0)) .nil))) (.cmp .Lt (.idx (.idx (.var 0) (.int 0)) (.int 0)) (.int 0))))) (
    (.cons (.ret (.bl false)) .nil)) (.nil)) 
  (.cons (.ife (.or (.not (.call f__law_are_fractions (.cons (.idx (.var 0) (.int 1)) .nil))) (.or (.cmp .Gt (.blt .len (.cons (.idx (.var 0) (.int 1)) .nil)) (.int 7)) (.cmp .NotEq (.lc (.var 1) (.nm 1) (.pln (.idx (.var 0) (.int 1))) (.so (.cmp .Lt (.idx (.var 1) (.int 0)) (.int 0))) [1]) (.lst .nil)))) (
    (.cons (.ret (.bl false)) .nil)) (.nil)) 
  (.cons (.ret (.or (.cmp .Eq (.idx (.var 0) (.int 1)) (.tup .nil)) (.cmp .Gt (.idx (.idx (.idx (.var 0) (.int 1)) (.neg (.int 1))) (.int 0)) (.int 0)))) .nil)))
def F_law_is_pair (f__law_is_fraction f__law_are_fractions : Nat) : Df := ⟨1, 2, B_law_is_pair f__law_is_fraction f__law_are_fractions⟩
def S_fnD (f : Fn) : Prop := ∀ n k d h, Good n h k d → (isFr d = false → f [d] h = .ok (.bl false) h) ∧ ∀ q, d = fr q → f [d] h = .ok (.bl (decide (0 ≤ q.num))) h
theorem ge0_fr (q : Rat) : ge0 (fr q) = decide (0 ≤ q.num) := rfl
theorem all_ge0 (P : List Rat) : (P.map fr).all ge0 = P.all fun p => decide (0 ≤ p.num) := by
  rw [List.all_map]
  rfl
theorem lc_filter {gs : Gs} {el : D → Hh → R (Option D)} {h : Hh} (hg : gsOk gs h) (p : D → Bool) : ∀ (ds acc : List D), (∀ d ∈ ds, el d h = .ok (if p d = true then some d else none) h) → acc.length + ds.length < sizeLine → lcL gs el ds acc h = alloc (.lst (acc ++ ds.filter p)) h
  | [], acc, _, hl => by
    simp at hl
    simp [lcL, hg, Nat.le_of_lt hl]
  | d :: ds, acc, hel, hl => by
    simp only [List.length_cons] at hl
    unfold lcL
    rw [if_pos ⟨hg, by omega⟩, hel d (by simp)]
    simp only [R.bind_ok]
    cases hp : p d with
    | true =>
      simp only [if_true]
      rw [lc_filter hg p ds (acc ++ [d]) (fun x hx => hel x (List.mem_cons_of_mem _ hx)) (by simp; omega), List.filter_cons_of_pos hp]
      simp
    | false =>
      simp only [Bool.false_eq_true, if_false]
      rw [lc_filter hg p ds acc (fun x hx => hel x (List.mem_cons_of_mem _ hx)) (by omega), List.filter_cons_of_neg (by simp [hp])]
/-- a list and the empty one -/
theorem eqD_len {h : Hh} {i j : Nat} {xs : List D} (e1 : h[i]? = some (.lst xs)) (e2 : h[j]? = some (.lst [])) : eqD h (.ref i) (.ref j) = some (decide (xs = [])) := by
  cases xs with
  | nil => exact eqD_nil (ms := []) e1 e2
  | cons x xs =>
    have d2 : (D.ref j).deep h = some (.list []) := by
      show deepR h 8 j = _
      unfold deepR
      rw [e2]
      rfl
    have ln : lenNe h (.ref i) (.ref j) = some false := by simp [lenNe, e1, e2]
    have e3 : eqD h (.ref i) (.ref j) = (match (D.ref i).deep h, (D.ref j).deep h with | some a, some b => if SeqAt.shaped a = true ∧ SeqAt.shaped b = true then some (PyData.eqv a b) else lenNe h (.ref i) (.ref j) | _, _ => lenNe h (.ref i) (.ref j)) := rfl
    rw [e3, d2, ln]
    cases d1 : (D.ref i).deep h with
    | none => rfl
    | some a =>
      have : ∃ y ys, a = .list (y :: ys) := by
        have d1 : deepR h 8 i = some a := d1
        unfold deepR at d1
        rw [e1] at d1
        simp only [D.deepsW] at d1
        split at d1
        · rename_i ys q
          split at q
          · cases q
            cases d1
            exact ⟨_, _, rfl⟩
          · cases q
        · cases d1
      obtain ⟨y, ys, rfl⟩ := this
      dsimp only
      split <;> rfl
theorem eqD_pair (h : Hh) (a b c e : Int) : eqD h (.tup [.int a, .int b]) (.tup [.int c, .int e]) = some (decide (a = c ∧ b = e)) := by
  have d1 : ∀ a b : Int, (D.tup [.int a, .int b]).deep h = some (.tuple [.int a, .int b]) := fun a b => by simp [D.deep, D.deepW, D.deepsW]
  have s1 : ∀ i j : Int, SeqAt.shaped (.tuple [.int i, .int j]) = true := fun i j => by simp [SeqAt.shaped, PyData.canLay0, PyData.canLayAll0, PyData.depth, PyData.depthAll]
  have e3 : eqD h (.tup [.int a, .int b]) (.tup [.int c, .int e]) = (match (D.tup [.int a, .int b]).deep h, (D.tup [.int c, .int e]).deep h with | some a, some b => if SeqAt.shaped a = true ∧ SeqAt.shaped b = true then some (PyData.eqv a b) else none | _, _ => none) := by
    rw [d1, d1]
    show (match (D.tup [.int a, .int b]).deep h, (D.tup [.int c, .int e]).deep h with | some x, some y => if SeqAt.shaped x = true ∧ SeqAt.shaped y = true then some (PyData.eqv x y) else lenNe h (.tup [.int a, .int b]) (.tup [.int c, .int e]) | _, _ => lenNe h (.tup [.int a, .int b]) (.tup [.int c, .int e])) = _
    rw [d1, d1]
    dsimp only
    rw [if_pos ⟨s1 _ _, s1 _ _⟩, if_pos ⟨s1 _ _, s1 _ _⟩]
  rw [e3, d1, d1]
  dsimp only
  rw [if_pos ⟨s1 _ _, s1 _ _⟩]
  simp only [PyData.eqv, PyData.eqvAll, Bool.and_true]
  congr 1
  by_cases h1 : a = c
  · by_cases h2 : b = e
    · subst h1 h2; simp
    · rw [decide_eq_false (fun z => h2 z.2), beq_eq_false_iff_ne.mpr h2, Bool.and_false]
  · rw [decide_eq_false (fun z => h1 z.1), beq_eq_false_iff_ne.mpr h1, Bool.false_and]
theorem divInt_same {a b : Int} (hb : 0 < b) : ((Rat.divInt a b).num = a ∧ ((Rat.divInt a b).den : Int) = b) ↔ Int.gcd a b = 1 := by
  obtain ⟨m, rfl⟩ : ∃ m : Nat, b = m := ⟨b.toNat, by omega⟩
  constructor
  · rintro ⟨h1, h2⟩
    have := (Rat.divInt a m).reduced
    rw [h1] at this
    have h2 : (Rat.divInt a m).den = m := by omega
    rw [h2] at this
    exact this
  · intro h
    have e : Rat.divInt a m = ⟨a, m, by omega, h⟩ := by
      have := Rat.num_divInt_den (⟨a, m, by omega, h⟩ : Rat)
      exact this
    rw [e]
    exact ⟨rfl, rfl⟩
section
variable {Δ : Nat → Fn} {gl : Nat → D}
theorem s_is_from_nought {i : Nat} (hr : S_frD (Δ i)) : S_fnD (run Δ gl (F_is_from_nought i)) := by
  intro n k d h g
  have e1 := hr n k d h g
  refine ⟨fun hd => ?_, fun q hq => ?_⟩
  · rw [hd] at e1
    simp [run, F_is_from_nought, B_is_from_nought, exs, ex, ev, evs, e1]
    exact tidy_self rfl
  · subst hq
    rw [isFr_fr] at e1
    have i0 : ixD (fr q) (.int 0) h = .ok (.int q.num) h := by simp [fr, ixD]
    simp [run, F_is_from_nought, B_is_from_nought, exs, ex, ev, evs, e1, i0, cmpD]
    exact tidy_self rfl
/-- [each for each in a if p(each)] != [] -/
theorem some_left {a : E} {i : Nat} {c : E} {ρ : En} {h : Hh} {xs : List D} {p : D → Bool} (ea : ev Δ gl a ρ h = .ok (.tup xs) h) (hv : i < ρ.length) (hp : ∀ x ∈ xs, evt Δ gl (.so c) ((wipeD ρ [i]).set i (some x)) h = .ok (p x) h) (hl : xs.length ≤ 12) :
    ev Δ gl (.lc (.var i) (.nm i) (.pln a) (.so c) [i]) ρ h = .ok (.ref h.length) (h ++ [.lst (xs.filter p)]) := by
  refine (ev_lc (p := xs) (gs := []) (h1 := h) (by simp [evi, ea, itemsD])).trans ?_
  rw [lc_filter (gsOk_nil h) p xs [] (fun x hx => ?_) (len12 hl)]
  · rfl
  · have e := hp x hx
    have l2 : i < (wipeD ρ [i]).length := by simp [wipeD, hv]
    have g1 : ((wipeD ρ [i]).set i (some x))[i]? = some (some x) := by rw [List.getElem?_set_self l2]
    simp only [asn, R.bind_ok, e]
    cases hq : p x with
    | true => simp [ev, g1, R.calm]
    | false => simp [R.calm]
theorem cmp_nil {o : CmpOp} {a : E} {ρ : En} {h : Hh} {xs : List D} (e : ev Δ gl a ρ h = .ok (.ref h.length) (h ++ [.lst xs])) (ho : o = .Eq ∨ o = .NotEq) :
    ev Δ gl (.cmp o a (.lst .nil)) ρ h = .ok (.bl (if o = .Eq then decide (xs = []) else !decide (xs = []))) (h ++ [.lst xs] ++ [.lst []]) := by
  have q1 : (h ++ [C.lst xs] ++ [C.lst []])[h.length]? = some (.lst xs) := by simp
  have q2 : (h ++ [C.lst xs] ++ [C.lst []])[(h ++ [C.lst xs]).length]? = some (.lst []) := by simp
  have eq := eqD_len q1 q2
  have l0 : lineOk ([] : List D).length = true := by decide
  rcases ho with rfl | rfl
  · simp only [ev, e, R.bind_ok, evs, alloc, cmpD, l0, if_true, eq]
  · simp only [ev, e, R.bind_ok, evs, alloc, cmpD, l0, if_true, eq]
    simp
theorem s_law_is_fraction {i : Nat} (hf : S_with (Δ i)) : S_frD (run Δ gl (F_law_is_fraction i)) := by
  intro n k d h g
  have e1 := isi_t g
  cases d with
  | tup xs =>
    have e1 : isiD h (.tup xs) (.b "tuple") = .ok (.bl true) h := e1
    by_cases l2 : xs.length = 2
    · match xs, l2, g, e1 with
      | [x, y], _, g, e1 =>
        obtain ⟨k', _, gi⟩ := g.item
        have nw : ∀ z, Good n h k' z → evt Δ gl (.so (.or (.not (.isi (.var 1) (.b "int"))) (.isi (.var 1) (.b "bool")))) ((wipeD [some (.tup [x, y]), none] [1]).set 1 (some z)) h = .ok (!isInt z) h := fun z gz => by
          have i1 := isi_i gz
          have i2 := isi_b gz
          cases hi : isInt z with
          | true =>
            have hb : isBl z = false := by cases z <;> first | rfl | (simp [isInt] at hi)
            rw [hi, hb] at i1
            rw [hb] at i2
            simp [evt, ev, wipeD, List.set, i1, i2, asBl]
          | false =>
            cases hb : isBl z with
            | true =>
              rw [hi, hb] at i1
              rw [hb] at i2
              simp [evt, ev, wipeD, List.set, i1, i2, asBl]
            | false =>
              rw [hi, hb] at i1
              simp [evt, ev, wipeD, List.set, i1, asBl]
        have lc := some_left (Δ := Δ) (gl := gl) (a := .var 0) (i := 1) (c := .or (.not (.isi (.var 1) (.b "int"))) (.isi (.var 1) (.b "bool"))) (ρ := [some (.tup [x, y]), none]) (h := h) (xs := [x, y]) (p := fun z => !isInt z) (by simp [ev]) (by simp) (fun z hz => nw z (gi z hz)) (by simp)
        have cn := cmp_nil (o := .NotEq) lc (.inr rfl)
        have c1 : ex Δ gl (.ife (.or (.not (.isi (.var 0) (.b "tuple"))) (.cmp .NotEq (.blt .len (.cons (.var 0) .nil)) (.int 2))) (.cons (.ret (.bl false)) .nil) .nil) [some (.tup [x, y]), none] h = .ok (.nx [some (.tup [x, y]), none]) h := by
          refine ex_no ?_
          simp [ev, evs, e1, asBl, bltD, cmpD, eqD]
        by_cases t : two (.tup [x, y]) = true
        · obtain ⟨a, rfl⟩ : ∃ a, x = .int a := by cases x <;> first | exact ⟨_, rfl⟩ | (simp [two] at t)
          obtain ⟨b, rfl⟩ : ∃ b, y = .int b := by cases y <;> first | exact ⟨_, rfl⟩ | (simp [two] at t)
          have fl : [D.int a, D.int b].filter (fun z => !isInt z) = [] := rfl
          rw [fl] at cn
          have c2 : ex Δ gl (.ife (.cmp .NotEq (.lc (.var 1) (.nm 1) (.pln (.var 0)) (.so (.or (.not (.isi (.var 1) (.b "int"))) (.isi (.var 1) (.b "bool")))) [1]) (.lst .nil)) (.cons (.ret (.bl false)) .nil) .nil) [some (.tup [.int a, .int b]), none] h = .ok (.nx [some (.tup [.int a, .int b]), none]) (h ++ [.lst []] ++ [.lst []]) := ex_no (by rw [cn]; rfl)
          have sz : Bt 110 b := by
            have := gi (.int b) (by simp)
            cases k' with
            | zero => exact this.elim
            | succ k' => exact this
          have e : isFr (.tup [.int a, .int b]) = (decide (0 < b) && decide (Int.gcd a b = 1)) := rfl
          rw [e]
          have key : exs Δ gl (B_law_is_fraction i) [some (.tup [.int a, .int b]), none] h = .ok (.rt (.bl (decide (0 < b) && decide (Int.gcd a b = 1)))) (h ++ ([.lst []] ++ [.lst []])) := by
            unfold B_law_is_fraction
            refine (exs_nx c1).trans ?_
            refine (exs_nx c2).trans ?_
            rw [← List.append_assoc]
            generalize h ++ [C.lst []] ++ [C.lst []] = H
            refine exs_rt ?_
            by_cases p : 0 < b
            · have f := hf a b 110 H (by omega) sz (by decide)
              have q := eqD_pair H (Rat.divInt a b).num (Rat.divInt a b).den a b
              have ds := divInt_same (a := a) p
              have f' : Δ i [.int a, .int b] H = .ok (.tup [.int (Rat.divInt a b).num, .int (Rat.divInt a b).den]) H := f
              have q2 : decide ((Rat.divInt a b).num = a ∧ ((Rat.divInt a b).den : Int) = b) = decide (Int.gcd a b = 1) := decide_eq_decide.mpr ds
              rw [q2] at q
              simp [ev, evs, ixD, cmpD, asBl, p, f', q]
            · simp [ev, evs, ixD, cmpD, asBl, p]
          simp only [run, F_law_is_fraction, List.length_cons, List.length_nil, if_true, List.map_cons, List.map_nil, List.replicate, List.cons_append, List.nil_append]
          rw [key]
          exact tidy_pre rfl
        · have fl : [x, y].filter (fun z => !isInt z) ≠ [] := fun z => t (by
            have := List.filter_eq_nil_iff.mp z
            have hx := this x (by simp)
            have hy := this y (by simp)
            have hx : isInt x = true := by simpa using hx
            have hy : isInt y = true := by simpa using hy
            cases x <;> first | (simp [isInt] at hx; done) | skip
            cases y <;> first | (simp [isInt] at hy; done) | rfl)
          have e : isFr (.tup [x, y]) = false := by
            unfold isFr
            split
            · rename_i q
              cases q
              exact absurd rfl t
            · rfl
          rw [e]
          generalize [x, y].filter (fun z => !isInt z) = fs at *
          have key : exs Δ gl (B_law_is_fraction i) [some (.tup [x, y]), none] h = .ok (.rt (.bl false)) (h ++ ([.lst fs] ++ [.lst []])) := by
            unfold B_law_is_fraction
            refine (exs_nx c1).trans ?_
            rw [exs, ex, cn]
            simp [fl, R.toF, asBl, exs, ex, ev]
          simp only [run, F_law_is_fraction, List.length_cons, List.length_nil, if_true, List.map_cons, List.map_nil, List.replicate, List.cons_append, List.nil_append]
          rw [key]
          exact tidy_pre rfl
    · have t : isFr (.tup xs) = false := by
        unfold isFr
        split
        · rename_i q
          cases q
          simp at l2
        · rfl
      rw [t]
      have l2' : ¬ (xs.length : Int) = 2 := by omega
      simp [run, F_law_is_fraction, B_law_is_fraction, exs, ex, ev, evs, e1, bltD, cmpD, eqD, asBl, l2']
      exact tidy_self rfl
  | _ =>
    simp only [isTp] at e1
    simp [run, F_law_is_fraction, B_law_is_fraction, exs, ex, ev, evs, e1, asBl, isFr]
    exact tidy_self rfl
theorem s_law_are_fractions {i : Nat} (hr : S_frD (Δ i)) : S_areD (run Δ gl (F_law_are_fractions i)) := by
  intro n k d h g
  have e1 := isi_t g
  cases d with
  | tup xs =>
    have e1 : isiD h (.tup xs) (.b "tuple") = .ok (.bl true) h := e1
    obtain ⟨k', _, gi⟩ := g.item
    have lc := some_left (Δ := Δ) (gl := gl) (a := .var 0) (i := 1) (c := .not (.call i (.cons (.var 1) .nil))) (ρ := [some (.tup xs), none]) (h := h) (xs := xs) (p := fun z => !isFr z) (by simp [ev]) (by simp) (fun z hz => by
      have w := hr n k' z h (gi z hz)
      simp [evt, ev, evs, wipeD, List.set, w, asBl]) g.len
    have cn := cmp_nil (o := .Eq) lc (.inl rfl)
    have fe : decide (xs.filter (fun z => !isFr z) = []) = xs.all isFr := by
      rw [Bool.eq_iff_iff, decide_eq_true_iff, List.filter_eq_nil_iff, List.all_eq_true]
      simp
    rw [if_pos rfl, fe] at cn
    have key : exs Δ gl (B_law_are_fractions i) [some (.tup xs), none] h = .ok (.rt (.bl (xs.all isFr))) (h ++ ([.lst (xs.filter (fun z => !isFr z))] ++ [.lst []])) := by
      unfold B_law_are_fractions
      refine exs_rt ?_
      rw [and_tt (h1 := h) (by simp [ev, e1]), ← List.append_assoc]
      exact cn
    simp only [run, F_law_are_fractions, List.length_cons, List.length_nil, if_true, List.map_cons, List.map_nil, List.replicate, List.cons_append, List.nil_append]
    rw [key]
    exact tidy_pre rfl
  | _ =>
    simp only [isTp] at e1
    simp [run, F_law_are_fractions, B_law_are_fractions, exs, ex, ev, evs, e1, areFr]
    exact tidy_self rfl
end
end HS

/-! k02: polynomials and bounds. -/
namespace HS
open PySem L2
section
variable {Δ : Nat → Fn} {gl : Nat → D}
theorem last_evL {a : E} {ρ : En} {h : Hh} {P : List Rat} (ea : ev Δ gl a ρ h = .ok (.tup (P.map fr)) h) : ev Δ gl (.or (.cmp .Eq a (.tup .nil)) (.cmp .NotEq (.idx (.idx a (.neg (.int 1))) (.int 0)) (.int 0))) ρ h = .ok (.bl (lastNz P)) h := by
  have l0 : lineOk ([] : List D).length = true := by decide
  have eq := eqD_frs h P
  by_cases hP : P = []
  · subst hP
    simp only [ev, evs, ea, R.bind_ok, l0, if_true, cmpD, eq, asBl]
    simp [lastNz]
  · obtain ⟨Q, q, rfl⟩ : ∃ Q q, P = Q ++ [q] := ⟨P.dropLast, P.getLast hP, (List.dropLast_concat_getLast hP).symm⟩
    have al : atI ((Q ++ [q]).map fr) (-1) = some (fr q) := by
      rw [List.map_append]
      exact atI_last
    have i0 : ixD (fr q) (.int 0) h = .ok (.int q.num) h := by simp [fr, ixD]
    rw [decide_eq_false hP] at eq
    have z : (!decide (q.num = 0)) = decide (q ≠ 0) := by
      by_cases y : q = 0
      · subst y; rfl
      · have : ¬ q.num = 0 := fun w => y (Rat.num_eq_zero.mp w)
        simp [y, this]
    rw [lastNz_app, ← z]
    have ix : ixD (.tup ((Q ++ [q]).map fr)) (.int (-1)) h = .ok (fr q) h := by simp only [ixD, al]
    have f1 : ev Δ gl (.cmp .Eq a (.tup .nil)) ρ h = .ok (.bl false) h := by simp only [ev, evs, ea, R.bind_ok, l0, if_true, cmpD, eq]
    have f2 : ev Δ gl (.idx (.idx a (.neg (.int 1))) (.int 0)) ρ h = .ok (.int q.num) h := by simp only [ev, ea, R.bind_ok, ix, i0]
    rw [or_ff f1, ev, f2]
    simp [ev, cmpD, eqD]
theorem last_evG {a : E} {ρ : En} {h : Hh} {P : List Rat} (ea : ev Δ gl a ρ h = .ok (.tup (P.map fr)) h) (nn : ∀ p ∈ P, 0 ≤ p.num) : ev Δ gl (.or (.cmp .Eq a (.tup .nil)) (.cmp .Gt (.idx (.idx a (.neg (.int 1))) (.int 0)) (.int 0))) ρ h = .ok (.bl (lastNz P)) h := by
  have l0 : lineOk ([] : List D).length = true := by decide
  have eq := eqD_frs h P
  by_cases hP : P = []
  · subst hP
    simp only [ev, evs, ea, R.bind_ok, l0, if_true, cmpD, eq, asBl]
    simp [lastNz]
  · obtain ⟨Q, q, rfl⟩ : ∃ Q q, P = Q ++ [q] := ⟨P.dropLast, P.getLast hP, (List.dropLast_concat_getLast hP).symm⟩
    have al : atI ((Q ++ [q]).map fr) (-1) = some (fr q) := by
      rw [List.map_append]
      exact atI_last
    have i0 : ixD (fr q) (.int 0) h = .ok (.int q.num) h := by simp [fr, ixD]
    rw [decide_eq_false hP] at eq
    have n0 := nn q (by simp)
    have z : decide (0 < q.num) = decide (q ≠ 0) := by
      refine decide_eq_decide.mpr ⟨fun w y => ?_, fun w => ?_⟩
      · rw [y] at w; exact absurd w (by decide)
      · have : ¬ q.num = 0 := fun v => w (Rat.num_eq_zero.mp v)
        omega
    rw [lastNz_app, ← z]
    have ix : ixD (.tup ((Q ++ [q]).map fr)) (.int (-1)) h = .ok (fr q) h := by simp only [ixD, al]
    simp only [ev, evs, ea, R.bind_ok, l0, if_true, cmpD, eq, asBl, ix, i0]
    done
theorem s_law_is_poly {i : Nat} (hr : S_areD (Δ i)) : S_polyD (run Δ gl (F_law_is_poly i)) := by
  intro n kk d h g
  have e1 := hr n kk d h g
  cases hd : areFr d with
  | false =>
    rw [hd] at e1
    rw [polyV_no hd]
    simp [run, F_law_is_poly, B_law_is_poly, exs, ex, ev, evs, e1]
    exact tidy_self rfl
  | true =>
    obtain ⟨P, rfl⟩ := frs_are hd
    rw [hd] at e1
    have lt := last_evL (Δ := Δ) (gl := gl) (a := .var 0) (ρ := [some (.tup (P.map fr))]) (h := h) (P := P) (by simp [ev])
    have pv : polyV (.tup (P.map fr)) = (decide (P.length ≤ 9) && lastNz P) := by
      show ((P.map fr).all isFr && (decide ((P.map fr).length ≤ 9) && lastD (P.map fr))) = _
      rw [areFr_frs, lastD_frs, List.length_map, Bool.true_and]
    rw [pv]
    by_cases p : P.length ≤ 9
    · have p' : (P.length : Int) ≤ 9 := by omega
      have key : exs Δ gl (B_law_is_poly i) [some (.tup (P.map fr))] h = .ok (.rt (.bl (lastNz P))) h := by
        unfold B_law_is_poly
        refine exs_rt ?_
        rw [and_tt (h1 := h) (by simp [ev, evs, e1]), and_tt (h1 := h) (by simp [ev, evs, bltD, cmpD, p'])]
        exact lt
      rw [decide_eq_true p, Bool.true_and]
      simp only [run, F_law_is_poly, List.length_cons, List.length_nil, if_true, List.map_cons, List.map_nil, List.replicate, List.append_nil, Nat.sub_self]
      rw [key]
      exact tidy_self rfl
    · have p' : ¬ (P.length : Int) ≤ 9 := by omega
      rw [decide_eq_false p, Bool.false_and]
      simp [run, F_law_is_poly, B_law_is_poly, exs, ex, ev, evs, e1, bltD, cmpD, p, p', asBl]
      exact tidy_self rfl
theorem bndV_no {d : D} (h : ∀ x y, d = .tup [x, y] → (isFr x && ge0 x) = false ∨ areFr y = false) : bndV d = false := by
  unfold bndV
  split
  · rename_i x ys
    rcases h x (.tup ys) rfl with q | q
    · cases h1 : isFr x with
      | false => rfl
      | true =>
        rw [h1, Bool.true_and] at q
        simp [q]
    · have q : ys.all isFr = false := q
      simp [q]
  · rfl
theorem bndV_yes {q : Rat} {P : List Rat} (h0 : 0 ≤ q.num) : bndV (.tup [fr q, .tup (P.map fr)]) = ((decide (P.length < 8) && P.all fun p => decide (0 ≤ p.num)) && lastNz P) := by
  show (isFr (fr q) && (ge0 (fr q) && ((P.map fr).all isFr && ((decide ((P.map fr).length < 8) && (P.map fr).all ge0) && lastD (P.map fr))))) = _
  rw [isFr_fr, ge0_fr, areFr_frs, lastD_frs, all_ge0, List.length_map, decide_eq_true h0, Bool.true_and, Bool.true_and, Bool.true_and]
theorem s_are_bounds {i j k l : Nat} (hf : S_fnD (Δ i)) (hr : S_areD (Δ j)) (h8 : gl k = .int 8) (h0 : gl l = fr 0) : S_bndD (run Δ gl (F_are_bounds i j k l)) := by
  intro n kk d h g
  have e1 := isi_t g
  cases d with
  | tup xs =>
    have e1 : isiD h (.tup xs) (.b "tuple") = .ok (.bl true) h := e1
    by_cases l2 : xs.length = 2
    · match xs, l2, g, e1 with
      | [x, y], _, g, e1 =>
        obtain ⟨k', _, gi⟩ := g.item
        obtain ⟨f1, f2⟩ := hf n k' x h (gi x (by simp))
        have r1 := hr n k' y h (gi y (by simp))
        have i0 : ixD (.tup [x, y]) (.int 0) h = .ok x h := by simp [ixD]
        have i1 : ∀ h, ixD (.tup [x, y]) (.int 1) h = .ok y h := fun h => by simp [ixD]
        have out : (∃ v, Δ i [x] h = .ok (.bl v) h ∧ (v = true → ∃ q, x = fr q ∧ 0 ≤ q.num) ∧ (v = false → (isFr x && ge0 x) = false)) := by
          cases hx : isFr x with
          | false => exact ⟨false, f1 hx, (fun z => by cases z), fun _ => rfl⟩
          | true =>
            obtain ⟨q, rfl⟩ := fr_of hx
            refine ⟨_, f2 q rfl, fun z => ⟨q, rfl, of_decide_eq_true z⟩, fun z => ?_⟩
            rw [ge0_fr, z]
            rfl
        obtain ⟨v, fv, v1, v2⟩ := out
        cases v with
        | false =>
          rw [bndV_no (fun x' y' z => by cases z; exact .inl (v2 rfl))]
          simp [run, F_are_bounds, B_are_bounds, exs, ex, ev, evs, e1, bltD, cmpD, eqD, asBl, i0, fv]
          exact tidy_self rfl
        | true =>
          obtain ⟨q, rfl, q0⟩ := v1 rfl
          cases hy : areFr y with
          | false =>
            rw [hy] at r1
            rw [bndV_no (fun x' y' z => by cases z; exact .inr hy)]
            simp [run, F_are_bounds, B_are_bounds, exs, ex, ev, evs, e1, bltD, cmpD, eqD, asBl, i0, i1, fv, r1]
            exact tidy_self rfl
          | true =>
            obtain ⟨P, rfl⟩ := frs_are hy
            rw [hy] at r1
            rw [bndV_yes q0]
            have c1 : ex Δ gl (.ife (.or (.not (.isi (.var 0) (.b "tuple"))) (.or (.cmp .NotEq (.blt .len (.cons (.var 0) .nil)) (.int 2)) (.or (.not (.call i (.cons (.idx (.var 0) (.int 0)) .nil))) (.not (.call j (.cons (.idx (.var 0) (.int 1)) .nil)))))) (.cons (.ret (.bl false)) .nil) .nil) [some (.tup [fr q, .tup (P.map fr)]), none] h = .ok (.nx [some (.tup [fr q, .tup (P.map fr)]), none]) h := by
              refine ex_no ?_
              simp [ev, evs, e1, bltD, cmpD, eqD, asBl, i0, i1, fv, r1]
            have lP : P.length ≤ 12 := by
              have := (gi _ (List.mem_cons_of_mem _ (List.mem_cons_self))).len
              simpa using this
            have lc : ev Δ gl (.lc (.cmp .GtE (.idx (.var 1) (.int 0)) (.int 0)) (.nm 1) (.pln (.idx (.var 0) (.int 1))) .no [1]) [some (.tup [fr q, .tup (P.map fr)]), none] h = .ok (.ref h.length) (h ++ [.lst ((P.map fr).map fun x => D.bl (ge0 x))]) := by
              refine (ev_lc (p := P.map fr) (gs := []) (h1 := h) (by simp [evi, ev, i1, itemsD])).trans ?_
              rw [lc_map (gsOk_nil h) (fun x => D.bl (ge0 x)) (P.map fr) [] (fun x hx => ?_) (len12 (by simpa using lP))]
              · rfl
              · obtain ⟨p, _, rfl⟩ := List.mem_map.mp hx
                have ip : ixD (fr p) (.int 0) h = .ok (.int p.num) h := by simp [fr, ixD]
                simp [asn, wipeD, List.set, evt, ev, evs, ip, cmpD, R.calm, ge0_fr]
            have b := blsOf_mapg ge0 (P.map fr)
            have al := all_ge0 P
            by_cases p8 : P.length < 8
            · have p8' : ¬ (8 : Int) ≤ P.length := by omega
              by_cases an : (P.all fun p => decide (0 ≤ p.num)) = true
              · have lt := last_ev (Δ := Δ) (gl := gl) (j := l) (a := .idx (.var 0) (.int 1)) (ρ := [some (.tup [fr q, .tup (P.map fr)]), none]) (h := h ++ [.lst ((P.map fr).map fun x => D.bl (ge0 x))]) (P := P) (by simp [ev, i1]) h0
                have c2 : ex Δ gl (.ife (.or (.cmp .GtE (.blt .len (.cons (.idx (.var 0) (.int 1)) .nil)) (.glb k)) (.not (.blt .all (.cons (.lc (.cmp .GtE (.idx (.var 1) (.int 0)) (.int 0)) (.nm 1) (.pln (.idx (.var 0) (.int 1))) .no [1]) .nil)))) (.cons (.ret (.bl false)) .nil) .nil) [some (.tup [fr q, .tup (P.map fr)]), none] h = .ok (.nx [some (.tup [fr q, .tup (P.map fr)]), none]) (h ++ [.lst ((P.map fr).map fun x => D.bl (ge0 x))]) := by
                  refine ex_no ?_
                  have ea : ev Δ gl (.blt .all (.cons (.lc (.cmp .GtE (.idx (.var 1) (.int 0)) (.int 0)) (.nm 1) (.pln (.idx (.var 0) (.int 1))) .no [1]) .nil)) [some (.tup [fr q, .tup (P.map fr)]), none] h = .ok (.bl true) (h ++ [.lst ((P.map fr).map fun x => D.bl (ge0 x))]) := by
                    rw [ev, evs, lc]
                    simp only [evs, R.bind_ok, bltD, listAt, get_end, b]
                    rw [List.all_map]
                    have : ((P.map fr).all (id ∘ ge0)) = true := by rw [← an, ← al]; rfl
                    rw [this]
                  rw [or_ff (h1 := h) (by simp [ev, evs, i1, bltD, h8, cmpD, p8']), not_e ea]
                  rfl
                have key : exs Δ gl (B_are_bounds i j k l) [some (.tup [fr q, .tup (P.map fr)]), none] h = .ok (.rt (.bl (lastNz P))) (h ++ [.lst ((P.map fr).map fun x => D.bl (ge0 x))]) := by
                  unfold B_are_bounds
                  refine (exs_nx c1).trans ?_
                  refine (exs_nx c2).trans ?_
                  exact exs_rt lt
                rw [decide_eq_true p8, an]
                simp only [Bool.true_and]
                simp only [run, F_are_bounds, List.length_cons, List.length_nil, if_true, List.map_cons, List.map_nil, List.replicate, List.cons_append, List.nil_append]
                rw [key]
                exact tidy_pre rfl
              · have an : (P.all fun p => decide (0 ≤ p.num)) = false := by simpa using an
                have key : exs Δ gl (B_are_bounds i j k l) [some (.tup [fr q, .tup (P.map fr)]), none] h = .ok (.rt (.bl false)) (h ++ [.lst ((P.map fr).map fun x => D.bl (ge0 x))]) := by
                  unfold B_are_bounds
                  refine (exs_nx c1).trans ?_
                  have ea : ev Δ gl (.blt .all (.cons (.lc (.cmp .GtE (.idx (.var 1) (.int 0)) (.int 0)) (.nm 1) (.pln (.idx (.var 0) (.int 1))) .no [1]) .nil)) [some (.tup [fr q, .tup (P.map fr)]), none] h = .ok (.bl false) (h ++ [.lst ((P.map fr).map fun x => D.bl (ge0 x))]) := by
                    rw [ev, evs, lc]
                    simp only [evs, R.bind_ok, bltD, listAt, get_end, b]
                    rw [List.all_map]
                    have : ((P.map fr).all (id ∘ ge0)) = false := by rw [← an, ← al]; rfl
                    rw [this]
                  have cc : ev Δ gl (.or (.cmp .GtE (.blt .len (.cons (.idx (.var 0) (.int 1)) .nil)) (.glb k)) (.not (.blt .all (.cons (.lc (.cmp .GtE (.idx (.var 1) (.int 0)) (.int 0)) (.nm 1) (.pln (.idx (.var 0) (.int 1))) .no [1]) .nil)))) [some (.tup [fr q, .tup (P.map fr)]), none] h = .ok (.bl true) (h ++ [.lst ((P.map fr).map fun x => D.bl (ge0 x))]) := by
                    rw [or_ff (h1 := h) (by simp [ev, evs, i1, bltD, h8, cmpD, p8']), not_e ea]
                    rfl
                  rw [exs, ex, cc]
                  simp [R.toF, asBl, exs, ex, ev]
                rw [an, Bool.and_false, Bool.false_and]
                simp only [run, F_are_bounds, List.length_cons, List.length_nil, if_true, List.map_cons, List.map_nil, List.replicate, List.cons_append, List.nil_append]
                rw [key]
                exact tidy_pre rfl
            · have p8' : (8 : Int) ≤ P.length := by omega
              have key : exs Δ gl (B_are_bounds i j k l) [some (.tup [fr q, .tup (P.map fr)]), none] h = .ok (.rt (.bl false)) h := by
                unfold B_are_bounds
                refine (exs_nx c1).trans ?_
                have cc : ev Δ gl (.or (.cmp .GtE (.blt .len (.cons (.idx (.var 0) (.int 1)) .nil)) (.glb k)) (.not (.blt .all (.cons (.lc (.cmp .GtE (.idx (.var 1) (.int 0)) (.int 0)) (.nm 1) (.pln (.idx (.var 0) (.int 1))) .no [1]) .nil)))) [some (.tup [fr q, .tup (P.map fr)]), none] h = .ok (.bl true) h := by
                  simp [ev, evs, i1, bltD, h8, cmpD, p8', asBl]
                rw [exs, ex, cc]
                simp [R.toF, asBl, exs, ex, ev]
              rw [decide_eq_false p8, Bool.false_and, Bool.false_and]
              simp only [run, F_are_bounds, List.length_cons, List.length_nil, if_true, List.map_cons, List.map_nil, List.replicate, List.cons_append, List.nil_append]
              rw [key]
              exact tidy_self rfl
    · rw [bndV_no (fun x' y' z => by cases z; exact absurd rfl l2)]
      have l2' : ¬ (xs.length : Int) = 2 := by omega
      simp [run, F_are_bounds, B_are_bounds, exs, ex, ev, evs, e1, bltD, cmpD, eqD, asBl, l2']
      exact tidy_self rfl
  | _ =>
    simp only [isTp] at e1
    simp [run, F_are_bounds, B_are_bounds, exs, ex, ev, evs, e1, asBl, bndV]
    exact tidy_self rfl
end
end HS

/-! k02: the law's word of bounds; how things are drawn. -/
namespace HS
open PySem L2
def B_law_pickG (f__law_pull : Nat) : Ss :=
  (.cons (.ret (.idx (.var 1) (.call f__law_pull (.cons (.var 0) (.cons (.blt .len (.cons (.var 1) .nil)) .nil))))) .nil)
def F_law_pickG (f__law_pull : Nat) : Df := ⟨2, 2, B_law_pickG f__law_pull⟩
def B_law_odd (f__law_pick : Nat) : Ss :=
  (.cons (.asg (.nm 1) (.lst (.cons .non (.cons (.bl true) (.cons (.bl false) (.cons (.int 0) (.cons (.int 3) (.cons (.neg (.int 1)) (.cons (.str "") (.cons (.str "x") (.cons (.str "1/2") (.cons (.tup .nil) (.cons (.tup (.cons (.int 0) .nil)) (.cons (.tup (.cons (.int 2) (.cons (.int 4) .nil))) (.cons (.tup (.cons (.int 1) (.cons (.int 0) .nil))) (.cons (.tup (.cons (.int 0) (.cons (.int 2) .nil))) (.cons (.tup (.cons (.int 1) (.cons (.neg (.int 2)) .nil))) (.cons (.lst (.cons (.int 0) (.cons (.int 1) .nil))) (.cons (.tup (.cons (.int 1) (.cons (.int 2) (.cons (.int 3) .nil)))) (.cons .dic0 (.cons (.tup (.cons (.tup (.cons (.int 0) (.cons (.int 1) .nil))) .nil)) .nil))))))))))))))))))))) 
  (.cons (.ret (.call f__law_pick (.cons (.var 0) (.cons (.bin .add (.var 1) (.lst (.cons (.tup (.cons (.bl true) (.cons (.int 1) .nil))) (.cons (.tup (.cons (.int 1) (.cons (.bl true) .nil))) (.cons (.tup (.cons .non (.cons (.int 1) .nil))) (.cons (.tup (.cons (.tup (.cons (.int 1) (.cons (.int 1) .nil))) (.cons (.tup (.cons (.int 1) (.cons (.int 1) .nil))) (.cons (.tup (.cons (.int 1) (.cons (.int 1) .nil))) .nil)))) (.cons (.tup (.cons (.tup (.cons (.int 0) (.cons (.int 1) .nil))) (.cons (.tup (.cons (.int 1) (.cons (.int 1) .nil))) .nil))) (.cons (.tup (.cons (.bin .pow (.int 10) (.int 30)) (.cons (.int 7) .nil))) .nil)))))))) .nil)))) .nil))
def F_law_odd (f__law_pick : Nat) : Df := ⟨1, 2, B_law_odd f__law_pick⟩
def B_law_number (f__law_f f__law_pull f__law_pick f__law_odd : Nat) : Ss :=
  (.cons (.asg (.nm 1) (.call f__law_f (.cons (.bin .sub (.call f__law_pull (.cons (.var 0) (.cons (.int 13) .nil))) (.int 5)) (.cons (.bin .add (.int 1) (.call f__law_pull (.cons (.var 0) (.cons (.int 6) .nil)))) .nil)))) 
  (.cons (.ife (.cmp .Gt (.call f__law_pull (.cons (.var 0) (.cons (.int 9) .nil))) (.int 0)) (
    (.cons (.ret (.var 1)) .nil)) (.nil)) 
  (.cons (.ret (.call f__law_pick (.cons (.var 0) (.cons (.lst (.cons (.tup (.cons (.bin .mul (.int 2) (.idx (.var 1) (.int 0))) (.cons (.bin .mul (.int 2) (.idx (.var 1) (.int 1))) .nil))) (.cons (.tup (.cons (.idx (.var 1) (.int 0)) (.cons (.neg (.idx (.var 1) (.int 1))) .nil))) (.cons (.blt .list (.cons (.var 1) .nil)) (.cons (.bin .add (.var 1) (.tup (.cons (.int 1) .nil))) (.cons (.slc (.var 1) .no (.so (.int 1))) (.cons (.tup (.cons (.idx (.var 1) (.int 0)) (.cons (.bl true) .nil))) (.cons (.idx (.var 1) (.int 0)) (.cons (.call f__law_odd (.cons (.var 0) .nil)) .nil))))))))) .nil)))) .nil)))
def F_law_number (f__law_f f__law_pull f__law_pick f__law_odd : Nat) : Df := ⟨1, 2, B_law_number f__law_f f__law_pull f__law_pick f__law_odd⟩
def B_law_row (f__law_number f__law_pull : Nat) : Ss :=
  (.cons (.asg (.nm 2) (.blt .tuple (.cons (.lc (.call f__law_number (.cons (.var 0) .nil)) (.nm 3) (.rng (.cons (.var 1) .nil)) .no [3]) .nil))) 
  (.cons (.asg (.nm 4) (.call f__law_pull (.cons (.var 0) (.cons (.int 10) .nil)))) 
  (.cons (.ife (.cmp .Eq (.var 4) (.int 0)) (
    (.cons (.ret (.blt .list (.cons (.var 2) .nil))) .nil)) (.nil)) 
  (.cons (.ret (.ife (.cmp .Eq (.var 4) (.int 1)) (.bin .add (.var 2) (.tup (.cons (.tup (.cons (.int 0) (.cons (.int 1) .nil))) .nil))) (.var 2))) .nil))))
def F_law_row (f__law_number f__law_pull : Nat) : Df := ⟨2, 5, B_law_row f__law_number f__law_pull⟩
def B_law_thing (f__law_pull f__law_odd f__law_number f__law_row f__law_are_fractions f__law_is_fraction f__law_pick : Nat) : Ss :=
  (.cons (.asg (.nm 1) (.call f__law_pull (.cons (.var 0) (.cons (.int 6) .nil)))) 
  (.cons (.ife (.cmp .Eq (.var 1) (.int 0)) (
    (.cons (.ret (.call f__law_odd (.cons (.var 0) .nil))) .nil)) (.nil)) 
  (.cons (.ife (.cmp .Eq (.var 1) (.int 1)) (
    (.cons (.ret (.call f__law_number (.cons (.var 0) .nil))) .nil)) (.nil)) 
  (.cons (.ife (.cmp .Eq (.var 1) (.int 2)) (
    (.cons (.ret (.call f__law_row (.cons (.var 0) (.cons (.int 2) .nil)))) .nil)) (.nil)) 
  (.cons (.ife (.cmp .Eq (.var 1) (.int 3)) (
    (.cons (.ret (.call f__law_row (.cons (.var 0) (.cons (.call f__law_pull (.cons (.var 0) (.cons (.int 11) .nil))) .nil)))) .nil)) (.nil)) 
  (.cons (.asg (.nm 2) (.call f__law_row (.cons (.var 0) (.cons (.call f__law_pull (.cons (.var 0) (.cons (.int 9) .nil))) .nil)))) 
  (.cons (.ife (.and (.call f__law_are_fractions (.cons (.var 2) .nil)) (.cmp .Gt (.call f__law_pull (.cons (.var 0) (.cons (.int 4) .nil))) (.int 0))) (
    (.cons (.asg (.nm 2) (.blt .tuple (.cons (.lc (.tup (.cons (.blt .abs (.cons (.idx (.var 3) (.int 0)) .nil)) (.cons (.idx (.var 3) (.int 1)) .nil))) (.nm 3) (.pln (.var 2)) .no [3]) .nil))) .nil)) (.nil)) 
  (.cons (.asg (.nm 4) (.call f__law_number (.cons (.var 0) .nil))) 
  (.cons (.asg (.nm 4) (.ife (.and (.call f__law_is_fraction (.cons (.var 4) .nil)) (.cmp .Gt (.call f__law_pull (.cons (.var 0) (.cons (.int 5) .nil))) (.int 0))) (.tup (.cons (.blt .abs (.cons (.idx (.var 4) (.int 0)) .nil)) (.cons (.idx (.var 4) (.int 1)) .nil))) (.var 4))) 
  (.cons (.ret (.call f__law_pick (.cons (.var 0) (.cons (.lst (.cons (.tup (.cons (.var 4) (.cons (.var 2) .nil))) (.cons (.tup (.cons (.var 4) (.cons (.var 2) .nil))) (.cons (.tup (.cons (.var 4) (.cons (.var 2) .nil))) (.cons (.lst (.cons (.var 4) (.cons (.var 2) .nil))) (.cons (.tup (.cons (.var 4) .nil)) (.cons (.tup (.cons (.var 4) (.cons (.var 2) (.cons (.var 2) .nil)))) (.cons (.tup (.cons (.var 2) (.cons (.var 4) .nil))) .nil)))))))) .nil)))) .nil))))))))))
def F_law_thing (f__law_pull f__law_odd f__law_number f__law_row f__law_are_fractions f__law_is_fraction f__law_pick : Nat) : Df := ⟨1, 5, B_law_thing f__law_pull f__law_odd f__law_number f__law_row f__law_are_fractions f__law_is_fraction f__law_pick⟩
def S_pickG (f : Fn) : Prop := ∀ (n k m : Nat) (xs : List D) h, UAt n N0 h → m ≠ n → h[m]? = some (.lst xs) → xs ≠ [] → xs.length < 1000 → (∀ x ∈ xs, Good n h k x) → ∃ d h', f [.ref n, .ref m] h = .ok d h' ∧ Good n h' k d ∧ Up n N0 h h'
def S_draw (k : Nat) (f : Fn) : Prop := ∀ (n : Nat) h, UAt n N0 h → ∃ d h', f [.ref n] h = .ok d h' ∧ Good n h' k d ∧ Up n N0 h h'
def S_row (f : Fn) : Prop := ∀ (n m : Nat) h, UAt n N0 h → m ≤ 11 → ∃ d h', f [.ref n, .int m] h = .ok d h' ∧ Good n h' 4 d ∧ Up n N0 h h'
theorem Up.push {n N : Nat} {h t : Hh} (u : UAt n N h) : Up n N h (h ++ t) := ⟨u.app, by simp, fun j _ l => List.getElem?_append_left l⟩
section
variable {Δ : Nat → Fn} {gl : Nat → D}
theorem s_law_is_pair {i j : Nat} (hf : S_frD (Δ i)) (hr : S_areD (Δ j)) : S_bndD (run Δ gl (F_law_is_pair i j)) := by
  intro n kk d h g
  have e1 := isi_t g
  cases d with
  | tup xs =>
    have e1 : isiD h (.tup xs) (.b "tuple") = .ok (.bl true) h := e1
    by_cases l2 : xs.length = 2
    · match xs, l2, g, e1 with
      | [x, y], _, g, e1 =>
        obtain ⟨k', _, gi⟩ := g.item
        have f1 := hf n k' x h (gi x (by simp))
        have r1 := hr n k' y h (gi y (by simp))
        have i0 : ixD (.tup [x, y]) (.int 0) h = .ok x h := by simp [ixD]
        have i1 : ∀ h, ixD (.tup [x, y]) (.int 1) h = .ok y h := fun h => by simp [ixD]
        cases hx : isFr x with
        | false =>
          rw [hx] at f1
          rw [bndV_no (fun x' y' z => by cases z; exact .inl (by rw [hx]; rfl))]
          simp [run, F_law_is_pair, B_law_is_pair, exs, ex, ev, evs, e1, bltD, cmpD, eqD, asBl, i0, f1]
          exact tidy_self rfl
        | true =>
          rw [hx] at f1
          obtain ⟨q, rfl⟩ := fr_of hx
          have iq : ixD (fr q) (.int 0) h = .ok (.int q.num) h := by simp [fr, ixD]
          by_cases q0 : 0 ≤ q.num
          · have q0' : ¬ q.num < 0 := by omega
            have c1 : ex Δ gl (.ife (.or (.not (.isi (.var 0) (.b "tuple"))) (.or (.cmp .NotEq (.blt .len (.cons (.var 0) .nil)) (.int 2)) (.or (.not (.call i (.cons (.idx (.var 0) (.int 0)) .nil))) (.cmp .Lt (.idx (.idx (.var 0) (.int 0)) (.int 0)) (.int 0))))) (.cons (.ret (.bl false)) .nil) .nil) [some (.tup [fr q, y]), none] h = .ok (.nx [some (.tup [fr q, y]), none]) h := by
              refine ex_no ?_
              simp [ev, evs, e1, bltD, cmpD, eqD, asBl, i0, iq, f1, q0']
            cases hy : areFr y with
            | false =>
              rw [hy] at r1
              rw [bndV_no (fun x' y' z => by cases z; exact .inr hy)]
              have key : exs Δ gl (B_law_is_pair i j) [some (.tup [fr q, y]), none] h = .ok (.rt (.bl false)) h := by
                unfold B_law_is_pair
                refine (exs_nx c1).trans ?_
                simp [exs, ex, ev, evs, i1, r1, asBl]
              simp only [run, F_law_is_pair, List.length_cons, List.length_nil, if_true, List.map_cons, List.map_nil, List.replicate, List.cons_append, List.nil_append]
              rw [key]
              exact tidy_self rfl
            | true =>
              obtain ⟨P, rfl⟩ := frs_are hy
              rw [hy] at r1
              rw [bndV_yes q0]
              have lP : P.length ≤ 12 := by
                have := (gi _ (List.mem_cons_of_mem _ (List.mem_cons_self))).len
                simpa using this
              by_cases p8 : P.length < 8
              · have p8' : ¬ (7 : Int) < P.length := by omega
                have lc := some_left (Δ := Δ) (gl := gl) (a := .idx (.var 0) (.int 1)) (i := 1) (c := .cmp .Lt (.idx (.var 1) (.int 0)) (.int 0)) (ρ := [some (.tup [fr q, .tup (P.map fr)]), none]) (h := h) (xs := P.map fr) (p := fun z => !ge0 z) (by simp [ev, i1]) (by simp) (fun z hz => by
                  obtain ⟨p, _, rfl⟩ := List.mem_map.mp hz
                  have ip : ixD (fr p) (.int 0) h = .ok (.int p.num) h := by simp [fr, ixD]
                  have : decide (p.num < 0) = !ge0 (fr p) := by
                    rw [ge0_fr]
                    by_cases w : p.num < 0
                    · have : ¬ 0 ≤ p.num := by omega
                      simp [w, this]
                    · have : 0 ≤ p.num := by omega
                      simp [w, this]
                  simp [evt, ev, evs, wipeD, List.set, ip, cmpD, asBl, this]) (by simpa using lP)
                have cn := cmp_nil (o := .NotEq) lc (.inr rfl)
                have al := all_ge0 P
                have fe : decide ((P.map fr).filter (fun z => !ge0 z) = []) = P.all fun p => decide (0 ≤ p.num) := by
                  rw [← al, Bool.eq_iff_iff, decide_eq_true_iff, List.filter_eq_nil_iff, List.all_eq_true]
                  simp
                rw [if_neg (by decide), fe] at cn
                generalize (P.map fr).filter (fun z => !ge0 z) = fs at *
                have cc : ∀ b, (P.all fun p => decide (0 ≤ p.num)) = b → ev Δ gl (.or (.not (.call j (.cons (.idx (.var 0) (.int 1)) .nil))) (.or (.cmp .Gt (.blt .len (.cons (.idx (.var 0) (.int 1)) .nil)) (.int 7)) (.cmp .NotEq (.lc (.var 1) (.nm 1) (.pln (.idx (.var 0) (.int 1))) (.so (.cmp .Lt (.idx (.var 1) (.int 0)) (.int 0))) [1]) (.lst .nil)))) [some (.tup [fr q, .tup (P.map fr)]), none] h = .ok (.bl (!b)) (h ++ [.lst fs] ++ [.lst []]) := fun b hb => by
                  rw [hb] at cn
                  rw [or_ff (h1 := h) (by simp [ev, evs, i1, r1, asBl]), or_ff (h1 := h) (by simp [ev, evs, i1, bltD, cmpD, p8'])]
                  exact cn
                by_cases an : (P.all fun p => decide (0 ≤ p.num)) = true
                · have nn : ∀ p ∈ P, 0 ≤ p.num := fun p hp => by
                    have := List.all_eq_true.mp an p hp
                    simpa using this
                  have lt := last_evG (Δ := Δ) (gl := gl) (a := .idx (.var 0) (.int 1)) (ρ := [some (.tup [fr q, .tup (P.map fr)]), none]) (h := h ++ [.lst fs] ++ [.lst []]) (P := P) (by simp [ev, i1]) nn
                  have key : exs Δ gl (B_law_is_pair i j) [some (.tup [fr q, .tup (P.map fr)]), none] h = .ok (.rt (.bl (lastNz P))) (h ++ ([.lst fs] ++ [.lst []])) := by
                    unfold B_law_is_pair
                    refine (exs_nx c1).trans ?_
                    refine (exs_nx (ex_no (by rw [cc true an]; rfl))).trans ?_
                    rw [← List.append_assoc]
                    exact exs_rt lt
                  rw [decide_eq_true p8, an]
                  simp only [Bool.true_and]
                  simp only [run, F_law_is_pair, List.length_cons, List.length_nil, if_true, List.map_cons, List.map_nil, List.replicate, List.cons_append, List.nil_append]
                  rw [key]
                  exact tidy_pre rfl
                · have an : (P.all fun p => decide (0 ≤ p.num)) = false := by simpa using an
                  have key : exs Δ gl (B_law_is_pair i j) [some (.tup [fr q, .tup (P.map fr)]), none] h = .ok (.rt (.bl false)) (h ++ ([.lst fs] ++ [.lst []])) := by
                    unfold B_law_is_pair
                    refine (exs_nx c1).trans ?_
                    rw [exs, ex, cc false an]
                    simp [R.toF, asBl, exs, ex, ev]
                  rw [an, Bool.and_false, Bool.false_and]
                  simp only [run, F_law_is_pair, List.length_cons, List.length_nil, if_true, List.map_cons, List.map_nil, List.replicate, List.cons_append, List.nil_append]
                  rw [key]
                  exact tidy_pre rfl
              · have p8' : (7 : Int) < P.length := by omega
                have key : exs Δ gl (B_law_is_pair i j) [some (.tup [fr q, .tup (P.map fr)]), none] h = .ok (.rt (.bl false)) h := by
                  unfold B_law_is_pair
                  refine (exs_nx c1).trans ?_
                  have cc : ev Δ gl (.or (.not (.call j (.cons (.idx (.var 0) (.int 1)) .nil))) (.or (.cmp .Gt (.blt .len (.cons (.idx (.var 0) (.int 1)) .nil)) (.int 7)) (.cmp .NotEq (.lc (.var 1) (.nm 1) (.pln (.idx (.var 0) (.int 1))) (.so (.cmp .Lt (.idx (.var 1) (.int 0)) (.int 0))) [1]) (.lst .nil)))) [some (.tup [fr q, .tup (P.map fr)]), none] h = .ok (.bl true) h := by
                    rw [or_ff (h1 := h) (by simp [ev, evs, i1, r1, asBl])]
                    simp [ev, evs, i1, bltD, cmpD, p8', asBl]
                  rw [exs, ex, cc]
                  simp [R.toF, asBl, exs, ex, ev]
                rw [decide_eq_false p8, Bool.false_and, Bool.false_and]
                simp only [run, F_law_is_pair, List.length_cons, List.length_nil, if_true, List.map_cons, List.map_nil, List.replicate, List.cons_append, List.nil_append]
                rw [key]
                exact tidy_self rfl
          · have q0' : q.num < 0 := by omega
            rw [bndV_no (fun x' y' z => by cases z; exact .inl (by rw [hx, ge0_fr, decide_eq_false q0]; rfl))]
            simp [run, F_law_is_pair, B_law_is_pair, exs, ex, ev, evs, e1, bltD, cmpD, eqD, asBl, i0, iq, f1, q0']
            exact tidy_self rfl
    · rw [bndV_no (fun x' y' z => by cases z; exact absurd rfl l2)]
      have l2' : ¬ (xs.length : Int) = 2 := by omega
      simp [run, F_law_is_pair, B_law_is_pair, exs, ex, ev, evs, e1, bltD, cmpD, eqD, asBl, l2']
      exact tidy_self rfl
  | _ =>
    simp only [isTp] at e1
    simp [run, F_law_is_pair, B_law_is_pair, exs, ex, ev, evs, e1, asBl, bndV]
    exact tidy_self rfl
theorem s_law_pickG {i : Nat} (hp : S_pull (Δ i)) : S_pickG (run Δ gl (F_law_pickG i)) := by
  intro n k m xs h ua nm hm h0 hl hg
  have l0 : 0 < xs.length := List.length_pos_iff.mpr h0
  obtain ⟨v, h1, e1, v0, v1, u1⟩ := hp n xs.length h ua (by omega) (by omega)
  obtain ⟨w, rfl⟩ : ∃ w : Nat, v = w := ⟨v.toNat, by omega⟩
  have hw : w < xs.length := by omega
  have g1 : xs[w]? = some xs[w] := List.getElem?_eq_getElem hw
  have hm1 : h1[m]? = some (.lst xs) := by
    rw [u1.oth m nm (List.getElem?_eq_some_iff.mp hm).1]
    exact hm
  have ai : atI xs ((w : Nat) : Int) = some xs[w] := by rw [atI_nat hw, g1]
  have gd := (hg xs[w] (List.getElem_mem hw)).upd u1
  obtain ⟨d2, h2, t1, t2, t3⟩ := tidy_good ua (Nat.le_refl _) u1 gd
  refine ⟨d2, h2, ?_, t2, t3⟩
  have key : exs Δ gl (B_law_pickG i) [some (.ref n), some (.ref m)] h = .ok (.rt xs[w]) h1 := by
    unfold B_law_pickG
    refine exs_rt ?_
    simp [ev, evs, bltD, listAt, hm, e1, ixD, hm1, ai]
  simp only [run, F_law_pickG, List.length_cons, List.length_nil, if_true, List.map_cons, List.map_nil, List.replicate, List.append_nil, Nat.sub_self]
  rw [key]
  exact t1
end
end HS

/-! k02: things are drawn. -/
namespace HS
open PySem L2
def odd1 (m : Nat) : List D := [.non, .bl true, .bl false, .int 0, .int 3, .int (-1), .str "", .str "x", .str "1/2", .tup [], .tup [.int 0], .tup [.int 2, .int 4], .tup [.int 1, .int 0], .tup [.int 0, .int 2], .tup [.int 1, .int (-2)], .ref m, .tup [.int 1, .int 2, .int 3], .ref (m + 1), .tup [.tup [.int 0, .int 1]]]
def odd2 : List D := [.tup [.bl true, .int 1], .tup [.int 1, .bl true], .tup [.non, .int 1], .tup [.tup [.int 1, .int 1], .tup [.int 1, .int 1], .tup [.int 1, .int 1]], .tup [.tup [.int 0, .int 1], .tup [.int 1, .int 1]], .tup [.int 1000000000000000000000000000000, .int 7]]
def oddH (h : Hh) : Hh := h ++ [.lst [.int 0, .int 1], .dic [], .lst (odd1 h.length), .lst odd2, .lst (odd1 h.length ++ odd2)]
theorem good_int {n k : Nat} {h : Hh} {i : Int} (hi : i.natAbs < 2 ^ 110) : Good n h (k + 1) (.int i) := hi
theorem good_t0 {n k : Nat} {h : Hh} : Good n h (k + 1) (.tup []) := ⟨by simp, fun x hx => by simp at hx⟩
theorem good_t1 {n k : Nat} {h : Hh} {a : D} (ha : Good n h k a) : Good n h (k + 1) (.tup [a]) := ⟨by simp, fun x hx => by
  simp only [List.mem_cons, List.not_mem_nil, or_false] at hx
  rw [hx]; exact ha⟩
theorem good_t2 {n k : Nat} {h : Hh} {a b : D} (ha : Good n h k a) (hb : Good n h k b) : Good n h (k + 1) (.tup [a, b]) := ⟨by simp, fun x hx => by
  simp only [List.mem_cons, List.not_mem_nil, or_false] at hx
  rcases hx with rfl | rfl
  · exact ha
  · exact hb⟩
theorem good_t3 {n k : Nat} {h : Hh} {a b c : D} (ha : Good n h k a) (hb : Good n h k b) (hc : Good n h k c) : Good n h (k + 1) (.tup [a, b, c]) := ⟨by simp, fun x hx => by
  simp only [List.mem_cons, List.not_mem_nil, or_false] at hx
  rcases hx with rfl | rfl | rfl
  · exact ha
  · exact hb
  · exact hc⟩
theorem good_l2 {n k m : Nat} {h : Hh} {a b : D} (nm : m ≠ n) (e : h[m]? = some (.lst [a, b])) (ha : Good n h k a) (hb : Good n h k b) : Good n h (k + 1) (.ref m) := ⟨nm, .inl ⟨_, e, by simp, fun x hx => by
  simp only [List.mem_cons, List.not_mem_nil, or_false] at hx
  rcases hx with rfl | rfl
  · exact ha
  · exact hb⟩⟩
theorem good_odd {n : Nat} {h : Hh} (nl : n < h.length) : ∀ x ∈ odd1 h.length ++ odd2, Good n (oddH h) 3 x := by
  have e1 : (oddH h)[h.length]? = some (.lst [.int 0, .int 1]) := by simp [oddH]
  have e2 : (oddH h)[h.length + 1]? = some (.dic []) := by simp [oddH]
  have gi : ∀ (k : Nat) (i : Int), i.natAbs < 2 ^ 110 → Good n (oddH h) (k + 1) (.int i) := fun k i hi => hi
  have gb : ∀ (k : Nat) (b : Bool), Good n (oddH h) (k + 1) (.bl b) := fun k b => trivial
  have gn : ∀ (k : Nat), Good n (oddH h) (k + 1) .non := fun k => trivial
  have gs : ∀ (k : Nat) (s : Str), s ∈ oddS → Good n (oddH h) (k + 1) (.str s) := fun k s hs => hs
  intro x hx
  simp only [odd1, odd2, List.cons_append, List.nil_append, List.mem_cons, List.not_mem_nil, or_false] at hx
  rcases hx with rfl | rfl | rfl | rfl | rfl | rfl | rfl | rfl | rfl | rfl | rfl | rfl | rfl | rfl | rfl | rfl | rfl | rfl | rfl | rfl | rfl | rfl | rfl | rfl | rfl
  · exact gn _
  · exact gb _ _
  · exact gb _ _
  · exact gi _ _ (by decide)
  · exact gi _ _ (by decide)
  · exact gi _ _ (by decide)
  · exact gs _ _ (by simp [oddS])
  · exact gs _ _ (by simp [oddS])
  · exact gs _ _ (by simp [oddS])
  · exact good_t0
  · exact good_t1 (gi _ _ (by decide))
  · exact good_t2 (gi _ _ (by decide)) (gi _ _ (by decide))
  · exact good_t2 (gi _ _ (by decide)) (gi _ _ (by decide))
  · exact good_t2 (gi _ _ (by decide)) (gi _ _ (by decide))
  · exact good_t2 (gi _ _ (by decide)) (gi _ _ (by decide))
  · exact good_l2 (by omega) e1 (gi _ _ (by decide)) (gi _ _ (by decide))
  · exact good_t3 (gi _ _ (by decide)) (gi _ _ (by decide)) (gi _ _ (by decide))
  · exact ⟨by omega, .inr e2⟩
  · exact good_t1 (good_t2 (gi _ _ (by decide)) (gi _ _ (by decide)))
  · exact good_t2 (gb _ _) (gi _ _ (by decide))
  · exact good_t2 (gi _ _ (by decide)) (gb _ _)
  · exact good_t2 (gn _) (gi _ _ (by decide))
  · exact good_t3 (good_t2 (gi _ _ (by decide)) (gi _ _ (by decide))) (good_t2 (gi _ _ (by decide)) (gi _ _ (by decide))) (good_t2 (gi _ _ (by decide)) (gi _ _ (by decide)))
  · exact good_t2 (good_t2 (gi _ _ (by decide)) (gi _ _ (by decide))) (good_t2 (gi _ _ (by decide)) (gi _ _ (by decide)))
  · exact good_t2 (gi _ _ (by decide)) (gi _ _ (by decide))
section
variable {Δ : Nat → Fn} {gl : Nat → D}
theorem bin_ev {o : BO} {a b : E} {ρ : En} {h h1 h2 : Hh} {x y : D} (e1 : ev Δ gl a ρ h = .ok x h1) (e2 : ev Δ gl b ρ h1 = .ok y h2) : ev Δ gl (.bin o a b) ρ h = bop o x y h2 := by
  rw [ev, e1]
  simp only [R.bind_ok, e2]
theorem s_law_odd {i : Nat} (hp : S_pickG (Δ i)) : S_draw 3 (run Δ gl (F_law_odd i)) := by
  intro n h ua
  have nl := ua.lt
  have up0 : Up n N0 h (oddH h) := Up.push ua
  have e5 : (oddH h)[h.length + 4]? = some (.lst (odd1 h.length ++ odd2)) := by simp [oddH]
  obtain ⟨d, h1, e1, g1, u1⟩ := hp n 3 (h.length + 4) _ (oddH h) up0.at_ (by omega) e5 (by simp [odd1]) (by simp [odd1, odd2]) (good_odd nl)
  obtain ⟨d2, h2, t1, t2, t3⟩ := tidy_good ua (Nat.le_refl _) (up0.trans u1) g1
  refine ⟨d2, h2, ?_, t2, t3⟩
  have key : exs Δ gl (B_law_odd i) [some (.ref n), none] h = .ok (.rt d) h1 := by
    unfold B_law_odd
    refine (exs_nx (ex_asg (d := .ref (h.length + 2)) (h1 := h ++ [.lst [.int 0, .int 1], .dic [], .lst (odd1 h.length)]) ?_)).trans ?_
    · simp [ev, evs, lineOk, sizeLine, alloc, odd1]
    simp only [List.set]
    refine exs_rt ?_
    have ea : ev Δ gl (.bin .add (.var 1) (.lst (.cons (.tup (.cons (.bl true) (.cons (.int 1) .nil))) (.cons (.tup (.cons (.int 1) (.cons (.bl true) .nil))) (.cons (.tup (.cons .non (.cons (.int 1) .nil))) (.cons (.tup (.cons (.tup (.cons (.int 1) (.cons (.int 1) .nil))) (.cons (.tup (.cons (.int 1) (.cons (.int 1) .nil))) (.cons (.tup (.cons (.int 1) (.cons (.int 1) .nil))) .nil)))) (.cons (.tup (.cons (.tup (.cons (.int 0) (.cons (.int 1) .nil))) (.cons (.tup (.cons (.int 1) (.cons (.int 1) .nil))) .nil))) (.cons (.tup (.cons (.bin .pow (.int 10) (.int 30)) (.cons (.int 7) .nil))) .nil)))))))) [some (.ref n), some (.ref (h.length + 2))] (h ++ [.lst [.int 0, .int 1], .dic [], .lst (odd1 h.length)]) = .ok (.ref (h.length + 4)) (oddH h) := by
      have q1 : (h ++ [C.lst [.int 0, .int 1], .dic [], .lst (odd1 h.length)] ++ [C.lst odd2])[h.length + 2]? = some (.lst (odd1 h.length)) := by simp
      have q2 : (h ++ [C.lst [.int 0, .int 1], .dic [], .lst (odd1 h.length)] ++ [C.lst odd2])[h.length + 3]? = some (.lst odd2) := by simp
      have el : ev Δ gl (.lst (.cons (.tup (.cons (.bl true) (.cons (.int 1) .nil))) (.cons (.tup (.cons (.int 1) (.cons (.bl true) .nil))) (.cons (.tup (.cons .non (.cons (.int 1) .nil))) (.cons (.tup (.cons (.tup (.cons (.int 1) (.cons (.int 1) .nil))) (.cons (.tup (.cons (.int 1) (.cons (.int 1) .nil))) (.cons (.tup (.cons (.int 1) (.cons (.int 1) .nil))) .nil)))) (.cons (.tup (.cons (.tup (.cons (.int 0) (.cons (.int 1) .nil))) (.cons (.tup (.cons (.int 1) (.cons (.int 1) .nil))) .nil))) (.cons (.tup (.cons (.bin .pow (.int 10) (.int 30)) (.cons (.int 7) .nil))) .nil))))))) [some (.ref n), some (.ref (h.length + 2))] (h ++ [.lst [.int 0, .int 1], .dic [], .lst (odd1 h.length)]) = .ok (.ref (h.length + 3)) (h ++ [.lst [.int 0, .int 1], .dic [], .lst (odd1 h.length)] ++ [.lst odd2]) := by
        simp [ev, evs, bop, lineOk, sizeLine, alloc, odd2]
      have lo : lineOk ((odd1 h.length).length + odd2.length) = true := by simp [odd1, odd2]; decide
      rw [bin_ev (x := .ref (h.length + 2)) (by simp [ev]) el]
      simp only [bop, q1, q2, lo, if_true, alloc]
      simp [oddH]
    have ex2 : evs Δ gl (.cons (.var 0) (.cons (.bin .add (.var 1) (.lst (.cons (.tup (.cons (.bl true) (.cons (.int 1) .nil))) (.cons (.tup (.cons (.int 1) (.cons (.bl true) .nil))) (.cons (.tup (.cons .non (.cons (.int 1) .nil))) (.cons (.tup (.cons (.tup (.cons (.int 1) (.cons (.int 1) .nil))) (.cons (.tup (.cons (.int 1) (.cons (.int 1) .nil))) (.cons (.tup (.cons (.int 1) (.cons (.int 1) .nil))) .nil)))) (.cons (.tup (.cons (.tup (.cons (.int 0) (.cons (.int 1) .nil))) (.cons (.tup (.cons (.int 1) (.cons (.int 1) .nil))) .nil))) (.cons (.tup (.cons (.bin .pow (.int 10) (.int 30)) (.cons (.int 7) .nil))) .nil)))))))) .nil)) [some (.ref n), some (.ref (h.length + 2))] (h ++ [.lst [.int 0, .int 1], .dic [], .lst (odd1 h.length)]) = .ok [.ref n, .ref (h.length + 4)] (oddH h) := evs2 (by simp [ev]) ea
    rw [ev, ex2]
    exact e1
  simp only [run, F_law_odd, List.length_cons, List.length_nil, if_true, List.map_cons, List.map_nil, List.replicate, List.cons_append, List.nil_append]
  rw [key]
  exact t1
end
end HS

/-! k02: numbers, rows, things. -/
namespace HS
open PySem L2
theorem up_ref {n N k : Nat} {h h' : Hh} {c : C} {j : Nat} (u : Up n N h h') (nj : j ≠ n) (e : h[j]? = some c) : h'[j]? = some c := by
  rw [u.oth j nj (List.getElem?_eq_some_iff.mp e).1]
  exact e
theorem good_int' {n k : Nat} {h : Hh} {i : Int} {B : Nat} (b : Bt B i) (hB : B ≤ 110) : Good n h (k + 1) (.int i) := b.mono hB
section
variable {Δ : Nat → Fn} {gl : Nat → D}
theorem s_law_number {i j k l : Nat} (hf : S_with (Δ i)) (hp : S_pull (Δ j)) (hk : S_pickG (Δ k)) (ho : S_draw 3 (Δ l)) : S_draw 3 (run Δ gl (F_law_number i j k l)) := by
  intro n h ua
  obtain ⟨v1, h1, e1, v1a, v1b, u1⟩ := hp n 13 h ua (by decide) (by decide)
  obtain ⟨v2, h2, e2, v2a, v2b, u2⟩ := hp n 6 h1 u1.at_ (by decide) (by decide)
  have e3 := hf (v1 - 5) (1 + v2) 3 h2 (by omega) (by unfold Bt; omega) (by decide)
  have sq : Sz 4 (Rat.divInt (v1 - 5) (1 + v2)) := sz_divInt (by omega) (by unfold Bt; omega) (by unfold Bt; omega)
  generalize Rat.divInt (v1 - 5) (1 + v2) = q at *
  obtain ⟨v3, h3, e4, v3a, v3b, u3⟩ := hp n 9 h2 (u1.trans u2).at_ (by decide) (by decide)
  have up3 := (u1.trans u2).trans u3
  have s1 : ex Δ gl (.asg (.nm 1) (.call i (.cons (.bin .sub (.call j (.cons (.var 0) (.cons (.int 13) .nil))) (.int 5)) (.cons (.bin .add (.int 1) (.call j (.cons (.var 0) (.cons (.int 6) .nil)))) .nil)))) [some (.ref n), none] h = .ok (.nx [some (.ref n), some (fr q)]) h2 := by
    refine ex_asg ?_
    simp [ev, evs, e1, e2, bop, e3]
  have fin : ∀ (d : D) (h' : Hh), Good n h' 3 d → Up n N0 h h' → exs Δ gl (B_law_number i j k l) [some (.ref n), none] h = .ok (.rt d) h' → ∃ d h', run Δ gl (F_law_number i j k l) [.ref n] h = .ok d h' ∧ Good n h' 3 d ∧ Up n N0 h h' := fun d h' g u key => by
    obtain ⟨d2, h2, t1, t2, t3⟩ := tidy_good ua (Nat.le_refl _) u g
    refine ⟨d2, h2, ?_, t2, t3⟩
    simp only [run, F_law_number, List.length_cons, List.length_nil, if_true, List.map_cons, List.map_nil, List.replicate, List.cons_append, List.nil_append]
    rw [key]
    exact t1
  by_cases p : 0 < v3
  · refine fin (fr q) h3 ((good_fr sq (by decide)).le (by decide)) up3 ?_
    unfold B_law_number
    refine (exs_nx s1).trans ?_
    simp [exs, ex, ev, evs, e4, cmpD, asBl, p]
  · -- one of the odd ones
    have nl3 := up3.at_.lt
    let a := q.num
    let b : Int := q.den
    have sa : Bt 4 a := sq.1
    have sb : Bt 4 b := sq.2
    have u4 : Up n N0 h3 (h3 ++ [.lst [.int a, .int b]]) := Up.push up3.at_
    have up4 := up3.trans u4
    obtain ⟨d, h5, e5, g5, u5⟩ := ho n _ up4.at_
    have up5 := up4.trans u5
    have e3' : (h3 ++ [C.lst [D.int a, D.int b]])[h3.length]? = some (.lst [.int a, .int b]) := get_end
    have e5' := up_ref (k := 0) u5 (show h3.length ≠ n by omega) e3'
    let ys : List D := [.tup [.int (2 * a), .int (2 * b)], .tup [.int a, .int (-b)], .ref h3.length, .tup [.int a, .int b, .int 1], .tup [.int a], .tup [.int a, .bl true], .int a, d]
    have up6 : Up n N0 h (h5 ++ [.lst ys]) := up5.trans (Up.push up5.at_)
    have gy : ∀ x ∈ ys, Good n (h5 ++ [.lst ys]) 3 x := fun x hx => by
      simp only [ys, List.mem_cons, List.not_mem_nil, or_false] at hx
      have gi : ∀ (m : Nat) (z : Int) (B : Nat), Bt B z → B ≤ 110 → Good n (h5 ++ [.lst ys]) (m + 1) (.int z) := fun m z B bz hB => good_int' bz hB
      have b2 : Bt 2 2 := bts (by decide)
      rcases hx with rfl | rfl | rfl | rfl | rfl | rfl | rfl | rfl
      · exact good_t2 (gi _ _ _ (b2.mul sa) (by decide)) (gi _ _ _ (b2.mul sb) (by decide))
      · exact good_t2 (gi _ _ _ sa (by decide)) (gi _ _ _ sb.neg (by decide))
      · exact good_l2 (by omega) (at_app e5') (gi _ _ _ sa (by decide)) (gi _ _ _ sb (by decide))
      · exact good_t3 (gi _ _ _ sa (by decide)) (gi _ _ _ sb (by decide)) (gi _ _ 1 (bts (by decide)) (by decide))
      · exact good_t1 (gi _ _ _ sa (by decide))
      · exact good_t2 (gi _ _ _ sa (by decide)) trivial
      · exact gi _ _ _ sa (by decide)
      · exact g5.app
    have em : (h5 ++ [C.lst ys])[h5.length]? = some (.lst ys) := get_end
    have nl5 := up5.at_.lt
    obtain ⟨d7, h7, e7, g7, u7⟩ := hk n 3 h5.length ys (h5 ++ [.lst ys]) up6.at_ (by omega) em (by simp [ys]) (by simp [ys]) gy
    refine fin d7 h7 g7 (up6.trans u7) ?_
    have el : ev Δ gl (.lst (.cons (.tup (.cons (.bin .mul (.int 2) (.idx (.var 1) (.int 0))) (.cons (.bin .mul (.int 2) (.idx (.var 1) (.int 1))) .nil))) (.cons (.tup (.cons (.idx (.var 1) (.int 0)) (.cons (.neg (.idx (.var 1) (.int 1))) .nil))) (.cons (.blt .list (.cons (.var 1) .nil)) (.cons (.bin .add (.var 1) (.tup (.cons (.int 1) .nil))) (.cons (.slc (.var 1) .no (.so (.int 1))) (.cons (.tup (.cons (.idx (.var 1) (.int 0)) (.cons (.bl true) .nil))) (.cons (.idx (.var 1) (.int 0)) (.cons (.call l (.cons (.var 0) .nil)) .nil))))))))) [some (.ref n), some (fr q)] h3 = .ok (.ref h5.length) (h5 ++ [.lst ys]) := by
      have i0 : ∀ h, ixD (fr q) (.int 0) h = .ok (.int a) h := fun h => by simp [fr, ixD, a]
      have i1 : ∀ h, ixD (fr q) (.int 1) h = .ok (.int b) h := fun h => by simp [fr, ixD, b]
      have m1 : mulOk 2 a = true := mulOk_of (B := 2) (bts (by decide)) sa (by decide)
      have m2 : mulOk 2 b = true := mulOk_of (B := 2) (bts (by decide)) sb (by decide)
      have bl : bltD .list [fr q] h3 = .ok (.ref h3.length) (h3 ++ [.lst [.int a, .int b]]) := rfl
      have ad : ∀ h, bop .add (fr q) (.tup [.int 1]) h = .ok (.tup [.int a, .int b, .int 1]) h := fun h => by simp [fr, bop, lineOk, sizeLine, a, b]
      have cu : ∀ h, slD (fr q) none (some 1) h = .ok (.tup [.int a]) h := fun h => by simp [fr, slD, cutD, HT.sIx, a]
      have mm1 : ∀ h, bop .mul (.int 2) (.int a) h = .ok (.int (2 * a)) h := fun h => by simp [bop, m1]
      have mm2 : ∀ h, bop .mul (.int 2) (.int b) h = .ok (.int (2 * b)) h := fun h => by simp [bop, m2]
      simp [ev, evs, evo, getI, i0, i1, mm1, mm2, bl, ad, cu, e5, lineOk, sizeLine, alloc, ys]
    unfold B_law_number
    refine (exs_nx s1).trans ?_
    refine (exs_nx (ex_no (h1 := h3) ?_)).trans ?_
    · simp [ev, evs, e4, cmpD, p]
    refine exs_rt ?_
    rw [ev, evs2 (x := .ref n) (h1 := h3) (by simp [ev]) el]
    exact e7
/-- so many draws -/
theorem lc_draws {el : D → Hh → R (Option D)} {n : Nat} (hel : ∀ (x : D) h, UAt n N0 h → ∃ d h', el x h = .ok (some d) h' ∧ Good n h' 3 d ∧ Up n N0 h h') :
    ∀ (items acc : List D) (h : Hh), UAt n N0 h → (∀ x ∈ acc, Good n h 3 x) → acc.length + items.length ≤ 11 → ∃ (l : List D) (h' : Hh), lcL [] el items acc h = .ok (.ref h'.length) (h' ++ [.lst l]) ∧ (∀ x ∈ l, Good n h' 3 x) ∧ l.length ≤ 11 ∧ Up n N0 h h'
  | [], acc, h, ua, ga, hl => by
    refine ⟨acc, h, ?_, ga, by simpa using hl, .refl ua⟩
    have sl : acc.length ≤ sizeLine := Nat.le_trans (show acc.length ≤ 11 by simpa using hl) (by decide)
    simp [lcL, gsOk_nil, sl, alloc]
  | x :: items, acc, h, ua, ga, hl => by
    obtain ⟨d, h1, e1, g1, u1⟩ := hel x h ua
    obtain ⟨l, h2, e2, g2, l2, u2⟩ := lc_draws hel items (acc ++ [d]) h1 u1.at_ (fun y hy => by
      rcases List.mem_append.mp hy with hy | hy
      · exact (ga y hy).upd u1
      · rw [List.mem_singleton.mp hy]; exact g1) (by simp at hl ⊢; omega)
    refine ⟨l, h2, ?_, g2, l2, u1.trans u2⟩
    have sl : acc.length < sizeLine := Nat.lt_of_lt_of_le (show acc.length < 12 by simp at hl; omega) (by decide)
    unfold lcL
    rw [if_pos ⟨gsOk_nil _, sl⟩, e1]
    simp only [R.bind_ok]
    exact e2
theorem s_law_row {i j : Nat} (hn : S_draw 3 (Δ i)) (hp : S_pull (Δ j)) : S_row (run Δ gl (F_law_row i j)) := by
  intro n m h ua hm
  have nl := ua.lt
  obtain ⟨l, h1, e1, g1, l1, u1⟩ := lc_draws (n := n) (el := fun d h => ((asn Δ gl (.nm 3) d (wipeD [some (.ref n), some (.int (m : Int)), none, none, none] [3]) h).bind fun ρ1 h => (evt Δ gl .no ρ1 h).bind fun b h => if b = true then (ev Δ gl (.call i (.cons (.var 0) .nil)) ρ1 h).bind fun y h => .ok (some y) h else .ok none h).calm) (fun x h ua => by
    obtain ⟨d, h', e, g, u⟩ := hn n h ua
    exact ⟨d, h', by simp [asn, wipeD, List.set, evt, ev, evs, e, R.calm], g, u⟩) (upFrom 0 m) [] h ua (fun x hx => absurd hx List.not_mem_nil) (by simp [upFrom]; omega)
  have eA := (ev_lc (elt := .call i (.cons (.var 0) .nil)) (t := .nm 3) (tt := .no) (own := [3]) (ρ := [some (.ref n), some (.int (m : Int)), none, none, none]) (h := h) (p := upFrom 0 m) (gs := []) (h1 := h) (evi_rng1 (es := .cons (.var 1) .nil) (k := m) (by simp [evs, ev]) (small_nat (by omega)))).trans e1
  have s1 : ex Δ gl (.asg (.nm 2) (.blt .tuple (.cons (.lc (.call i (.cons (.var 0) .nil)) (.nm 3) (.rng (.cons (.var 1) .nil)) .no [3]) .nil))) [some (.ref n), some (.int (m : Int)), none, none, none] h = .ok (.nx [some (.ref n), some (.int (m : Int)), some (.tup l), none, none]) (h1 ++ [.lst l]) := by
    refine ex_asg ?_
    rw [ev, evs, eA]
    simp [evs, bltD, listAt]
  have up2 : Up n N0 h (h1 ++ [.lst l]) := u1.trans (Up.push u1.at_)
  have g2 : ∀ x ∈ l, Good n (h1 ++ [.lst l]) 3 x := fun x hx => (g1 x hx).app
  generalize h1 ++ [C.lst l] = h2 at *
  obtain ⟨v, h3, e3, v0, v1, u3⟩ := hp n 10 h2 up2.at_ (by decide) (by decide)
  have up3 := up2.trans u3
  have g3 : ∀ x ∈ l, Good n h3 3 x := fun x hx => (g2 x hx).upd u3
  have fin : ∀ (d : D) (h' : Hh), Good n h' 4 d → Up n N0 h h' → exs Δ gl (B_law_row i j) [some (.ref n), some (.int (m : Int)), none, none, none] h = .ok (.rt d) h' → ∃ d h', run Δ gl (F_law_row i j) [.ref n, .int m] h = .ok d h' ∧ Good n h' 4 d ∧ Up n N0 h h' := fun d h' g u key => by
    obtain ⟨d2, h2, t1, t2, t3⟩ := tidy_good ua (Nat.le_refl _) u g
    refine ⟨d2, h2, ?_, t2, t3⟩
    simp only [run, F_law_row, List.length_cons, List.length_nil, if_true, List.map_cons, List.map_nil, List.replicate, List.cons_append, List.nil_append]
    rw [key]
    exact t1
  by_cases w0 : v = 0
  · subst w0
    have nl3 := up3.at_.lt
    refine fin (.ref h3.length) (h3 ++ [.lst l]) ⟨by omega, .inl ⟨l, get_end, by omega, fun x hx => (g3 x hx).app⟩⟩ (up3.trans (Up.push up3.at_)) ?_
    unfold B_law_row
    refine (exs_nx s1).trans ?_
    simp [exs, ex, ev, evs, asn, e3, cmpD, eqD, asBl, bltD, alloc, R.calm, List.set]
  · by_cases w1 : v = 1
    · subst w1
      refine fin (.tup (l ++ [.tup [.int 0, .int 1]])) h3 ⟨by simp; omega, fun x hx => ?_⟩ up3 ?_
      · rcases List.mem_append.mp hx with hx | hx
        · exact g3 x hx
        · rw [List.mem_singleton.mp hx]
          exact good_t2 (good_int (by decide)) (good_int (by decide))
      · have lo : lineOk (l.length + 1) = true := decide_eq_true (Nat.le_trans (show l.length + 1 ≤ 12 by omega) (by decide))
        unfold B_law_row
        refine (exs_nx s1).trans ?_
        simp [exs, ex, ev, evs, asn, e3, cmpD, eqD, asBl, bop, lo, R.calm, List.set, lineOk, sizeLine]
        have : l.length ≤ 16777215 := by omega
        rw [if_pos this]
        rfl
    · refine fin (.tup l) h3 ⟨by omega, g3⟩ up3 ?_
      unfold B_law_row
      refine (exs_nx s1).trans ?_
      simp [exs, ex, ev, evs, asn, e3, cmpD, eqD, asBl, R.calm, List.set, w0, w1]
end
end HS

/-! k02: the thing. -/
namespace HS
open PySem L2
def absD : D → D
  | .tup [.int a, .int b] => .tup [.int (if a < 0 then -a else a), .int b]
  | d => d
theorem absD_fr (q : Rat) : absD (fr q) = .tup [.int (if q.num < 0 then -q.num else q.num), .int q.den] := rfl
theorem good_abs {n k : Nat} {h : Hh} {q : Rat} (s : Sz 110 q) : Good n h (k + 2) (absD (fr q)) := by
  rw [absD_fr]
  refine good_t2 ?_ s.2
  show Bt 110 _
  split
  · exact s.1.neg
  · exact s.1
section
variable {Δ : Nat → Fn} {gl : Nat → D}
set_option maxHeartbeats 1000000 in
theorem s_law_thing {i j k l m o p : Nat} (hp : S_pull (Δ i)) (ho : S_draw 3 (Δ j)) (hn : S_draw 3 (Δ k)) (hr : S_row (Δ l)) (ha : S_areD (Δ m)) (hf : S_frD (Δ o)) (hk : S_pickG (Δ p)) : S_draw 5 (run Δ gl (F_law_thing i j k l m o p)) := by
  intro n h ua
  obtain ⟨w, h1, e1, w0, w1, u1⟩ := hp n 6 h ua (by decide) (by decide)
  have fin : ∀ (d : D) (h' : Hh), Good n h' 5 d → Up n N0 h h' → exs Δ gl (B_law_thing i j k l m o p) [some (.ref n), none, none, none, none] h = .ok (.rt d) h' → ∃ d h', run Δ gl (F_law_thing i j k l m o p) [.ref n] h = .ok d h' ∧ Good n h' 5 d ∧ Up n N0 h h' := fun d h' g u key => by
    obtain ⟨d2, h2, t1, t2, t3⟩ := tidy_good ua (Nat.le_refl _) u g
    refine ⟨d2, h2, ?_, t2, t3⟩
    simp only [run, F_law_thing, List.length_cons, List.length_nil, if_true, List.map_cons, List.map_nil, List.replicate, List.cons_append, List.nil_append]
    rw [key]
    exact t1
  have s1 : ex Δ gl (.asg (.nm 1) (.call i (.cons (.var 0) (.cons (.int 6) .nil)))) [some (.ref n), none, none, none, none] h = .ok (.nx [some (.ref n), some (.int w), none, none, none]) h1 := by
    refine ex_asg ?_
    simp [ev, evs, e1]
  have ce : ∀ (x y : Int) h, cmpD .Eq (.int x) (.int y) h = .ok (.bl (decide (x = y))) h := fun _ _ _ => rfl
  by_cases c0 : w = 0
  · obtain ⟨d, h2, e2, g2, u2⟩ := ho n h1 u1.at_
    refine fin d h2 (g2.le (by decide)) (u1.trans u2) ?_
    unfold B_law_thing
    refine (exs_nx s1).trans ?_
    simp [exs, ex, ev, evs, ce, asBl, c0, e2]
  · by_cases c1 : w = 1
    · obtain ⟨d, h2, e2, g2, u2⟩ := hn n h1 u1.at_
      refine fin d h2 (g2.le (by decide)) (u1.trans u2) ?_
      unfold B_law_thing
      refine (exs_nx s1).trans ?_
      simp [exs, ex, ev, evs, ce, asBl, c0, c1, e2]
    · by_cases c2 : w = 2
      · obtain ⟨d, h2, e2, g2, u2⟩ := hr n 2 h1 u1.at_ (by decide)
        have e2 : Δ l [.ref n, .int 2] h1 = .ok d h2 := e2
        refine fin d h2 (g2.le (by decide)) (u1.trans u2) ?_
        unfold B_law_thing
        refine (exs_nx s1).trans ?_
        simp [exs, ex, ev, evs, ce, asBl, c0, c1, c2, e2]
      · by_cases c3 : w = 3
        · obtain ⟨v, h2, e2, v0, v1, u2⟩ := hp n 11 h1 u1.at_ (by decide) (by decide)
          obtain ⟨vm, rfl⟩ : ∃ vm : Nat, v = vm := ⟨v.toNat, by omega⟩
          obtain ⟨d, h3, e3, g3, u3⟩ := hr n vm h2 u2.at_ (by omega)
          refine fin d h3 (g3.le (by decide)) ((u1.trans u2).trans u3) ?_
          unfold B_law_thing
          refine (exs_nx s1).trans ?_
          simp [exs, ex, ev, evs, ce, asBl, c0, c1, c2, c3, e2, e3]
        · obtain ⟨v, h2, e2, v0, v1, u2⟩ := hp n 9 h1 u1.at_ (by decide) (by decide)
          obtain ⟨vm, rfl⟩ : ∃ vm : Nat, v = vm := ⟨v.toNat, by omega⟩
          obtain ⟨cs, h3, e3, g3, u3⟩ := hr n vm h2 u2.at_ (by omega)
          have up3 := (u1.trans u2).trans u3
          have n0 : ex Δ gl (.ife (.cmp .Eq (.var 1) (.int 0)) (.cons (.ret (.call j (.cons (.var 0) .nil))) .nil) .nil) [some (.ref n), some (.int w), none, none, none] h1 = .ok (.nx [some (.ref n), some (.int w), none, none, none]) h1 := ex_no (by simp [ev, ce, c0])
          have n1 : ex Δ gl (.ife (.cmp .Eq (.var 1) (.int 1)) (.cons (.ret (.call k (.cons (.var 0) .nil))) .nil) .nil) [some (.ref n), some (.int w), none, none, none] h1 = .ok (.nx [some (.ref n), some (.int w), none, none, none]) h1 := ex_no (by simp [ev, ce, c1])
          have n2 : ex Δ gl (.ife (.cmp .Eq (.var 1) (.int 2)) (.cons (.ret (.call l (.cons (.var 0) (.cons (.int 2) .nil)))) .nil) .nil) [some (.ref n), some (.int w), none, none, none] h1 = .ok (.nx [some (.ref n), some (.int w), none, none, none]) h1 := ex_no (by simp [ev, ce, c2])
          have n3 : ex Δ gl (.ife (.cmp .Eq (.var 1) (.int 3)) (.cons (.ret (.call l (.cons (.var 0) (.cons (.call i (.cons (.var 0) (.cons (.int 11) .nil))) .nil)))) .nil) .nil) [some (.ref n), some (.int w), none, none, none] h1 = .ok (.nx [some (.ref n), some (.int w), none, none, none]) h1 := ex_no (by simp [ev, ce, c3])
          have s2 : ex Δ gl (.asg (.nm 2) (.call l (.cons (.var 0) (.cons (.call i (.cons (.var 0) (.cons (.int 9) .nil))) .nil)))) [some (.ref n), some (.int w), none, none, none] h1 = .ok (.nx [some (.ref n), some (.int w), some cs, none, none]) h3 := by
            refine ex_asg ?_
            simp [ev, evs, e2, e3]
          -- the row, made to begin from 0 on
          obtain ⟨cs2, h4, s3, g4, up4⟩ : ∃ cs2 h4, ex Δ gl (.ife (.and (.call m (.cons (.var 2) .nil)) (.cmp .Gt (.call i (.cons (.var 0) (.cons (.int 4) .nil))) (.int 0))) (.cons (.asg (.nm 2) (.blt .tuple (.cons (.lc (.tup (.cons (.blt .abs (.cons (.idx (.var 3) (.int 0)) .nil)) (.cons (.idx (.var 3) (.int 1)) .nil))) (.nm 3) (.pln (.var 2)) .no [3]) .nil))) .nil) .nil)
              [some (.ref n), some (.int w), some cs, none, none] h3 = .ok (.nx [some (.ref n), some (.int w), some cs2, none, none]) h4 ∧ Good n h4 4 cs2 ∧ Up n N0 h h4 := by
            have a1 := ha n 4 cs h3 g3
            cases hc : areFr cs with
            | false =>
              rw [hc] at a1
              exact ⟨cs, h3, ex_no (by simp [ev, evs, a1, asBl]), g3, up3⟩
            | true =>
              rw [hc] at a1
              obtain ⟨v, h4, e4, v0, v1, u4⟩ := hp n 4 h3 up3.at_ (by decide) (by decide)
              have g4 := g3.upd u4
              by_cases pv : 0 < v
              · obtain ⟨P, rfl⟩ := frs_are hc
                have lP : P.length ≤ 12 := by
                  have := g4.len
                  simpa using this
                have gP : ∀ q ∈ P, Sz 110 q := fun q hq => good_sz (g4.2 (fr q) (List.mem_map_of_mem hq))
                have lc : ev Δ gl (.lc (.tup (.cons (.blt .abs (.cons (.idx (.var 3) (.int 0)) .nil)) (.cons (.idx (.var 3) (.int 1)) .nil))) (.nm 3) (.pln (.var 2)) .no [3]) [some (.ref n), some (.int w), some (.tup (P.map fr)), none, none] h4 = .ok (.ref h4.length) (h4 ++ [.lst ((P.map fr).map absD)]) := by
                  refine (ev_lc (p := P.map fr) (gs := []) (h1 := h4) (by simp [evi, ev, itemsD])).trans ?_
                  rw [lc_map (gsOk_nil h4) absD (P.map fr) [] (fun x hx => ?_) (len12 (by simpa using lP))]
                  · rfl
                  · obtain ⟨q, _, rfl⟩ := List.mem_map.mp hx
                    have i0 : ∀ h, ixD (fr q) (.int 0) h = .ok (.int q.num) h := fun h => by simp [fr, ixD]
                    have i1 : ∀ h, ixD (fr q) (.int 1) h = .ok (.int q.den) h := fun h => by simp [fr, ixD]
                    simp [asn, wipeD, List.set, evt, ev, evs, i0, i1, bltD, R.calm, absD_fr, lineOk, sizeLine]
                refine ⟨.tup ((P.map fr).map absD), h4 ++ [.lst ((P.map fr).map absD)], ?_, ⟨by simpa using lP, fun x hx => ?_⟩, (up3.trans u4).trans (Up.push u4.at_)⟩
                · have cc : ev Δ gl (.and (.call m (.cons (.var 2) .nil)) (.cmp .Gt (.call i (.cons (.var 0) (.cons (.int 4) .nil))) (.int 0))) [some (.ref n), some (.int w), some (.tup (P.map fr)), none, none] h3 = .ok (.bl true) h4 := by
                    simp [ev, evs, a1, asBl, e4, cmpD, pv]
                  rw [ex, cc]
                  simp only [R.toF, asBl, R.bind_ok, if_true]
                  rw [exs, ex_asg (d := .tup ((P.map fr).map absD)) (h1 := h4 ++ [.lst ((P.map fr).map absD)]) (by
                    rw [ev, evs, lc]
                    simp [evs, bltD, listAt])]
                  simp [exs, List.set]
                · obtain ⟨y, hy, rfl⟩ := List.mem_map.mp hx
                  obtain ⟨q, hq, rfl⟩ := List.mem_map.mp hy
                  exact good_abs (k := 1) (gP q hq)
              · exact ⟨cs, h4, ex_no (by simp [ev, evs, a1, asBl, e4, cmpD, pv]), g4, up3.trans u4⟩
          obtain ⟨f, h5, e5, g5, u5⟩ := hn n h4 up4.at_
          have up5 := up4.trans u5
          have g4' := g4.upd u5
          have s4 : ex Δ gl (.asg (.nm 4) (.call k (.cons (.var 0) .nil))) [some (.ref n), some (.int w), some cs2, none, none] h4 = .ok (.nx [some (.ref n), some (.int w), some cs2, none, some f]) h5 := by
            refine ex_asg ?_
            simp [ev, evs, e5]
          obtain ⟨f2, h6, s5, g6, u6⟩ : ∃ f2 h6, ex Δ gl (.asg (.nm 4) (.ife (.and (.call o (.cons (.var 4) .nil)) (.cmp .Gt (.call i (.cons (.var 0) (.cons (.int 5) .nil))) (.int 0))) (.tup (.cons (.blt .abs (.cons (.idx (.var 4) (.int 0)) .nil)) (.cons (.idx (.var 4) (.int 1)) .nil))) (.var 4))) [some (.ref n), some (.int w), some cs2, none, some f] h5 = .ok (.nx [some (.ref n), some (.int w), some cs2, none, some f2]) h6 ∧ Good n h6 3 f2 ∧ Up n N0 h5 h6 := by
            have a1 := hf n 3 f h5 g5
            cases hc : isFr f with
            | false =>
              rw [hc] at a1
              exact ⟨f, h5, ex_asg (by simp [ev, evs, a1, asBl]), g5, .refl up5.at_⟩
            | true =>
              rw [hc] at a1
              obtain ⟨q, rfl⟩ := fr_of hc
              obtain ⟨v, h6, e6, v0, v1, u6⟩ := hp n 5 h5 up5.at_ (by decide) (by decide)
              by_cases pv : 0 < v
              · have i0 : ∀ h, ixD (fr q) (.int 0) h = .ok (.int q.num) h := fun h => by simp [fr, ixD]
                have i1 : ∀ h, ixD (fr q) (.int 1) h = .ok (.int q.den) h := fun h => by simp [fr, ixD]
                exact ⟨absD (fr q), h6, ex_asg (by simp [ev, evs, a1, asBl, e6, cmpD, pv, i0, i1, bltD, lineOk, sizeLine, absD_fr]), good_abs (k := 1) (good_sz g5), u6⟩
              · exact ⟨fr q, h6, ex_asg (by simp [ev, evs, a1, asBl, e6, cmpD, pv]), g5.upd u6, u6⟩
          have up6 := up5.trans u6
          have gc6 : Good n h6 4 cs2 := g4'.upd u6
          have gf6 : Good n h6 4 f2 := g6.up
          have nl6 := up6.at_.lt
          let ys : List D := [.tup [f2, cs2], .tup [f2, cs2], .tup [f2, cs2], .ref h6.length, .tup [f2], .tup [f2, cs2, cs2], .tup [cs2, f2]]
          have up8 : Up n N0 h (h6 ++ [.lst [f2, cs2], .lst ys]) := up6.trans (Up.push up6.at_)
          have eL : (h6 ++ [C.lst [f2, cs2], .lst ys])[h6.length]? = some (.lst [f2, cs2]) := by simp
          have eY : (h6 ++ [C.lst [f2, cs2], .lst ys])[h6.length + 1]? = some (.lst ys) := by simp
          have gy : ∀ x ∈ ys, Good n (h6 ++ [.lst [f2, cs2], .lst ys]) 5 x := fun x hx => by
            simp only [ys, List.mem_cons, List.not_mem_nil, or_false] at hx
            have gf := gf6.app (t := [.lst [f2, cs2], .lst ys])
            have gc := gc6.app (t := [.lst [f2, cs2], .lst ys])
            rcases hx with rfl | rfl | rfl | rfl | rfl | rfl | rfl
            · exact good_t2 gf gc
            · exact good_t2 gf gc
            · exact good_t2 gf gc
            · exact good_l2 (by omega) eL gf gc
            · exact good_t1 gf
            · exact good_t3 gf gc gc
            · exact good_t2 gc gf
          obtain ⟨d9, h9, e9, g9, u9⟩ := hk n 5 (h6.length + 1) ys _ up8.at_ (by omega) eY (by simp [ys]) (by simp [ys]) gy
          refine fin d9 h9 g9 (up8.trans u9) ?_
          have el : ev Δ gl (.lst (.cons (.tup (.cons (.var 4) (.cons (.var 2) .nil))) (.cons (.tup (.cons (.var 4) (.cons (.var 2) .nil))) (.cons (.tup (.cons (.var 4) (.cons (.var 2) .nil))) (.cons (.lst (.cons (.var 4) (.cons (.var 2) .nil))) (.cons (.tup (.cons (.var 4) .nil)) (.cons (.tup (.cons (.var 4) (.cons (.var 2) (.cons (.var 2) .nil)))) (.cons (.tup (.cons (.var 2) (.cons (.var 4) .nil))) .nil)))))))) [some (.ref n), some (.int w), some cs2, none, some f2] h6 = .ok (.ref (h6.length + 1)) (h6 ++ [.lst [f2, cs2], .lst ys]) := by
            simp [ev, evs, lineOk, sizeLine, alloc, ys]
          unfold B_law_thing
          refine (exs_nx s1).trans ?_
          refine (exs_nx n0).trans ?_
          refine (exs_nx n1).trans ?_
          refine (exs_nx n2).trans ?_
          refine (exs_nx n3).trans ?_
          refine (exs_nx s2).trans ?_
          refine (exs_nx s3).trans ?_
          refine (exs_nx s4).trans ?_
          refine (exs_nx s5).trans ?_
          refine exs_rt ?_
          rw [ev, evs2 (x := .ref n) (h1 := h6) (by simp [ev]) el]
          exact e9
end
end HS

/-! k02: the law. -/
namespace HS
open PySem L2
def B_law02 (f__law_thing f__law_are_fractions f__law_is_fraction f__law_is_poly f__law_is_pair f_is_fraction f_is_point f_is_polynomial f_is_bounds : Nat) : Ss :=
  (.cons (.asg (.nm 1) (.call f__law_thing (.cons (.var 0) .nil))) 
  (.cons (.asg (.nm 2) (.blt .repr (.cons (.var 1) .nil))) 
  (.cons (.asg (.nm 3) (.and (.isi (.var 1) (.b "tuple")) (.and (.cmp .Eq (.blt .len (.cons (.var 1) .nil)) (.int 2)) (.call f__law_are_fractions (.cons (.var 1) .nil))))) 
  (.cons (.asg (.nm 4) (.lst (.cons (.call f__law_is_fraction (.cons (.var 1) .nil)) (.cons (.var 3) (.cons (.call f__law_is_poly (.cons (.var 1) .nil)) (.cons (.call f__law_is_pair (.cons (.var 1) .nil)) .nil)))))) 
  (.cons (.asg (.nm 5) (.lst (.cons (.call f_is_fraction (.cons (.var 1) .nil)) (.cons (.call f_is_point (.cons (.var 1) .nil)) (.cons (.call f_is_polynomial (.cons (.var 1) .nil)) (.cons (.call f_is_bounds (.cons (.var 1) .nil)) .nil)))))) 
  (.cons (.asg (.nm 6) (.lst (.cons (.callk f_is_fraction .nil [0] (.cons (.var 1) .nil)) (.cons (.callk f_is_point .nil [0] (.cons (.var 1) .nil)) (.cons (.callk f_is_polynomial .nil [0] (.cons (.var 1) .nil)) (.cons (.callk f_is_bounds .nil [0] (.cons (.var 1) .nil)) .nil)))))) 
  (.cons (.ret (.and (.cmp .Eq (.blt .repr (.cons (.lst (.cons (.var 5) (.cons (.var 6) .nil))) .nil)) (.blt .repr (.cons (.lst (.cons (.var 4) (.cons (.var 4) .nil))) .nil))) (.cmp .Eq (.blt .repr (.cons (.var 1) .nil)) (.var 2)))) .nil)))))))
def F_law02 (f__law_thing f__law_are_fractions f__law_is_fraction f__law_is_poly f__law_is_pair f_is_fraction f_is_point f_is_polynomial f_is_bounds : Nat) : Df := ⟨1, 7, B_law02 f__law_thing f__law_are_fractions f__law_is_fraction f__law_is_poly f__law_is_pair f_is_fraction f_is_point f_is_polynomial f_is_bounds⟩
def B_law02x (f__law_right f__law_sack : Nat) : Ss :=
  (.cons (.ret (.blt .all (.cons (.lc (.call f__law_right (.cons (.call f__law_sack (.cons (.var 0) (.cons (.var 1) .nil))) .nil)) (.nm 1) (.rng (.cons (.blt .max (.cons (.int 8) (.cons (.blt .min (.cons (.blt .len (.cons (.var 0) .nil)) (.cons (.int 16) .nil))) .nil))) .nil)) .no [1]) .nil))) .nil)
def F_law02x (f__law_right f__law_sack : Nat) : Df := ⟨1, 2, B_law02x f__law_right f__law_sack⟩
theorem lc_trues2 {el : D → Hh → R (Option D)} (hel : ∀ (t : Int) h, 0 ≤ t → t < 1000 → ∃ h', el (.int t) h = .ok (some (.bl true)) h') :
    ∀ (items : List Int) (acc : List Bool) (h : Hh), (∀ t ∈ items, 0 ≤ t ∧ t < 1000) → (∀ b ∈ acc, b = true) → acc.length + items.length < 1000 → ∃ (bs : List Bool) (h' : Hh), lcL [] el (items.map D.int) (acc.map D.bl) h = .ok (.ref h'.length) (h' ++ [.lst (bs.map D.bl)]) ∧ ∀ b ∈ bs, b = true
  | [], acc, h, _, ha, hl => ⟨acc, h, by
      have sl : acc.length ≤ sizeLine := Nat.le_trans (show acc.length ≤ 1000 by simp at hl; omega) (by decide)
      simp [lcL, gsOk_nil, sl, alloc], ha⟩
  | t :: items, acc, h, hi, ha, hl => by
    obtain ⟨t0, t1⟩ := hi t (by simp)
    obtain ⟨h1, e1⟩ := hel t h t0 t1
    obtain ⟨bs, h2, e2, hb⟩ := lc_trues2 hel items (acc ++ [true]) h1 (fun u hu => hi u (List.mem_cons_of_mem _ hu)) (fun b hb => by
      rcases List.mem_append.mp hb with hb | hb
      · exact ha b hb
      · exact List.mem_singleton.mp hb) (by simp at hl ⊢; omega)
    refine ⟨bs, h2, ?_, hb⟩
    have sl : (acc.map D.bl).length < sizeLine := Nat.lt_of_lt_of_le (show (acc.map D.bl).length < 1001 by simp at hl ⊢; omega) (by decide)
    rw [List.map_cons]
    unfold lcL
    rw [if_pos ⟨gsOk_nil _, sl⟩, e1]
    simp only [R.bind_ok]
    rw [← e2]
    simp
theorem blsOf_k2 : ∀ (l : List Bool), blsOf (l.map D.bl) = some l
  | [] => rfl
  | a :: l => by simp [blsOf, blsOf_k2 l]
theorem repr_deep {h : Hh} {x : D} {d : PyData} {w k : Nat} (e : x.deep h = some d) (s : Shw d w k) (hw : w ≤ 16777216) (hk : k ≤ 60) : bltD .repr [x] h = .ok (.str d.shown) h := by
  have l : d.shown.length ≤ sizeLine := Nat.le_trans s.ln hw
  have p := s.dp
  simp only [bltD, e]
  rw [if_pos ⟨s.sh, l, by omega⟩]
def S_right02 (f : Fn) : Prop := ∀ (n : Nat) h, UAt n N0 h → ∃ h', f [.ref n] h = .ok (.bl true) h'
section
variable {Δ : Nat → Fn} {gl : Nat → D}
theorem spot_ev {i n k : Nat} {d : D} {h : Hh} {ρ : En} (hv : ρ[1]? = some (some d)) (g : Good n h k d) (ha : S_areD (Δ i)) : ev Δ gl (.and (.isi (.var 1) (.b "tuple")) (.and (.cmp .Eq (.blt .len (.cons (.var 1) .nil)) (.int 2)) (.call i (.cons (.var 1) .nil)))) ρ h = .ok (.bl (spot d)) h := by
  have e1 := isi_t g
  have a1 := ha n k d h g
  have ce : ∀ (x y : Int) h, cmpD .Eq (.int x) (.int y) h = .ok (.bl (decide (x = y))) h := fun _ _ _ => rfl
  cases d with
  | tup xs =>
    have e1 : isiD h (.tup xs) (.b "tuple") = .ok (.bl true) h := e1
    rw [and_tt (h1 := h) (by simp [ev, hv, e1])]
    by_cases l2 : xs.length = 2
    · match xs, l2 with
      | [x, y], _ =>
        rw [and_tt (h1 := h) (by simp [ev, evs, hv, bltD, ce])]
        have t : areFr (.tup [x, y]) = spot (.tup [x, y]) := by
          show (isFr x && (isFr y && true)) = (isFr x && isFr y)
          rw [Bool.and_true]
        rw [t] at a1
        simp [ev, evs, hv, a1]
    · have t : spot (.tup xs) = false := by
        unfold spot
        split
        · rename_i q
          cases q
          simp at l2
        · rfl
      rw [t]
      have l2' : ¬ (xs.length : Int) = 2 := by omega
      simp [ev, evs, hv, bltD, ce, l2', asBl]
  | _ =>
    simp only [isTp] at e1
    simp [ev, hv, e1, asBl, spot]
set_option maxHeartbeats 1000000 in
theorem s_law_right02 {i j k l m a b c e : Nat} (ht : S_draw 5 (Δ i)) (hA : S_areD (Δ j)) (hF : S_frD (Δ k)) (hP : S_polyD (Δ l)) (hB : S_bndD (Δ m)) (pF : S_frD (Δ a)) (pS : S_spotD (Δ b)) (pP : S_polyD (Δ c)) (pB : S_bndD (Δ e)) : S_right02 (run Δ gl (F_law02 i j k l m a b c e)) := by
  intro n h ua
  obtain ⟨d, h1, e1, g1, u1⟩ := ht n h ua
  have r1 := good_repr g1
  generalize ef : isFr d = f
  generalize es : spot d = s
  generalize ep : polyV d = p
  generalize eb : bndV d = q
  let bs : List D := [.bl f, .bl s, .bl p, .bl q]
  let pb : PyData := .list [.bool f, .bool s, .bool p, .bool q]
  let L := h1.length
  have L1 : ∀ t : Hh, Good n (h1 ++ t) 5 d := fun t => g1.app
  have sp : ev Δ gl (.and (.isi (.var 1) (.b "tuple")) (.and (.cmp .Eq (.blt .len (.cons (.var 1) .nil)) (.int 2)) (.call j (.cons (.var 1) .nil)))) [some (.ref n), some d, some (.str (shownD h1 d)), none, none, none, none] h1 = .ok (.bl s) h1 := by
    rw [← es]
    exact spot_ev rfl g1 hA
  have v1 := fun t => hF n 5 d (h1 ++ t) (L1 t)
  have v2 := fun t => hP n 5 d (h1 ++ t) (L1 t)
  have v3 := fun t => hB n 5 d (h1 ++ t) (L1 t)
  have w1 := fun t => pF n 5 d (h1 ++ t) (L1 t)
  have w2 := fun t => pS n 5 d (h1 ++ t) (L1 t)
  have w3 := fun t => pP n 5 d (h1 ++ t) (L1 t)
  have w4 := fun t => pB n 5 d (h1 ++ t) (L1 t)
  rw [ef] at v1 w1
  rw [es] at w2
  rw [ep] at v2 w3
  rw [eb] at v3 w4
  let H : Hh := h1 ++ [.lst bs, .lst bs, .lst bs, .lst [.ref (L + 1), .ref (L + 2)]]
  let H2 : Hh := h1 ++ [.lst bs, .lst bs, .lst bs, .lst [.ref (L + 1), .ref (L + 2)], .lst [.ref L, .ref L]]
  have sb : Shw (.list [pb, pb]) 100 2 := by
    have x1 : Shws [.bool f, .bool s, .bool p, .bool q] 40 0 := .cons (w2 := 30) .bl (.cons (w2 := 20) .bl (.cons (w2 := 10) .bl (.cons (w2 := 0) .bl .nil (by decide)) (by decide)) (by decide)) (by decide)
    have x2 : Shw pb 43 1 := .lst x1
    have x3 : Shws [pb, pb] 90 1 := .cons (w2 := 45) x2 (.cons (w2 := 0) x2 .nil (by decide)) (by decide)
    exact (Shw.lst x3).mono (by decide) (Nat.le_refl _)
  have dB : ∀ rd, D.deepsW rd bs = some [.bool f, .bool s, .bool p, .bool q] := fun rd => by simp [bs, D.deepsW, D.deepW]
  have q1 : ∀ (T : Hh) (i m : Nat), T[i]? = some (.lst bs) → deepR T (m + 1) i = some pb := fun T i m ht => by
    unfold deepR
    rw [ht]
    simp only [dB]
    rfl
  have dd1 : (D.ref (L + 3)).deep H = some (.list [pb, pb]) := by
    have a0 : H[L + 3]? = some (.lst [.ref (L + 1), .ref (L + 2)]) := by simp [H, L]
    have a1 : H[L + 1]? = some (.lst bs) := by simp [H, L]
    have a2 : H[L + 2]? = some (.lst bs) := by simp [H, L]
    show deepR H (7 + 1) (L + 3) = _
    unfold deepR
    rw [a0]
    simp only [D.deepsW, D.deepW, q1 H _ 6 a1, q1 H _ 6 a2]
  have dd2 : (D.ref (L + 4)).deep H2 = some (.list [pb, pb]) := by
    have a0 : H2[L + 4]? = some (.lst [.ref L, .ref L]) := by simp [H2, L]
    have a1 : H2[L]? = some (.lst bs) := by simp [H2, L]
    show deepR H2 (7 + 1) (L + 4) = _
    unfold deepR
    rw [a0]
    simp only [D.deepsW, D.deepW, q1 H2 _ 6 a1]
  have rr1 := repr_deep dd1 sb (by decide) (by decide)
  have rr2 := repr_deep dd2 sb (by decide) (by decide)
  have rr3 : bltD .repr [d] H2 = .ok (.str (shownD h1 d)) H2 := by
    rw [good_repr (g1.app (t := [.lst bs, .lst bs, .lst bs, .lst [.ref (L + 1), .ref (L + 2)], .lst [.ref L, .ref L]])), good_shown (n := n) (fun j _ hj => List.getElem?_append_left hj) g1]
  have key : exs Δ gl (B_law02 i j k l m a b c e) [some (.ref n), none, none, none, none, none, none] h = .ok (.rt (.bl true)) H2 := by
    unfold B_law02
    refine (exs_nx (ex_asg (d := d) (h1 := h1) ?_)).trans ?_
    · simp [ev, evs, e1]
    simp only [List.set]
    refine (exs_nx (ex_asg (d := .str (shownD h1 d)) (h1 := h1) ?_)).trans ?_
    · simp [ev, evs, r1]
    simp only [List.set]
    refine (exs_nx (ex_asg sp)).trans ?_
    simp only [List.set]
    refine (exs_nx (ex_asg (d := .ref L) (h1 := h1 ++ [.lst bs]) ?_)).trans ?_
    · have x1 := v1 []
      have x2 := v2 []
      have x3 := v3 []
      simp only [List.append_nil] at x1 x2 x3
      simp [ev, evs, x1, x2, x3, lineOk, sizeLine, alloc, bs, L]
    simp only [List.set]
    refine (exs_nx (ex_asg (d := .ref (L + 1)) (h1 := h1 ++ [.lst bs, .lst bs]) ?_)).trans ?_
    · simp [ev, evs, w1, w2, w3, w4, lineOk, sizeLine, alloc, bs, L]
    simp only [List.set]
    refine (exs_nx (ex_asg (d := .ref (L + 2)) (h1 := h1 ++ [.lst bs, .lst bs, .lst bs]) ?_)).trans ?_
    · simp [ev, evs, w1, w2, w3, w4, lineOk, sizeLine, alloc, bs, L]
    simp only [List.set]
    refine exs_rt ?_
    have f1 : ev Δ gl (.blt .repr (.cons (.lst (.cons (.var 5) (.cons (.var 6) .nil))) .nil)) [some (.ref n), some d, some (.str (shownD h1 d)), some (.bl s), some (.ref L), some (.ref (L + 1)), some (.ref (L + 2))] (h1 ++ [.lst bs, .lst bs, .lst bs]) = .ok (.str (PyData.list [pb, pb]).shown) H := by
      refine ev_repr (d := .ref (L + 3)) (h1 := H) ?_ rr1
      simp [ev, evs, lineOk, sizeLine, alloc, H, L]
    have f2 : ev Δ gl (.blt .repr (.cons (.lst (.cons (.var 4) (.cons (.var 4) .nil))) .nil)) [some (.ref n), some d, some (.str (shownD h1 d)), some (.bl s), some (.ref L), some (.ref (L + 1)), some (.ref (L + 2))] H = .ok (.str (PyData.list [pb, pb]).shown) H2 := by
      refine ev_repr (d := .ref (L + 4)) (h1 := H2) ?_ rr2
      simp [ev, evs, lineOk, sizeLine, alloc, H, H2, L]
    have f3 : ev Δ gl (.blt .repr (.cons (.var 1) .nil)) [some (.ref n), some d, some (.str (shownD h1 d)), some (.bl s), some (.ref L), some (.ref (L + 1)), some (.ref (L + 2))] H2 = .ok (.str (shownD h1 d)) H2 := ev_repr (d := d) (h1 := H2) (by simp [ev]) rr3
    have ce : ∀ (x : Str) h, cmpD .Eq (.str x) (.str x) h = .ok (.bl true) h := fun x h => by simp [cmpD, eqD]
    have c1 : ev Δ gl (.cmp .Eq (.blt .repr (.cons (.lst (.cons (.var 5) (.cons (.var 6) .nil))) .nil)) (.blt .repr (.cons (.lst (.cons (.var 4) (.cons (.var 4) .nil))) .nil))) [some (.ref n), some d, some (.str (shownD h1 d)), some (.bl s), some (.ref L), some (.ref (L + 1)), some (.ref (L + 2))] (h1 ++ [.lst bs, .lst bs, .lst bs]) = .ok (.bl true) H2 := by
      rw [ev, f1]
      simp only [R.bind_ok, f2, ce]
    rw [and_tt c1, ev, f3]
    simp [ev, ce]
  have t : ∃ h9, tidy h (.bl true) H2 = .ok (.bl true) h9 := by
    rcases tidy_flat (h := h) (h' := H2) (d := .bl true) rfl with q | q
    · exact ⟨_, q⟩
    · exact ⟨_, q⟩
  obtain ⟨h9, t⟩ := t
  refine ⟨h9, ?_⟩
  simp only [run, F_law02, List.length_cons, List.length_nil, if_true, List.map_cons, List.map_nil, List.replicate, List.cons_append, List.nil_append]
  rw [key]
  exact t
theorem s_law02 {i j : Nat} (hr : S_right02 (Δ i)) (hu : S_sack (Δ j)) : S_law (run Δ gl (F_law02x i j)) := by
  intro ns hl
  obtain ⟨c, hc, ec⟩ : ∃ c : Nat, c ≤ 16 ∧ evs Δ gl (.cons (.blt .max (.cons (.int 8) (.cons (.blt .min (.cons (.blt .len (.cons (.var 0) .nil)) (.cons (.int 16) .nil))) .nil))) .nil) [some (.fz (ns.map D.int)), none] [] = .ok [.int (c : Int)] [] := by
    by_cases h4 : (16 : Int) < ns.length
    · refine ⟨16, by decide, ?_⟩
      simp [evs, ev, bltD, h4]
    · by_cases h2 : (8 : Int) < ns.length
      · refine ⟨ns.length, by omega, ?_⟩
        have h2' : 8 < ns.length := by omega
        have h4' : ¬ 16 < ns.length := by omega
        simp [evs, ev, bltD, h4, h2, h2', h4']
      · refine ⟨8, by decide, ?_⟩
        have h2' : ¬ 8 < ns.length := by omega
        have h4' : ¬ 16 < ns.length := by omega
        simp [evs, ev, bltD, h4, h2, h2', h4']
  obtain ⟨bs, h', e1, hb⟩ := lc_trues2 (el := fun d h => ((asn Δ gl (.nm 1) d (wipeD [some (.fz (ns.map D.int)), none] [1]) h).bind fun ρ1 h => (evt Δ gl .no ρ1 h).bind fun b h => if b = true then (ev Δ gl (.call i (.cons (.call j (.cons (.var 0) (.cons (.var 1) .nil))) .nil)) ρ1 h).bind fun y h => .ok (some y) h else .ok none h).calm) (fun t h t0 t1 => by
      obtain ⟨xs, ux, e⟩ := hu ns t h hl t0 t1
      obtain ⟨h2, e2⟩ := hr h.length (h ++ [.lst xs]) ⟨xs, get_end, ux⟩
      exact ⟨h2, by simp [asn, wipeD, List.set, evt, ev, evs, e, e2, R.calm]⟩) ((List.range c).map fun k : Nat => (k : Int)) [] [] (fun t ht => by
      obtain ⟨k, hk, rfl⟩ := List.mem_map.mp ht
      have := List.mem_range.mp hk
      omega) (by simp) (by simp; omega)
  have eu : ((List.range c).map fun k : Nat => (k : Int)).map D.int = upFrom 0 c := by
    unfold upFrom
    rw [List.map_map]
    exact List.map_congr_left fun k _ => by simp
  rw [eu] at e1
  simp only [List.map_nil] at e1
  have al : bs.all id = true := by
    rw [List.all_eq_true]
    intro b hb'
    exact hb b hb'
  have key : exs Δ gl (B_law02x i j) [some (.fz (ns.map D.int)), none] [] = .ok (.rt (.bl true)) (h' ++ [.lst (bs.map D.bl)]) := by
    unfold B_law02x
    refine exs_rt ?_
    have eA := (ev_lc (elt := .call i (.cons (.call j (.cons (.var 0) (.cons (.var 1) .nil))) .nil)) (t := .nm 1) (tt := .no) (own := [1]) (ρ := [some (.fz (ns.map D.int)), none]) (h := []) (p := upFrom 0 c) (gs := []) (h1 := []) (evi_rng1 (k := c) ec (small_nat (by omega)))).trans e1
    rw [ev, evs, eA]
    simp only [evs, R.bind_ok, bltD, listAt, get_end, blsOf_k2, al]
  have tt : ∃ h12, tidy [] (.bl true) (h' ++ [.lst (bs.map D.bl)]) = .ok (.bl true) h12 := by
    rcases tidy_flat (h := []) (h' := h' ++ [.lst (bs.map D.bl)]) (d := .bl true) rfl with q | q
    · exact ⟨_, q⟩
    · exact ⟨_, q⟩
  obtain ⟨h12, tt⟩ := tt
  refine ⟨h12, ?_⟩
  simp only [run, F_law02x, List.length_cons, List.length_nil, if_true, List.map_cons, List.map_nil, List.replicate, List.cons_append, List.nil_append]
  rw [key]
  exact tt
end
end HS

namespace K02
open PySem HS
noncomputable abbrev q (n k : Nat) : Fn := dels ds (fun k => gls.getD k .non) n k
theorem t0 (n : Nat) (h : 0 < n) : S_wholeD (q n 0) := by rw [q, call_at (d := d_is_whole) rfl h]; exact s_is_wholeD
theorem t2 (n : Nat) (h : 0 < n) : S_div (q n 2) := by rw [q, call_at (d := d_divisor_of) rfl h]; exact s_divisor_of
theorem t14 (n : Nat) (h : 0 < n) : S_sack (q n 14) := by rw [q, call_at (d := d_law_sack) rfl h]; exact s_law_sack
theorem t15 (n : Nat) (h : 0 < n) : S_pull (q n 15) := by rw [q, call_at (d := d_law_pull) rfl h]; exact s_law_pull
theorem t17 (n : Nat) (h : 0 < n) : S_with (q n 17) := by rw [q, call_at (d := d_law_f) rfl h]; exact s_law_f
theorem t1 (n : Nat) (h : 1 < n) : S_wholesD (q n 1) := by rw [q, call_at (d := d_are_wholes) rfl h]; exact s_are_wholesD (t0 1 (by decide))
theorem t3 (n : Nat) (h : 1 < n) : S_redD (q n 3) := by rw [q, call_at (d := d_is_reduced) rfl h]; exact s_is_reducedD (t2 1 (by decide))
theorem t16 (n : Nat) (h : 1 < n) : S_pickG (q n 16) := by rw [q, call_at (d := d_law_pick) rfl h]; exact s_law_pickG (t15 1 (by decide))
theorem t18 (n : Nat) (h : 1 < n) : S_frD (q n 18) := by rw [q, call_at (d := d_law_is_fraction) rfl h]; exact s_law_is_fraction (t17 1 (by decide))
theorem t4 (n : Nat) (h : 2 < n) : S_frD (q n 4) := by rw [q, call_at (d := d_is_ratio) rfl h]; exact s_is_ratioD (t1 2 (by decide)) (t3 2 (by decide))
theorem t19 (n : Nat) (h : 2 < n) : S_draw 3 (q n 19) := by rw [q, call_at (d := d_law_odd) rfl h]; exact s_law_odd (t16 2 (by decide))
theorem t22 (n : Nat) (h : 2 < n) : S_areD (q n 22) := by rw [q, call_at (d := d_law_are_fractions) rfl h]; exact s_law_are_fractions (t18 2 (by decide))
theorem t5 (n : Nat) (h : 3 < n) : S_areD (q n 5) := by rw [q, call_at (d := d_are_ratios) rfl h]; exact s_are_ratiosD (t4 3 (by decide))
theorem t7 (n : Nat) (h : 3 < n) : S_fnD (q n 7) := by rw [q, call_at (d := d_is_from_nought) rfl h]; exact s_is_from_nought (t4 3 (by decide))
theorem t9 (n : Nat) (h : 3 < n) : S_spotD (q n 9) := by rw [q, call_at (d := d_is_pair) rfl h]; exact s_is_pairD (t4 3 (by decide))
theorem t11 (n : Nat) (h : 3 < n) : S_frD (q n 11) := by rw [q, call_at (d := d_is_fraction) rfl h]; exact s_is_fraction (t4 3 (by decide))
theorem t20 (n : Nat) (h : 3 < n) : S_draw 3 (q n 20) := by rw [q, call_at (d := d_law_number) rfl h]; exact s_law_number (t17 3 (by decide)) (t15 3 (by decide)) (t16 3 (by decide)) (t19 3 (by decide))
theorem t23 (n : Nat) (h : 3 < n) : S_polyD (q n 23) := by rw [q, call_at (d := d_law_is_poly) rfl h]; exact s_law_is_poly (t22 3 (by decide))
theorem t24 (n : Nat) (h : 3 < n) : S_bndD (q n 24) := by rw [q, call_at (d := d_law_is_pair) rfl h]; exact s_law_is_pair (t18 3 (by decide)) (t22 3 (by decide))
theorem t6 (n : Nat) (h : 4 < n) : S_polyD (q n 6) := by rw [q, call_at (d := d_is_parts) rfl h]; exact s_is_partsD (t5 4 (by decide)) rfl rfl
theorem t8 (n : Nat) (h : 4 < n) : S_bndD (q n 8) := by rw [q, call_at (d := d_are_bounds) rfl h]; exact s_are_bounds (t7 4 (by decide)) (t5 4 (by decide)) rfl rfl
theorem t12 (n : Nat) (h : 4 < n) : S_spotD (q n 12) := by rw [q, call_at (d := d_is_point) rfl h]; exact s_is_point (t9 4 (by decide))
theorem t21 (n : Nat) (h : 4 < n) : S_row (q n 21) := by rw [q, call_at (d := d_law_row) rfl h]; exact s_law_row (t20 4 (by decide)) (t15 4 (by decide))
theorem t10 (n : Nat) (h : 5 < n) : S_bndD (q n 10) := by rw [q, call_at (d := d_is_bounds) rfl h]; exact s_is_bounds (t8 5 (by decide))
theorem t13 (n : Nat) (h : 5 < n) : S_polyD (q n 13) := by rw [q, call_at (d := d_is_polynomial) rfl h]; exact s_is_polynomial (t6 5 (by decide))
theorem t25 (n : Nat) (h : 5 < n) : S_draw 5 (q n 25) := by rw [q, call_at (d := d_law_thing) rfl h]; exact s_law_thing (t15 5 (by decide)) (t19 5 (by decide)) (t20 5 (by decide)) (t21 5 (by decide)) (t22 5 (by decide)) (t18 5 (by decide)) (t16 5 (by decide))
theorem t26 (n : Nat) (h : 6 < n) : S_right02 (q n 26) := by rw [q, call_at (d := d_law_right) rfl h]; exact s_law_right02 (t25 6 (by decide)) (t22 6 (by decide)) (t18 6 (by decide)) (t23 6 (by decide)) (t24 6 (by decide)) (t11 6 (by decide)) (t12 6 (by decide)) (t13 6 (by decide)) (t10 6 (by decide))
theorem t27 (n : Nat) (h : 7 < n) : S_law (q n 27) := by rw [q, call_at (d := d_law) rfl h]; exact s_law02 (t26 7 (by decide)) (t14 7 (by decide))
theorem plain : Plain := fun ns hl => t27 8 (by decide) ns hl
end K02

open PySem PySem.W PySem.Calls PyProof.Rows
set_option maxHeartbeats 0 in
theorem PySem.Challenge.cw_homesteps_k02_whole_numbers_told_of_anyt_holds : PySem.Challenge.rw_homesteps_k02_whole_numbers_told_of_anyt.Holds := by
  w_on; o_law
  refine HandSHeadRun.head_imp (r := OpenLaw.row PySem.Challenge.rw_homesteps_k02_whole_numbers_told_of_anyt) (q := view (OpenLaw.row PySem.Challenge.rw_homesteps_k02_whole_numbers_told_of_anyt).prog [0, 39]) (H := K02.hk) (ob := K02.ob) (M := 6000) (loose := K02.nm) (d := HandSHeadRun.topDef (OpenLaw.row PySem.Challenge.rw_homesteps_k02_whole_numbers_told_of_anyt).prog 39) (kwd := []) K02.ob_eq
    K02.run (by kernel_rfl) (by kernel_rfl) (by kernel_rfl) (by rfl) (by first | assumption | decide +kernel) (by decide +kernel) ⟨rfl, rfl, rfl, rfl, rfl, by decide +kernel⟩ ?hw ?hc
  case hw => w_witness2
  case hc =>
    refine HS.walk_end (l := PySem.Challenge.rw_homesteps_k02_whole_numbers_told_of_anyt) (n := 63) (x := "script") rfl (by decide) (by kernel_rfl) ?F
    intro w mg h Y G
    have e : (HandSHeadRun.topDef (OpenLaw.row PySem.Challenge.rw_homesteps_k02_whole_numbers_told_of_anyt).prog 39).name = ("law" : PySem.Str) := by kernel_rfl
    rw [e]
    exact K02.fin K02.plain Y G
